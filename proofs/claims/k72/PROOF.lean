import PyProof.Rows.All
import Wide.All
import OpenK.AllK
import Wide.FinOn
import HandS.ForMost
import HandS.Exc
import HandS.ExcOwn
import HandS.TryOnly
import HandS.WordsExc
import HandS.CallSlots
import HandS.TupAny
import HandS.Deep
import HandS.Flow
import HandS.Wide
import HandS.IsInst
import HandS.Conv
import HandS.Property
import HandS.ClsMeth
import HandS.FStr
import HandS.RaiseMore
import HandS.Defaults
import HandS.Zip
import HandS.Style
import HandS.Nested
import KE.KDictKeyed
import KE.KDictDisplayH
import KE.GoesEnum
import KE.GoesZip
import KE.GoesMore
import KE.KStateDown
import KE.KLam
import HandS.Head0
import HandS.Head1
import HandS.Head2
import HandS.HeadEnd
import HandS.HeadHook1
import HandS.HeadHook2
import HandS.HeadHook3
import HandS.HeadNt
import HandS.EndBits
import HandS.EndTab
import KE.KExcPX
import HandS.ExcInit
import HandS.Codes
import HandS.WideBits
import HandS.SetFor
import HandS.Comp
import HandS.Text
import HandS.Strs
import PyProof.Rows.BitMore
import HandS.Set
import HandS.TupSets
import PyProof.StrBlock2
import HandS.Star
import PyProof.NeKinds
import HandS.TupMul
import PySem.Challenge.RW_filledrows_k72_small_machines_judged
set_option Elab.async false
set_option linter.all false
section S_Sem
/-! Sem: an executable meaning for the Python subset (values as data, a heap as a list). Plain Lean. -/
set_option linter.all false
namespace DL

/-- the longest list, tuple, text -/
abbrev LIM : Nat := 16777216

inductive VV where
  | non | bl (b : Bool) | int (i : Int) | str (s : List Nat) | ref (i : Nat) | tup (xs : List VV)
  | exc (c : Nat) (fs : List (Nat × VV)) | clo (f : Nat) (cs : List VV) | cls (c : Nat)
  deriving Inhabited, Repr

mutual
def VV.beq : VV → VV → Bool
  | .non, .non => true
  | .bl a, .bl b => a == b
  | .int a, .int b => decide (a = b)
  | .str a, .str b => decide (a = b)
  | .ref a, .ref b => decide (a = b)
  | .tup a, .tup b => beqL a b
  | .exc c a, .exc d b => decide (c = d) && beqF a b
  | .clo c a, .clo d b => decide (c = d) && beqL a b
  | .cls a, .cls b => decide (a = b)
  | _, _ => false
def beqL : List VV → List VV → Bool
  | [], [] => true
  | x :: xs, y :: ys => VV.beq x y && beqL xs ys
  | _, _ => false
def beqF : List (Nat × VV) → List (Nat × VV) → Bool
  | [], [] => true
  | (n, x) :: xs, (m, y) :: ys => decide (n = m) && (VV.beq x y && beqF xs ys)
  | _, _ => false
end
mutual
theorem VV.eq_of_beq : ∀ {x y : VV}, VV.beq x y = true → x = y
  | .non, y, h => by cases y <;> simp [VV.beq] at h ⊢
  | .bl a, y, h => by cases y <;> simp [VV.beq] at h ⊢; exact h
  | .int a, y, h => by cases y <;> simp [VV.beq] at h ⊢; exact h
  | .str a, y, h => by cases y <;> simp [VV.beq] at h ⊢; exact h
  | .ref a, y, h => by cases y <;> simp [VV.beq] at h ⊢; exact h
  | .tup a, y, h => by
    cases y <;> simp [VV.beq] at h ⊢
    exact eq_of_beqL h
  | .exc c a, y, h => by
    cases y <;> simp [VV.beq] at h ⊢
    exact ⟨h.1, eq_of_beqF h.2⟩
  | .clo c a, y, h => by
    cases y <;> simp [VV.beq] at h ⊢
    exact ⟨h.1, eq_of_beqL h.2⟩
  | .cls a, y, h => by cases y <;> simp [VV.beq] at h ⊢; exact h
theorem eq_of_beqL : ∀ {x y : List VV}, beqL x y = true → x = y
  | [], y, h => by cases y <;> simp [beqL] at h ⊢
  | a :: x, y, h => by
    cases y <;> simp [beqL] at h ⊢
    exact ⟨VV.eq_of_beq h.1, eq_of_beqL h.2⟩
theorem eq_of_beqF : ∀ {x y : List (Nat × VV)}, beqF x y = true → x = y
  | [], y, h => by cases y <;> simp [beqF] at h ⊢
  | (n, a) :: x, y, h => by
    cases y with
    | nil => simp [beqF] at h
    | cons b y =>
      obtain ⟨m, b⟩ := b
      simp [beqF] at h
      rw [h.1, VV.eq_of_beq h.2.1, eq_of_beqF h.2.2]
end
mutual
theorem VV.beq_rfl : ∀ (x : VV), VV.beq x x = true
  | .non => rfl
  | .bl a => by simp [VV.beq]
  | .int a => by simp [VV.beq]
  | .str a => by simp [VV.beq]
  | .ref a => by simp [VV.beq]
  | .tup a => by simp [VV.beq, beqL_rfl a]
  | .exc c a => by simp [VV.beq, beqF_rfl a]
  | .clo c a => by simp [VV.beq, beqL_rfl a]
  | .cls a => by simp [VV.beq]
theorem beqL_rfl : ∀ (x : List VV), beqL x x = true
  | [] => rfl
  | a :: x => by simp [beqL, VV.beq_rfl a, beqL_rfl x]
theorem beqF_rfl : ∀ (x : List (Nat × VV)), beqF x x = true
  | [] => rfl
  | (n, a) :: x => by simp [beqF, VV.beq_rfl a, beqF_rfl x]
end
instance : DecidableEq VV := fun x y => if h : VV.beq x y = true then .isTrue (VV.eq_of_beq h) else .isFalse fun e => h (e ▸ VV.beq_rfl x)

inductive VO where
  | lst (xs : List VV) | flst (xs : List VV) | dic (kvs : List (VV × VV)) | ins (c : Nat) (fs : List (Nat × VV)) | nset (i : Nat) (ks : List VV)
  deriving DecidableEq, Inhabited, Repr

abbrev Hv := List VO
/-! keys: a truth value is a number -/
mutual
def normV : VV → Option VV
  | .non => some .non
  | .bl b => some (.int (if b then 1 else 0))
  | .int i => some (.int i)
  | .str s => some (.str s)
  | .tup xs => match normL xs with
    | some ys => some (.tup ys)
    | none => none
  | _ => none
def normL : List VV → Option (List VV)
  | [] => some []
  | x :: xs => match normV x with
    | some y => match normL xs with
      | some ys => some (y :: ys)
      | none => none
    | none => none
end
mutual
def depV : VV → Nat
  | .tup xs => depL xs + 1
  | _ => 0
def depL : List VV → Nat
  | [] => 0
  | x :: xs => max (depV x) (depL xs)
end
abbrev Env := List (Option VV)

/-- what an expression comes to: a value, an exception, or something that is not said here -/
inductive R (α : Type) where
  | ok (a : α) (G : Hv) | exn (x : VV) (G : Hv) | bad
  deriving Inhabited, Repr
/-- what a statement comes to -/
inductive O where
  | nx (S : Env) (G : Hv) | rt (v : VV) (G : Hv) | bk (S : Env) (G : Hv) | ct (S : Env) (G : Hv) | exn (x : VV) (S : Env) (G : Hv) | bad
  deriving Inhabited, Repr

abbrev DE := Env → Hv → R VV
abbrev DT := Env → Hv → R Bool
abbrev DA := Env → Hv → R (List VV)
abbrev DS := Env → Hv → O
abbrev DG := VV → Env → Hv → O

def R.bind {α β : Type} (r : R α) (f : α → Hv → R β) : R β := match r with
  | .ok a G => f a G
  | .exn x G => .exn x G
  | .bad => .bad
@[simp] theorem R.bind_ok {α β : Type} (a : α) (G : Hv) (f : α → Hv → R β) : (R.ok a G).bind f = f a G := rfl
@[simp] theorem R.bind_exn {α β : Type} (x : VV) (G : Hv) (f : α → Hv → R β) : (R.exn x G : R α).bind f = .exn x G := rfl
@[simp] theorem R.bind_bad {α β : Type} (f : α → Hv → R β) : (R.bad : R α).bind f = .bad := rfl
/-- an expression's result in a statement -/
def R.st {α : Type} (r : R α) (S : Env) (f : α → Hv → O) : O := match r with
  | .ok a G => f a G
  | .exn x G => .exn x S G
  | .bad => .bad
@[simp] theorem R.st_ok {α : Type} (a : α) (G : Hv) (S : Env) (f : α → Hv → O) : (R.ok a G).st S f = f a G := rfl
@[simp] theorem R.st_exn {α : Type} (x : VV) (G : Hv) (S : Env) (f : α → Hv → O) : (R.exn x G : R α).st S f = .exn x S G := rfl
@[simp] theorem R.st_bad {α : Type} (S : Env) (f : α → Hv → O) : (R.bad : R α).st S f = .bad := rfl
def ofO {α : Type} : Option (α × Hv) → R α
  | some (v, G) => .ok v G
  | none => .bad
@[simp] theorem ofO_some {α : Type} (v : α) (G : Hv) : ofO (some (v, G)) = R.ok v G := rfl
@[simp] theorem ofO_none {α : Type} : ofO (none : Option (α × Hv)) = R.bad := rfl
/-- an answer that leaves the heap -/
def ofP {α : Type} (o : Option α) (G : Hv) : R α := match o with
  | some v => .ok v G
  | none => .bad
@[simp] theorem ofP_some {α : Type} (v : α) (G : Hv) : ofP (some v) G = R.ok v G := rfl
@[simp] theorem ofP_none {α : Type} (G : Hv) : ofP (none : Option α) G = R.bad := rfl

/-! ### names, constants -/
def dC (v : VV) : DE := fun _ G => .ok v G
def dVar (i : Nat) : DE := fun S G => match S[i]? with
  | some (some v) => .ok v G
  | _ => .bad
def dBad : DE := fun _ _ => .bad

/-! ### operators by values -/
def asList (G : Hv) : VV → Option (List VV)
  | .ref i => match G[i]? with
    | some (.lst xs) => some xs
    | _ => none
  | _ => none
/-- a list that is read: also the locked one -/
def asListR (G : Hv) : VV → Option (List VV)
  | .ref i => match G[i]? with
    | some (.lst xs) => some xs
    | some (.flst xs) => some xs
    | _ => none
  | _ => none
/-- a list or a tuple that is read -/
def asSeq (G : Hv) : VV → Option (List VV)
  | .tup xs => some xs
  | v => asListR G v
def newL (G : Hv) (xs : List VV) : VV × Hv := (.ref G.length, G ++ [.lst xs])

def oAdd (x y : VV) (G : Hv) : Option (VV × Hv) := match x, y with
  | .int i, .int j => some (.int (i + j), G)
  | .str a, .str b => if a.length + b.length ≤ LIM then some (.str (a ++ b), G) else none
  | .tup a, .tup b => if a.length + b.length ≤ LIM then some (.tup (a ++ b), G) else none
  | .ref i, .ref j => match G[i]?, G[j]? with
    | some (.lst a), some (.lst b) => if a.length + b.length ≤ LIM then some (newL G (a ++ b)) else none
    | _, _ => none
  | _, _ => none
def oSub (x y : VV) (G : Hv) : Option (VV × Hv) := match x, y with
  | .int i, .int j => some (.int (i - j), G)
  | _, _ => none
/-- a product that is not too great -/
def MulOk (i j : Int) : Prop := i.natAbs.log2 + j.natAbs.log2 < 100000000
instance (i j : Int) : Decidable (MulOk i j) := inferInstanceAs (Decidable (i.natAbs.log2 + j.natAbs.log2 < 100000000))
def repL (xs : List VV) : Nat → List VV
  | 0 => []
  | n + 1 => xs ++ repL xs n
def oMul (x y : VV) (G : Hv) : Option (VV × Hv) := match x, y with
  | .int i, .int j => if MulOk i j then some (.int (i * j), G) else none
  | .ref a, .int k => match G[a]? with
    | some (.lst xs) => if -(2 ^ 63) ≤ k ∧ k < 2 ^ 63 ∧ xs.length * k.toNat ≤ LIM then some (newL G (repL xs k.toNat)) else none
    | _ => none
  | _, _ => none
def oFdiv (x y : VV) (G : Hv) : Option (VV × Hv) := match x, y with
  | .int i, .int j => if 0 < j ∧ j < 1073741824 then some (.int (i / j), G) else none
  | _, _ => none
def oMod (x y : VV) (G : Hv) : Option (VV × Hv) := match x, y with
  | .int i, .int j => if 0 < j then some (.int (i % j), G) else none
  | _, _ => none
def oPow (x y : VV) (G : Hv) : Option (VV × Hv) := match x, y with
  | .int i, .int j => if 0 ≤ j ∧ j ≤ 1000 ∧ i.natAbs < 2 ^ 64 then some (.int (i ^ j.toNat), G) else none
  | _, _ => none
def oNeg (x : VV) : Option VV := match x with
  | .int i => some (.int (-i))
  | _ => none
/-! equality: flat values, tuples and lists of such to a depth -/
def b2i (b : Bool) : Int := if b then 1 else 0
def eqFlat : VV → VV → Option Bool
  | .non, .non => some true
  | .bl a, .bl b => some (a == b)
  | .bl a, .int j => some (decide (b2i a = j))
  | .int i, .bl b => some (decide (i = b2i b))
  | .int i, .int j => some (decide (i = j))
  | .str a, .str b => some (decide (a = b))
  | .non, .bl _ | .non, .int _ | .non, .str _ | .bl _, .non | .int _, .non | .str _, .non => some false
  | .bl _, .str _ | .int _, .str _ | .str _, .bl _ | .str _, .int _ => some false
  | _, _ => none
inductive PD where
  | non | bl (b : Bool) | int (i : Int) | str (s : List Nat) | lst (xs : List PD) | tup (xs : List PD)
mutual
def PD.eqv : PD → PD → Bool
  | .non, .non => true
  | .bl a, .bl b => a == b
  | .bl a, .int j => decide (b2i a = j)
  | .int i, .bl b => decide (i = b2i b)
  | .int i, .int j => decide (i = j)
  | .str a, .str b => decide (a = b)
  | .lst a, .lst b => eqvL a b
  | .tup a, .tup b => eqvL a b
  | _, _ => false
def eqvL : List PD → List PD → Bool
  | [], [] => true
  | x :: xs, y :: ys => PD.eqv x y && eqvL xs ys
  | _, _ => false
end
/-- data of a value: lists are read off the heap, to a depth -/
def mapO {α β : Type} (f : α → Option β) : List α → Option (List β)
  | [] => some []
  | x :: xs => match f x with
    | some y => match mapO f xs with
      | some ys => some (y :: ys)
      | none => none
    | none => none
def toPD (G : Hv) : Nat → VV → Option PD
  | 0, _ => none
  | n + 1, v => match v with
    | .non => some .non
    | .bl b => some (.bl b)
    | .int i => some (.int i)
    | .str s => some (.str s)
    | .tup xs => (mapO (toPD G n) xs).map PD.tup
    | .ref i => match G[i]? with
      | some (.lst xs) => (mapO (toPD G n) xs).map PD.lst
      | _ => none
    | _ => none
def DEPTH : Nat := 12
def oEq (G : Hv) (x y : VV) : Option Bool := match toPD G DEPTH x, toPD G DEPTH y with
  | some d, some e => some (PD.eqv d e)
  | _, _ => none
/-- x in a list or tuple -/
def oIn (G : Hv) (x y : VV) : Option Bool := match x, y with
  | .str [c], .str s => some (decide (c ∈ s))
  | x, y => match asSeq G y with
  | some xs => match toPD G DEPTH x, mapO (toPD G DEPTH) xs with
    | some d, some ds => some (ds.any fun z => PD.eqv z d)
    | _, _ => none
  | none => none
def cmpI (f : Int → Int → Bool) (x y : VV) : Option Bool := match x, y with
  | .int i, .int j => some (f i j)
  | _, _ => none
def oLt := cmpI fun i j => decide (i < j)
def oLe := cmpI fun i j => decide (i ≤ j)
def oGt := cmpI fun i j => decide (j < i)
def oGe := cmpI fun i j => decide (j ≤ i)
def isN : VV → Bool
  | .non => true
  | _ => false

def dBin (f : VV → VV → Hv → Option (VV × Hv)) (a b : DE) : DE := fun S G => (a S G).bind fun x G1 => (b S G1).bind fun y G2 => ofO (f x y G2)
/-- a comparison as a value -/
def dCmp (f : Hv → VV → VV → Option Bool) (a b : DE) : DE := fun S G => (a S G).bind fun x G1 => (b S G1).bind fun y G2 => ofP ((f G2 x y).map VV.bl) G2
def cEq : Hv → VV → VV → Option Bool := oEq
def cNe : Hv → VV → VV → Option Bool := fun G x y => (oEq G x y).map not
def cLt : Hv → VV → VV → Option Bool := fun _ x y => oLt x y
def cLe : Hv → VV → VV → Option Bool := fun _ x y => oLe x y
def cGt : Hv → VV → VV → Option Bool := fun _ x y => oGt x y
def cGe : Hv → VV → VV → Option Bool := fun _ x y => oGe x y
def cIn : Hv → VV → VV → Option Bool := oIn
def cNin : Hv → VV → VV → Option Bool := fun G x y => (oIn G x y).map not
/-- a < b < c -/
def dChain (f g : Hv → VV → VV → Option Bool) (a b c : DE) : DE := fun S G => (a S G).bind fun x G1 => (b S G1).bind fun y G2 => match f G2 x y with
  | some true => (c S G2).bind fun z G3 => ofP ((g G3 y z).map VV.bl) G3
  | some false => .ok (.bl false) G2
  | none => .bad
def dIsN (a : DE) : DE := fun S G => (a S G).bind fun x G1 => .ok (.bl (isN x)) G1
def dNotN (a : DE) : DE := fun S G => (a S G).bind fun x G1 => .ok (.bl (!isN x)) G1
def asB : VV → Option Bool
  | .bl b => some b
  | _ => none
/-- a test: an expression that gives a truth value -/
def tV (a : DE) : DT := fun S G => (a S G).bind fun x G1 => ofP (asB x) G1
def tAnd (a b : DT) : DT := fun S G => (a S G).bind fun c G1 => if c then b S G1 else .ok false G1
def tOr (a b : DT) : DT := fun S G => (a S G).bind fun c G1 => if c then .ok true G1 else b S G1
def tNot (a : DT) : DT := fun S G => (a S G).bind fun c G1 => .ok (!c) G1
/-- and, or of truth values (all but the last) -/
def dAnd (a b : DE) : DE := fun S G => (a S G).bind fun x G1 => match x with
  | .bl true => b S G1
  | .bl false => .ok (.bl false) G1
  | _ => .bad
def dOr (a b : DE) : DE := fun S G => (a S G).bind fun x G1 => match x with
  | .bl true => .ok (.bl true) G1
  | .bl false => b S G1
  | _ => .bad
def dNot (a : DE) : DE := fun S G => (a S G).bind fun x G1 => match x with
  | .bl c => .ok (.bl (!c)) G1
  | _ => .bad
def dIf (t : DT) (a b : DE) : DE := fun S G => (t S G).bind fun c G1 => if c then a S G1 else b S G1
def dUn (f : VV → Option VV) (a : DE) : DE := fun S G => (a S G).bind fun x G1 => ofP (f x) G1

/-! ### displays, arguments -/
def aNil : DA := fun _ G => .ok [] G
def aCons (a : DE) (r : DA) : DA := fun S G => (a S G).bind fun x G1 => (r S G1).bind fun xs G2 => .ok (x :: xs) G2
def dTup (a : DA) : DE := fun S G => (a S G).bind fun xs G1 => if xs.length ≤ LIM then .ok (.tup xs) G1 else .bad
def dLst (a : DA) : DE := fun S G => (a S G).bind fun xs G1 => if xs.length ≤ LIM then .ok (newL G1 xs).1 (newL G1 xs).2 else .bad
def dDic0 : DE := fun _ G => .ok (.ref G.length) (G ++ [.dic []])

/-! ### subscripts, slices -/
def ixN (n : Nat) (i : Int) : Option Nat := if 0 ≤ i then (if i < n then some i.toNat else none) else if -(n : Int) ≤ i then some (i + n).toNat else none
def atI {α : Type} (xs : List α) (i : Int) : Option α := match ixN xs.length i with
  | some j => xs[j]?
  | none => none
def oIx (G : Hv) (x y : VV) : Option VV := match y with
  | .int i => match x with
    | .str s => if s.length ≤ LIM then (atI s i).map fun c => .str [c] else none
    | x => match asSeq G x with
      | some xs => atI xs i
      | none => none
  | _ => none
def dIx (a b : DE) : DE := fun S G => (a S G).bind fun x G1 => (b S G1).bind fun y G2 => ofP (oIx G2 x y) G2
/-- a slice's bound -/
def sIx (n d : Nat) : Option Int → Nat
  | none => d
  | some i => if i < 0 then (i + n).toNat else min i.toNat n
def cut {α : Type} (xs : List α) (lo hi : Option Int) : List α := (xs.drop (sIx xs.length 0 lo)).take (sIx xs.length xs.length hi - sIx xs.length 0 lo)
def oSlice (x : VV) (lo hi : Option Int) (G : Hv) : Option (VV × Hv) := match x with
  | .str s => if s.length ≤ LIM then some (.str (cut s lo hi), G) else none
  | .tup xs => some (.tup (cut xs lo hi), G)
  | x => match asListR G x with
    | some xs => some (newL G (cut xs lo hi))
    | none => none
abbrev DO := Env → Hv → R (Option Int)
def oNone : DO := fun _ G => .ok none G
def oSome (a : DE) : DO := fun S G => (a S G).bind fun x G1 => match x with
  | .int i => .ok (some i) G1
  | _ => .bad
def dSl (a : DE) (lo hi : DO) : DE := fun S G => (a S G).bind fun x G1 => (lo S G1).bind fun l G2 => (hi S G2).bind fun h G3 => ofO (oSlice x l h G3)

/-! ### fields, calls -/
def look (f : Nat) : List (Nat × VV) → Option VV
  | [] => none
  | (g, v) :: r => if f = g then some v else look f r
def put (f : Nat) (v : VV) : List (Nat × VV) → List (Nat × VV)
  | [] => [(f, v)]
  | (g, u) :: r => if g = f then (g, v) :: r else (g, u) :: put f v r
def oFld (c f : Nat) (G : Hv) (x : VV) : Option VV := match x with
  | .ref i => match G[i]? with
    | some (.ins d fs) => if c = d then look f fs else none
    | _ => none
  | _ => none
/-- o.f, o an instance of the class c -/
def dFld (c f : Nat) (a : DE) : DE := fun S G => (a S G).bind fun x G1 => ofP (oFld c f G1 x) G1
/-- a def, by what it does with its arguments -/
abbrev Fn := List VV → Hv → R VV
def dCall (f : Fn) (a : DA) : DE := fun S G => (a S G).bind fun vs G1 => f vs G1
def isIns (c m : Nat) (G : Hv) (x : VV) : Bool := match x with
  | .ref i => match G[i]? with
    | some (.ins d fs) => decide (c = d) && (look m fs).isNone
    | _ => false
  | _ => false
/-- o.m(..), o an instance of the class c -/
def dMeth (c m : Nat) (f : Fn) (a : DE) (r : DA) : DE := fun S G => (a S G).bind fun x G1 => if isIns c m G1 x then (r S G1).bind fun vs G2 => f (x :: vs) G2 else .bad
/-- nothing may be raised -/
def noX {α : Type} : R α → R α
  | .exn _ _ => .bad
  | r => r
@[simp] theorem noX_ok {α : Type} (a : α) (G : Hv) : noX (R.ok a G) = .ok a G := rfl
/-- a property, its getter f -/
def dProp (c p : Nat) (f : Fn) (a : DE) : DE := fun S G => (a S G).bind fun x G1 => if isIns c p G1 x then noX (f [x] G1) else .bad
/-- C(..): a new instance, then __init__ -/
def dMake (c : Nat) (f : Fn) (a : DA) : DE := fun S G => (a S G).bind fun vs G1 => (noX (f (.ref G1.length :: vs) (G1 ++ [.ins c []]))).bind fun u G2 => if isN u then .ok (.ref G1.length) G2 else .bad

/-- cls(..) in a class method -/
def dMakeV (c : Nat) (f : Fn) (k : DE) (a : DA) : DE := fun S G => (k S G).bind fun u G0 => if u = .cls c then dMake c f a S G0 else .bad
/-- a class as a value -/
def dCls (c : Nat) : DE := fun _ G => .ok (.cls c) G
/-- f(b = .., a = ..): the arguments as written, then in the parameters' order -/
def dCallK (f : Fn) (ks : List Nat) (a : DA) : DE := fun S G => (a S G).bind fun vs G1 => match mapO (fun k => vs[k]?) ks with
  | some ws => f ws G1
  | none => .bad
/-- f(..) with the defaults behind -/
def dCallD (f : Fn) (ds : List VV) (a : DA) : DE := fun S G => (a S G).bind fun vs G1 => f (vs ++ ds) G1
/-- C.m(..), m a class method -/
def dCallC (f : Fn) (c : Nat) (a : DA) : DE := fun S G => (a S G).bind fun vs G1 => f (.cls c :: vs) G1
def tblGet (s : List Nat) : List (List Nat × VV) → Option VV
  | [] => none
  | (k, v) :: r => if s = k then some v else tblGet s r
/-- TABLE.get(e, d) of a table of the module with text keys -/
def dGetC (tb : List (List Nat × VV)) (a d : DE) : DE := fun S G => (a S G).bind fun x G1 => (d S G1).bind fun y G2 => match x with
  | .str s => .ok ((tblGet s tb).getD y) G2
  | _ => .bad

/-! ### built-ins by values -/
abbrev Bt := List VV → Hv → Option (VV × Hv)
def dB (f : Bt) (a : DA) : DE := fun S G => (a S G).bind fun vs G1 => ofO (f vs G1)
def bLen : Bt := fun vs G => match vs with
  | [.str s] => if s.length ≤ LIM then some (.int s.length, G) else none
  | [x] => (asSeq G x).map fun xs => (.int xs.length, G)
  | _ => none
def bAbs : Bt := fun vs G => match vs with
  | [.int i] => some (.int (if i < 0 then -i else i), G)
  | _ => none
def bMax2 : Bt := fun vs G => match vs with
  | [.int i, .int j] => some (.int (if j > i then j else i), G)
  | _ => none
def bMin2 : Bt := fun vs G => match vs with
  | [.int i, .int j] => some (.int (if j < i then j else i), G)
  | _ => none
/-- the value of a text of one to ten figures -/
def decOf : List Nat → Int → Option Int
  | [], n => some n
  | c :: r, n => if 48 ≤ c ∧ c ≤ 57 then decOf r (n * 10 + ((c - 48 : Nat) : Int)) else none
def bInt : Bt := fun vs G => match vs with
  | [.int i] => some (.int i, G)
  | [.bl b] => some (.int (if b then 1 else 0), G)
  | [.str [c]] => if 48 ≤ c ∧ c ≤ 57 then some (.int ((c - 48 : Nat) : Int), G) else none
  | _ => none
/-- the figures of a small number -/
def bStr : Bt := fun vs G => match vs with
  | [.int i] => if 0 ≤ i ∧ i < 10 then some (.str [48 + i.toNat], G) else none
  | _ => none
def bDivmod : Bt := fun vs G => match vs with
  | [.int i, .int j] => if 0 < j ∧ j < 1073741824 then some (.tup [.int (i / j), .int (i % j)], G) else none
  | _ => none
def bList : Bt := fun vs G => match vs with
  | [x] => (asSeq G x).map fun xs => newL G xs
  | _ => none
def bTuple : Bt := fun vs G => match vs with
  | [x] => (asSeq G x).map fun xs => (.tup xs, G)
  | _ => none
def asInts : List VV → Option (List Int)
  | [] => some []
  | .int i :: r => (asInts r).map fun is => i :: is
  | _ :: _ => none
def asBls : List VV → Option (List Bool)
  | [] => some []
  | .bl i :: r => (asBls r).map fun is => i :: is
  | _ :: _ => none
def bSum : Bt := fun vs G => match vs with
  | [x] => match asListR G x with
    | some xs => (asInts xs).map fun is => (.int is.sum, G)
    | none => none
  | _ => none
def bAll : Bt := fun vs G => match vs with
  | [x] => match asListR G x with
    | some xs => (asBls xs).map fun is => (.bl (is.all id), G)
    | none => none
  | _ => none
def bAny : Bt := fun vs G => match vs with
  | [x] => match asListR G x with
    | some xs => (asBls xs).map fun is => (.bl (is.any id), G)
    | none => none
  | _ => none
/-- list(range(n)), list(range(a, b)) -/
def upTo (lo : Int) : Nat → List VV
  | 0 => []
  | n + 1 => .int lo :: upTo (lo + 1) n
def dListRg (a : DE) : DE := fun S G => (a S G).bind fun x G1 => match x with
  | .int j => if Nat.ble j.natAbs 16777216 = true then .ok (newL G1 (upTo 0 j.toNat)).1 (newL G1 (upTo 0 j.toNat)).2 else .bad
  | _ => .bad
/-- isinstance(x, T) of flat types -/
inductive Ty where
  | int | bool | str | tuple
def isTy (G : Hv) : Ty → VV → Option Bool
  | .int, .int _ => some true | .int, .bl _ => some true
  | .bool, .bl _ => some true
  | .str, .str _ => some true
  | .tuple, .tup _ => some true
  | _, .non => some false | _, .bl _ => some false | _, .int _ => some false | _, .str _ => some false | _, .tup _ => some false
  | _, .ref i => match G[i]? with
    | some (.lst _) => some false
    | some (.flst _) => some false
    | some (.dic _) => some false
    | _ => none
  | _, _ => none
def dIsi (t : Ty) (a : DE) : DE := fun S G => (a S G).bind fun x G1 => ofP ((isTy G1 t x).map VV.bl) G1
/-- repr of a truth value -/
def bReprB : Bt := fun vs G => match vs with
  | [.bl true] => some (.str [84, 114, 117, 101], G)
  | [.bl false] => some (.str [70, 97, 108, 115, 101], G)
  | _ => none

/-! ### methods of built-in types -/
abbrev Mt := VV → List VV → Hv → Option (VV × Hv)
inductive Rt where
  | lst | str | dic
def isRt (T : Rt) (G : Hv) (x : VV) : Bool := match T, x with
  | .str, .str _ => true
  | .lst, .ref i => match G[i]? with
    | some (.lst _) => true
    | _ => false
  | .dic, .ref i => match G[i]? with
    | some (.dic _) => true
    | _ => false
  | _, _ => false
def dM (T : Rt) (f : Mt) (a : DE) (r : DA) : DE := fun S G => (a S G).bind fun x G1 => if isRt T G1 x then (r S G1).bind fun vs G2 => ofO (f x vs G2) else .bad
def mAppend : Mt := fun x vs G => match x, vs with
  | .ref i, [y] => match G[i]? with
    | some (.lst xs) => if xs.length < LIM then some (.non, G.set i (.lst (xs ++ [y]))) else none
    | _ => none
  | _, _ => none
def mExtend : Mt := fun x vs G => match x, vs with
  | .ref i, [.ref j] => match G[i]?, G[j]? with
    | some (.lst xs), some (.lst ys) => if xs.length + ys.length ≤ LIM then some (.non, G.set i (.lst (xs ++ ys))) else none
    | _, _ => none
  | _, _ => none
def mPop : Mt := fun x vs G => match x, vs with
  | .ref i, [] => match G[i]? with
    | some (.lst xs) => match xs[xs.length - 1]? with
      | some y => some (y, G.set i (.lst xs.dropLast))
      | none => none
    | _ => none
  | _, _ => none
/-- the first place of a flat value -/
def idxOf (p : VV → Option Bool) : List VV → Nat → Option Nat
  | [], _ => none
  | y :: r, n => match p y with
    | some true => some n
    | some false => idxOf p r (n + 1)
    | none => none
def mIndex : Mt := fun x vs G => match vs with
  | [y] => match asList G x with
    | some xs => if xs.all fun z => (eqFlat z y).isSome then (idxOf (fun z => eqFlat z y) xs 0).map fun j => (.int j, G) else none
    | none => none
  | _ => none
/-- text.split(c), c one sign -/
def splitC (c : Nat) : List Nat → List (List Nat)
  | [] => [[]]
  | d :: r => if d = c then [] :: splitC c r else match splitC c r with
    | [] => [[d]]
    | w :: ws => (d :: w) :: ws
def mSplit : Mt := fun x vs G => match x, vs with
  | .str s, [.str [c]] => if s.length + 2 ≤ LIM then some (newL G ((splitC c s).map VV.str)) else none
  | _, _ => none
def joinS (sep : List Nat) : List (List Nat) → List Nat
  | [] => []
  | [x] => x
  | x :: y :: r => x ++ (sep ++ joinS sep (y :: r))
def asStrs : List VV → Option (List (List Nat))
  | [] => some []
  | .str i :: r => (asStrs r).map fun is => i :: is
  | _ :: _ => none
def mJoin : Mt := fun x vs G => match x, vs with
  | .str s, [y] => match asSeq G y with
    | some xs => match asStrs xs with
      | some ss => if (ss.map List.length).sum + ss.length * s.length ≤ LIM then some (.str (joinS s ss), G) else none
      | none => none
    | none => none
  | _, _ => none
/-- f"lit{e}", e a text -/
def dFmt (lit : List Nat) (a : DE) : DE := fun S G => (a S G).bind fun x G1 => match x with
  | .str s => if lit.length + s.length ≤ LIM then .ok (.str (lit ++ s)) G1 else .bad
  | _ => .bad

/-! ### statements -/
def dNext : DS := fun S G => .nx S G
def dSeq (a b : DS) : DS := fun S G => match a S G with
  | .nx S1 G1 => b S1 G1
  | o => o
def dExpr (a : DE) : DS := fun S G => (a S G).st S fun _ G1 => .nx S G1
def dRet (a : DE) : DS := fun S G => (a S G).st S fun v G1 => .rt v G1
def dRetN : DS := fun _ G => .rt .non G
def sBad : DS := fun _ _ => .bad
def sIf (t : DT) (a b : DS) : DS := fun S G => (t S G).st S fun c G1 => if c then a S G1 else b S G1
/-- try: nothing may be raised -/
def sThru (a : DS) : DS := fun S G => match a S G with
  | .exn _ _ _ => .bad
  | o => o
def sBreak : DS := fun S G => .bk S G
def sCont : DS := fun S G => .ct S G
/-! targets -/
def gName (i : Nat) : DG := fun v S G => .nx (S.set i (some v)) G
def gFld (c f : Nat) (a : DE) : DG := fun v S G => (a S G).st S fun x G1 => match x with
  | .ref i => match G1[i]? with
    | some (.ins d fs) => if c = d ∧ fs.length < 1000 then .nx S (G1.set i (.ins c (put f v fs))) else .bad
    | _ => .bad
  | _ => .bad
def gSub (a b : DE) : DG := fun v S G => (a S G).st S fun x G1 => (b S G1).st S fun y G2 => match x, y with
  | .ref i, .int k => match G2[i]? with
    | some (.lst xs) => match ixN xs.length k with
      | some j => .nx S (G2.set i (.lst (xs.set j v)))
      | none => .bad
    | _ => .bad
  | _, _ => .bad
/-- a store, then what follows -/
def gRun (o : O) (f : Env → Hv → O) : O := match o with
  | .nx S G => f S G
  | .exn x S G => .exn x S G
  | _ => .bad
def gAll : List DG → List VV → DS
  | [], [] => dNext
  | g :: gs, v :: vs => fun S G => gRun (g v S G) fun S1 G1 => gAll gs vs S1 G1
  | _, _ => sBad
def gTup (gs : List DG) : DG := fun v => match v with
  | .tup xs => if xs.length = gs.length then gAll gs xs else sBad
  | _ => sBad
def sAsg (a : DE) (g : DG) : DS := fun S G => (a S G).st S fun v G1 => gRun (g v S G1) O.nx
abbrev sSet (i : Nat) (a : DE) : DS := sAsg a (gName i)
/-- a step of += and the like -/
def aAdd (x y : VV) (G : Hv) : Option (VV × Hv) := match x, y with
  | .int i, .int j => some (.int (i + j), G)
  | _, _ => none
def aSub (x y : VV) (G : Hv) : Option (VV × Hv) := match x, y with
  | .int i, .int j => some (.int (i - j), G)
  | _, _ => none
/-- x += e on a name -/
def sAug (f : VV → VV → Hv → Option (VV × Hv)) (i : Nat) (a : DE) : DS := fun S G => (dVar i S G).st S fun x G1 => (a S G1).st S fun y G2 => (ofO (f x y G2)).st S fun v G3 => .nx (S.set i (some v)) G3
/-- o[i] += e -/
def sAugS (f : VV → VV → Hv → Option (VV × Hv)) (o i a : DE) : DS := fun S G => (o S G).st S fun x G1 => (i S G1).st S fun k G2 => (ofP (oIx G2 x k) G2).st S fun u G3 => (a S G3).st S fun y G4 => (ofO (f u y G4)).st S fun v G5 => gRun (gSub (dC x) (dC k) v S G5) O.nx

/-! ### what is walked -/
/-- the items, and the lists that must stay -/
abbrev DI := Env → Hv → R (List VV × List (Nat × VO))
def stays (G : Hv) : List (Nat × VO) → Bool
  | [] => true
  | (i, o) :: r => decide (G[i]? = some o) && stays G r
/-- a sequence that is walked: its items, and the list that must stay -/
def seqOf (G : Hv) (v : VV) : Option (List VV × List (Nat × VO)) := match v with
  | .tup xs => some (xs, [])
  | .str s => some (s.map fun c => .str [c], [])
  | .ref i => match G[i]? with
    | some (.lst xs) => some (xs, [(i, .lst xs)])
    | some (.flst xs) => some (xs, [(i, .flst xs)])
    | _ => none
  | _ => none
def iSeq (a : DE) : DI := fun S G => (a S G).bind fun x G1 => ofP (seqOf G1 x) G1
/-- a number that is not too great (asked so that a kernel does not count) -/
def mid (i : Int) : Bool := Nat.ble i.natAbs 4611686018427387903
/-- range(j), range(i, j) -/
def rangeOf1 (vs : List VV) : Option (List VV × List (Nat × VO)) := match vs with
  | [.int j] => if mid j = true then some (upTo 0 j.toNat, []) else none
  | _ => none
def rangeOf2 (vs : List VV) : Option (List VV × List (Nat × VO)) := match vs with
  | [.int i, .int j] => if mid i = true ∧ mid j = true then some (upTo i (j - i).toNat, []) else none
  | _ => none
def iRange1 (a : DA) : DI := fun S G => (a S G).bind fun vs G1 => ofP (rangeOf1 vs) G1
def iRange2 (a : DA) : DI := fun S G => (a S G).bind fun vs G1 => ofP (rangeOf2 vs) G1
def num : Int → List VV → List VV
  | _, [] => []
  | n, x :: xs => .tup [.int n, x] :: num (n + 1) xs
def enumOf (G : Hv) (vs : List VV) : Option (List VV × List (Nat × VO)) := match vs with
  | [x] => match seqOf G x with
    | some p => some (num 0 p.1, p.2)
    | none => none
  | _ => none
def iEnum (a : DA) : DI := fun S G => (a S G).bind fun vs G1 => ofP (enumOf G1 vs) G1
def zipV : List VV → List VV → List VV
  | x :: xs, y :: ys => .tup [x, y] :: zipV xs ys
  | _, _ => []
def zipOf (G : Hv) (vs : List VV) : Option (List VV × List (Nat × VO)) := match vs with
  | [x, y] => match seqOf G x, seqOf G y with
    | some p, some q => some (zipV p.1 q.1, p.2 ++ q.2)
    | _, _ => none
  | _ => none
def iZip (a : DA) : DI := fun S G => (a S G).bind fun vs G1 => ofP (zipOf G1 vs) G1
def forL (chk : List (Nat × VO)) (g : DG) (b : DS) : List VV → DS
  | [] => fun S G => if stays G chk then .nx S G else .bad
  | x :: r => fun S G => if stays G chk then gRun (g x S G) (fun S1 G1 => match b S1 G1 with
      | .nx S2 G2 => forL chk g b r S2 G2
      | .ct S2 G2 => forL chk g b r S2 G2
      | .bk S2 G2 => .nx S2 G2
      | o => o) else .bad
def sFor (it : DI) (g : DG) (b : DS) : DS := fun S G => (it S G).st S fun p G1 => forL p.2 g b p.1 S G1
/-- while, so many turns at most -/
def whileN (t : DT) (b : DS) : Nat → DS
  | 0 => sBad
  | n + 1 => fun S G => (t S G).st S fun c G1 => if c then (match b S G1 with
    | .nx S2 G2 => whileN t b n S2 G2
    | .ct S2 G2 => whileN t b n S2 G2
    | .bk S2 G2 => .nx S2 G2
    | o => o) else .nx S G1
def wipe (S : Env) : List Nat → Env
  | [] => S
  | v :: vs => (wipe S vs).set v none
/-- [e for x in it if t]: D the new list -/
def lcL (chk : List (Nat × VO)) (g : DG) (t : DT) (e : DE) (vs : List Nat) (S0 : Env) (D : Nat) : List VV → Hv → R VV
  | [], G => if stays G chk then .ok (.ref D) G else .bad
  | x :: r, G => if stays G chk then (match g x S0 G with
    | .nx S1 G1 => match t S1 G1 with
      | .ok true G2 => match e S1 G2 with
        | .ok y G3 => match G3[D]? with
          | some (.lst acc) => if acc.length < LIM then lcL chk g t e vs S0 D r (G3.set D (.lst (acc ++ [y]))) else .bad
          | _ => .bad
        | _ => .bad
      | .ok false G2 => lcL chk g t e vs S0 D r G2
      | _ => .bad
    | _ => .bad) else .bad
def tYes : DT := fun _ G => .ok true G
def dLc (vs : List Nat) (it : DI) (g : DG) (t : DT) (e : DE) : DE := fun S G => (it S G).bind fun p G1 => lcL p.2 g t e vs (wipe S vs) G1.length p.1 (G1 ++ [.lst []])

/-! ### a def: its body, then what is no longer reached is dropped -/
mutual
def closedV (n : Nat) : VV → Bool
  | .ref i => decide (i < n)
  | .tup xs => closedL n xs
  | .exc _ fs => closedF n fs
  | .clo _ xs => closedL n xs
  | _ => true
def closedL (n : Nat) : List VV → Bool
  | [] => true
  | x :: xs => closedV n x && closedL n xs
def closedF (n : Nat) : List (Nat × VV) → Bool
  | [] => true
  | (_, x) :: xs => closedV n x && closedF n xs
end
def closedK (n : Nat) : List (VV × VV) → Bool
  | [] => true
  | (k, x) :: xs => closedV n k && (closedV n x && closedK n xs)
def closedO (n : Nat) : VO → Bool
  | .lst xs => closedL n xs
  | .flst xs => closedL n xs
  | .dic kvs => closedK n kvs
  | .ins _ fs => closedF n fs
  | .nset i ks => decide (i < n) && closedL n ks
/-- each object is as it was, or reaches only so far -/
def closedG (n : Nat) : Hv → Hv → Bool
  | o :: G, o1 :: G1 => (decide (o = o1) || closedO n o1) && closedG n G G1
  | [], [] => true
  | _, _ => false
def gcR (G : Hv) (r : R VV) : R VV := match r with
  | .ok v G1 => if closedV G.length v && closedG G.length G (G1.take G.length) then .ok v (G1.take G.length) else .ok v G1
  | r => r
/-! a def whose arguments name no object runs by itself: its objects are laid behind -/
mutual
def shV (n : Nat) : VV → VV
  | .ref i => .ref (n + i)
  | .tup xs => .tup (shL n xs)
  | .exc c fs => .exc c (shF n fs)
  | .clo c xs => .clo c (shL n xs)
  | v => v
def shL (n : Nat) : List VV → List VV
  | [] => []
  | x :: xs => shV n x :: shL n xs
def shF (n : Nat) : List (Nat × VV) → List (Nat × VV)
  | [] => []
  | (c, x) :: xs => (c, shV n x) :: shF n xs
end
def shK (n : Nat) : List (VV × VV) → List (VV × VV)
  | [] => []
  | (c, x) :: xs => (c, shV n x) :: shK n xs
def shO (n : Nat) : VO → VO
  | .lst xs => .lst (shL n xs)
  | .flst xs => .flst (shL n xs)
  | .dic kvs => .dic (shK n kvs)
  | .ins c fs => .ins c (shF n fs)
  | .nset i ks => .nset (n + i) (shL n ks)
def reloc (G : Hv) (r : R VV) : R VV := match r with
  | .ok v G1 => .ok (shV G.length v) (G ++ G1.map (shO G.length))
  | .exn v G1 => .exn (shV G.length v) (G ++ G1.map (shO G.length))
  | .bad => .bad
def start (n : Nat) (vs : List VV) : Env := vs.map some ++ List.replicate (n - vs.length) none
def outR (o : O) : R VV := match o with
  | .nx _ G => .ok .non G
  | .rt v G => .ok v G
  | .exn x _ G => .exn x G
  | _ => .bad
/-- a def of so many parameters and names -/
def dDef (k n : Nat) (b : DS) : Fn := fun vs G => if vs.length = k then (if closedL 0 vs then reloc G (gcR [] (outR (b (start n vs) []))) else gcR G (outR (b (start n vs) G))) else .bad
def fBad : Fn := fun _ _ => .bad
end DL
end S_Sem
section S_Sem2
/-! Sem2: more of the subset: bits, counts, sets of numbers that are sorted, two clauses in a comprehension, defaults. Plain Lean. -/
set_option linter.all false
namespace DL
def oShl (x y : VV) (G : Hv) : Option (VV × Hv) := match x, y with
  | .int i, .int j => if i.natAbs.log2 < 100000 ∧ 0 ≤ j ∧ Nat.ble j.toNat 100000 = true then some (.int (i * 2 ^ j.toNat), G) else none
  | _, _ => none
def oShr (x y : VV) (G : Hv) : Option (VV × Hv) := match x, y with
  | .int i, .int j => if 0 ≤ j then some (.int (i / 2 ^ j.toNat), G) else none
  | _, _ => none
def oBand (x y : VV) (G : Hv) : Option (VV × Hv) := match x, y with
  | .int i, .int j => if 0 ≤ i ∧ 0 ≤ j then some (.int ((i.toNat &&& j.toNat : Nat) : Int), G) else none
  | _, _ => none
def oBor (x y : VV) (G : Hv) : Option (VV × Hv) := match x, y with
  | .int i, .int j => if 0 ≤ i ∧ 0 ≤ j then some (.int ((i.toNat ||| j.toNat : Nat) : Int), G) else none
  | _, _ => none
def oBxor (x y : VV) (G : Hv) : Option (VV × Hv) := match x, y with
  | .int i, .int j => if 0 ≤ i ∧ 0 ≤ j then some (.int ((i.toNat ^^^ j.toNat : Nat) : Int), G) else none
  | _, _ => none
/-- a text of one sign, so many times -/
def oMulS (x y : VV) (G : Hv) : Option (VV × Hv) := match x, y with
  | .str [c], .int k => if Nat.ble k.natAbs 1000 = true then some (.str (List.replicate k.toNat c), G) else none
  | _, _ => none
/-- list.count(k), whole numbers -/
def mCount : Mt := fun x vs G => match vs with
  | [.int k] => match asList G x with
    | some xs => (asInts xs).map fun is => (.int (is.count k : Nat), G)
    | none => none
  | _ => none
/-- isinstance(x, C), x an instance of the class c itself -/
def isC (c : Nat) (G : Hv) (x : VV) : Bool := match x with
  | .ref i => match G[i]? with
    | some (.ins d _) => decide (c = d)
    | _ => false
  | _ => false
def dIsC (c : Nat) (a : DE) : DE := fun S G => (a S G).bind fun x G1 => if isC c G1 x then .ok (.bl true) G1 else .bad
def insI (k : Int) : List Int → List Int
  | [] => [k]
  | x :: r => if k < x then k :: x :: r else if k = x then x :: r else x :: insI k r
/-- the numbers ascending, each once -/
def sortU : List Int → List Int
  | [] => []
  | x :: r => insI x (sortU r)
/-- sorted(set(e)), e a list of whole numbers, fewer than 64 of them -/
def oSortSet (G : Hv) (x : VV) : Option (VV × Hv) := match asList G x with
  | some xs => match asInts xs with
    | some is => if is.length < 4000 ∧ (sortU is).length < 64 then some (newL G ((sortU is).map VV.int)) else none
    | none => none
  | none => none
def dSortSet (a : DE) : DE := fun S G => (a S G).bind fun x G1 => ofO (oSortSet G1 x)
def lcK (r : R VV) (f : Hv → R VV) : R VV := match r with
  | .ok _ G => f G
  | _ => .bad
/-- [e for x in it if t for y in it1 if t1] -/
def lc2L (chk : List (Nat × VO)) (g : DG) (t : DT) (it1 : DI) (g1 : DG) (t1 : DT) (e : DE) (vs vs1 : List Nat) (S0 : Env) (D : Nat) : List VV → Hv → R VV
  | [], G => if stays G chk then .ok (.ref D) G else .bad
  | x :: r, G => if stays G chk then (match g x S0 G with
    | .nx S1 G1 => match t S1 G1 with
      | .ok true G2 => match it1 S1 G2 with
        | .ok p G3 => lcK (lcL p.2 g1 t1 e vs1 (wipe S1 vs1) D p.1 G3) fun G4 => lc2L chk g t it1 g1 t1 e vs vs1 S0 D r G4
        | _ => .bad
      | .ok false G2 => lc2L chk g t it1 g1 t1 e vs vs1 S0 D r G2
      | _ => .bad
    | _ => .bad) else .bad
def dLc2 (vs vs1 : List Nat) (it : DI) (g : DG) (t : DT) (it1 : DI) (g1 : DG) (t1 : DT) (e : DE) : DE := fun S G => (it S G).bind fun p G1 => lc2L p.2 g t it1 g1 t1 e vs vs1 (wipe S vs) G1.length p.1 (G1 ++ [.lst []])
end DL
end S_Sem2
section S_Sem3
/-! Sem3: defs within a def, handed on; more. Plain Lean. -/
set_option linter.all false
namespace DL
/-- a def within a def: cs, what it captured -/
abbrev Clo := List VV → Fn
/-- n names: the parameters (np), the captured ones, the locals -/
def cloFn (np n : Nat) (b : DS) : Clo := fun cs vs G => if vs.length = np then gcR G (outR (b (vs.map some ++ (cs.map some ++ List.replicate (n - vs.length - cs.length) none)) G)) else .bad
/-- f(..), f a name that holds such a function -/
def dCallF (i : Nat) (T : Nat → Option Clo) (a : DA) : DE := fun S G => match S[i]? with
  | some (some (.clo n cs)) => match T n with
    | some fn => (a S G).bind fun vs G1 => fn cs vs G1
    | none => .bad
  | _ => .bad
def capsOf (S : Env) : List Nat → Option (List VV)
  | [] => some []
  | j :: js => match S[j]? with
    | some (some v) => (capsOf S js).map fun vs => v :: vs
    | _ => none
/-- a call that gives a truth value and leaves the objects -/
def hoEnd (G : Hv) : R VV → R VV
  | .ok (.bl b) G2 => if G2 = G then .ok (.bl b) G else .bad
  | _ => .bad
/-- f(e, g, h), g and h defs of the body -/
def dHo (F : Fn) (n1 : Nat) (js1 : List Nat) (n2 : Nat) (js2 : List Nat) (a : DA) : DE := fun S G => match capsOf S js1 with
  | some c1 => match capsOf S js2 with
    | some c2 => (a S G).bind fun vs G1 => hoEnd G1 (F (vs ++ [.clo n1 c1, .clo n2 c2]) G1)
    | none => .bad
  | none => .bad
/-- the slots of the defs within are taken anew -/
def sHo (i1 i2 : Nat) (a : DS) : DS := fun S G => if i1 < S.length ∧ i2 < S.length then a ((S.set i1 none).set i2 none) G else .bad
/-! a dict whose keys are nested tuples, its values True -/
def hasN (ks : List VV) (k : VV) : Bool := ks.any fun z => decide (normV z = some k)
/-- {e: True} -/
def dNs1 (a : DE) : DE := fun S G => (a S (G ++ [.nset G.length []])).bind fun x G1 => match x with
  | .tup xs => match normV (.tup xs), G1[G.length]? with
    | some k, some (.nset j []) => if j = G.length ∧ depV k ≤ 8 then .ok (.ref j) (G1.set j (.nset j [.tup xs])) else .bad
    | _, _ => .bad
  | _ => .bad
def oInN (G : Hv) (x y : VV) : Option Bool := match x, y with
  | .tup xs, .ref i => match G[i]? with
    | some (.nset j ks) => match normV (.tup xs) with
      | some k => if j = i ∧ depV k ≤ 8 then some (hasN ks k) else none
      | none => none
    | _ => none
  | _, _ => none
def cInN : Hv → VV → VV → Option Bool := oInN
def cNinN : Hv → VV → VV → Option Bool := fun G x y => (oInN G x y).map not
/-- d[k] = True, k not there -/
def gNs (a b : DE) : DG := fun v S G => (a S G).st S fun x G1 => (b S G1).st S fun y G2 => match v, x, y with
  | .bl true, .ref i, .tup ys => match G2[i]? with
    | some (.nset j ks) => match normV (.tup ys) with
      | some k => if j = i ∧ depV k ≤ 8 ∧ hasN ks k = false ∧ Nat.ble ks.length 1000000 = true then .nx S (G2.set i (.nset i (ks ++ [.tup ys]))) else .bad
      | none => .bad
    | _ => .bad
  | _, _, _ => .bad
/-- a is b, truth values -/
def cIsB : Hv → VV → VV → Option Bool := fun _ x y => match x, y with
  | .bl a, .bl b => some (a == b)
  | _, _ => none
/-- *d, .. -/
def aStar (d : DE) (r : DA) : DA := fun S G => (d S G).bind fun x G1 => match asSeq G1 x with
  | some xs => (r S G1).bind fun ys G2 => .ok (xs ++ ys) G2
  | none => .bad
/-- a truth value, or whether a list has an item -/
def truL (G : Hv) (x : VV) : Option Bool := match x with
  | .bl b => some b
  | x => match asListR G x with
    | some xs => some (!xs.isEmpty)
    | none => none
def tL (a : DE) : DT := fun S G => (a S G).bind fun x G1 => ofP (truL G1 x) G1
/-- raise C(e), C's own __init__ keeps it in the field f -/
def sRaise (c f : Nat) (d : DE) : DS := fun S G => (d S G).st S fun v G1 => .exn (.exc c [(f, v)]) S G1
def sNoX : O → O
  | .exn _ _ _ => .bad
  | o => o
/-- try: b / except c: s (nothing else may be raised) -/
def sCatch (c : Nat) (b s : DS) : DS := fun S G => match b S G with
  | .exn x S1 G1 => match x with
    | .exc c' _ => if c' = c then sNoX (s S1 G1) else .bad
    | _ => .bad
  | o => o
/-- x == (), x a tuple -/
def cEqT0 : Hv → VV → VV → Option Bool := fun _ x y => match x, y with
  | .tup xs, .tup [] => some xs.isEmpty
  | _, _ => none
def cNeT0 : Hv → VV → VV → Option Bool := fun G x y => (cEqT0 G x y).map not
/-- a if t else b, as a test -/
def tIfE (t a b : DT) : DT := fun S G => (t S G).bind fun c G1 => if c then a S G1 else b S G1
end DL
end S_Sem3
section S_Sem4
/-! Sem4: more. Plain Lean. -/
set_option linter.all false
namespace DL
/-- a tuple, so many times -/
def oMulT (x y : VV) (G : Hv) : Option (VV × Hv) := match x, y with
  | .tup xs, .int k => if xs ≠ [] ∧ 2 ≤ k ∧ k ≤ 1000 ∧ xs.length ≤ 1000 then some (.tup (repL xs k.toNat), G) else none
  | _, _ => none
end DL
end S_Sem4
section S_Rules1
set_option Elab.async false
set_option linter.all false
set_option maxRecDepth 100000
set_option maxHeartbeats 2000000
/-! Rules1: what the values of Sem stand for in the hand layer; expressions. -/
namespace DL
open PySem PySem.Spec PyProof.Rows L2
abbrev St := L2.St

/-! ### names -/
def dig : Nat → Nat → List Nat
  | 0, _ => []
  | k + 1, n => if n = 0 then [] else n % 256 :: dig k (n / 256)
def nameOf (n : Nat) : Str := ⟨(dig n n).toArray⟩
def undig : List Nat → Nat
  | [] => 0
  | d :: r => d + 256 * undig r
theorem undig_dig : ∀ (k n : Nat), n ≤ k → undig (dig k n) = n
  | 0, n, h => by
    have : n = 0 := by omega
    subst this; rfl
  | k + 1, n, h => by
    unfold dig
    by_cases h0 : n = 0
    · rw [if_pos h0, h0]; rfl
    · rw [if_neg h0]
      show n % 256 + 256 * undig (dig k (n / 256)) = n
      rw [undig_dig k (n / 256) (by omega)]
      omega
theorem nameOf_inj {m n : Nat} (h : nameOf m = nameOf n) : m = n := by
  have h1 : dig m m = dig n n := by
    have := congrArg (fun s : Str => s.cps.toList) h
    simpa [nameOf] using this
  rw [← undig_dig m m (Nat.le_refl _), ← undig_dig n n (Nat.le_refl _), h1]

/-- where one stands: the written part, the module's names, the exceptions that are held -/
structure RC where
  K : PySem.W.Frag
  mg : Str → Option Value
  ep : List (Addr × Obj)
abbrev rc (X : Cx) (ep : List (Addr × Obj)) : RC := ⟨X.K, X.mg, ep⟩

def TupAt (K : PySem.W.Frag) (H : Hp) (a : Addr) (ys : List V) : Prop := H a = some (.tup ys) ∨
  ∃ (o : Obj) (its : Array Value) (n : Nat), K.lookup a = some o ∧ o.cls = .type "tuple" ∧ o.data = .seq its n ∧ its.size ≤ sizeLine ∧ Vals ys its.toList
theorem TupAt.sq {K : PySem.W.Frag} {H : Hp} {a : Addr} {ys : List V} (h : TupAt K H a ys) : SqT K H a ys := by
  rcases h with h | h
  · exact .inl (.inl h)
  · exact .inr h
def sOk (s : List Nat) : Bool := s.all fun c => decide (c < 1114112)
abbrev mkS (s : List Nat) : Str := ⟨s.toArray⟩
mutual
def toNK : VV → NestedKey
  | .int i => .num i
  | .str s => .text (mkS s)
  | .tup xs => .tup (toNKs xs)
  | _ => .none
def toNKs : List VV → List NestedKey
  | [] => []
  | x :: xs => toNK x :: toNKs xs
end
/-- a dict whose keys are nested tuples, its one object -/
def NSet (P : Program) (w : World) (d : Addr) (xs : List (NestedKey × Addr × Value)) : HO := .ext fun h => ∃ o es ep, h.get? d = some o ∧ o.ExactDict ∧ o.data = .dict es ep ∧ es.toList = xs.map (entryOfKey (nestedKind P w))
theorem nset_wit (P : Program) (w : World) (d : Addr) (xs : List (NestedKey × Addr × Value)) : ∃ h : Heap, (∃ o es ep, h.get? d = some o ∧ o.ExactDict ∧ o.data = .dict es ep ∧ es.toList = xs.map (entryOfKey (nestedKind P w))) ∧ ∀ a o, h.get? a = some o → ∃ es ep, o.data = .dict es ep := by
  let ob : Obj := { cls := .type "dict", data := .dict (xs.map (entryOfKey (nestedKind P w))).toArray }
  have g : ∀ a, ({ objs := Array.replicate (d + 1) ob } : Heap).get? a = if a < d + 1 then some ob else none := fun a => by
    unfold Heap.get?
    simp only [Array.getElem?_replicate]
    by_cases hl : a < d + 1
    · rw [if_pos hl]
    · rw [if_neg hl]
  refine ⟨{ objs := Array.replicate (d + 1) ob }, ⟨ob, _, 0, by rw [g]; exact if_pos (Nat.lt_succ_self d), ⟨rfl, rfl, rfl⟩, rfl, by simp⟩, fun a o h => ?_⟩
  rw [g] at h
  split at h
  · cases h
    exact ⟨_, _, rfl⟩
  · cases h
def PinX (o : HO) : Prop := (∃ ps, o = .tbl ps) ∨ ((∃ φ, o = .ext φ) ∧ ∀ P w d xs, o ≠ NSet P w d xs)
theorem pin_code {c : Addr} {q : Str} : PinX (LamX.CodeO c q) := .inr ⟨⟨_, rfl⟩, fun P w d xs z => by
  obtain ⟨h, h1, h2⟩ := nset_wit P w d xs
  have e := HO.ext.inj z
  have : ∃ (oc : Obj) (vs : Array Value) (t : Tok), h.get? c = some oc ∧ oc.data = .fields vs ∧ vs[1]? = some (.str q t) := (congrFun e h).mpr h1
  obtain ⟨oc, vs, t, k1, k2, _⟩ := this
  obtain ⟨es, ep, k3⟩ := h2 _ _ k1
  rw [k2] at k3
  cases k3⟩
theorem pin_fn {f : Addr} {F : NdefX.NF} : PinX (NdefX.FnO f F) := .inr ⟨⟨_, rfl⟩, fun P w d xs z => by
  obtain ⟨h, h1, h2⟩ := nset_wit P w d xs
  have e := HO.ext.inj z
  have : ∃ (od : Option Addr) (sl : Array (Option Value)) (doc pm ctv : Value), h.get? f = some (⟨.type "function", od, .func (F.fd doc pm ctv), sl⟩ : Obj) := (congrFun e h).mpr h1
  obtain ⟨od, sl, doc, pm, ctv, k1⟩ := this
  obtain ⟨es, ep, k3⟩ := h2 _ _ k1
  cases k3⟩
/-- tables of code objects, things that are pinned (functions, code objects), functions by number -/
class TabsT where
  T : List NdefX.NTab
  P : Program
  w : World
class TabsC where
  pin : List (Addr × HO)
  pinE : ∀ q ∈ pin, PinX q.2
  pinT : ∀ q ∈ pin, ∀ ps, q.2 ≠ .tbl ps
  clo : Nat → Option (Addr × List V)
variable [tbs : TabsT] [TC : TabsC]
def TabI (H : Hp) : Prop := NdefX.TabsN tbs.T H ∧ ∀ q ∈ TC.pin, H q.1 = some q.2
theorem TabI.ext {H H' : Hp} (t : TabI H) (e : ∀ b o, H b = some o → PinX o → H' b = some o) : TabI H' := by
  refine ⟨fun p hp => ?_, fun q hq => ?_⟩
  · obtain ⟨ps, h1, h2, h3⟩ := t.1 p hp
    refine ⟨ps, e _ _ h1 (.inl ⟨_, rfl⟩), h2, fun pos cv hc => ?_⟩
    obtain ⟨c, e1, e2⟩ := h3 pos cv hc
    exact ⟨c, e1, e _ _ e2 pin_code⟩
  · exact e _ _ (t.2 q hq) (TC.pinE q hq)
mutual
def RV (C : RC) (as : List Addr) (H : Hp) : VV → V → Prop
  | .non, v => v = .non
  | .bl b, v => v = .bl b
  | .int i, v => v = .int i
  | .str s, v => v = .str (mkS s) ∧ sOk s = true
  | .ref i, v => ∃ a, as[i]? = some a ∧ v = .ref a
  | .tup xs, v => ∃ a ys, v = .ref a ∧ TupAt C.K H a ys ∧ RVs C as H xs ys
  | .exc _ _, _ => False
  | .clo n xs, v => ∃ a ws, TC.clo n = some (a, ws) ∧ v = .ref a ∧ RVs C as H xs ws
  | .cls c, v => ∃ a, C.mg (nameOf c) = some (.ref a) ∧ v = .ref a
def RVs (C : RC) (as : List Addr) (H : Hp) : List VV → List V → Prop
  | [], ys => ys = []
  | x :: xs, ys => ∃ y zs, ys = y :: zs ∧ RV C as H x y ∧ RVs C as H xs zs
end
def RFs (C : RC) (as : List Addr) (H : Hp) : List (Nat × VV) → List (Str × V) → Prop
  | [], ys => ys = []
  | (n, x) :: xs, ys => ∃ y zs, ys = (nameOf n, y) :: zs ∧ RV C as H x y ∧ RFs C as H xs zs
/-- a key of a dict -/
def RK : VV → Key → Prop
  | .int i, k => k = .inl i
  | .str s, k => k = .inr (mkS s) ∧ sOk s = true
  | _, _ => False
def RKs (C : RC) (as : List Addr) (H : Hp) : List (VV × VV) → List (Key × V) → Prop
  | [], ys => ys = []
  | (n, x) :: xs, ys => ∃ k y zs, ys = (k, y) :: zs ∧ RK n k ∧ RV C as H x y ∧ RKs C as H xs zs
def RNs (C : RC) (as : List Addr) (H : Hp) : List VV → List (NestedKey × Addr × Value) → Prop
  | [], ys => ys = []
  | x :: xs, ys => ∃ k b zs, ys = (toNK k, b, .bool true) :: zs ∧ normV x = some k ∧ depV k ≤ 8 ∧ RV C as H x (.ref b) ∧ RNs C as H xs zs
def RO (C : RC) (as : List Addr) (H : Hp) : VO → HO → Prop
  | .nset i ks, o => ∃ a ys, as[i]? = some a ∧ o = NSet tbs.P tbs.w a ys ∧ (a == sysModules) = false ∧ ys.length ≤ sizeLine ∧ (ys.map (·.1)).Nodup ∧ RNs C as H ks ys
  | .lst xs, o => ∃ ys, o = .lst ys ∧ RVs C as H xs ys
  | .flst xs, o => ∃ ys, (o = .lst ys ∨ ∃ ob, o = .frz ob (.lst ys)) ∧ RVs C as H xs ys
  | .dic kvs, o => ∃ ys, o = .dK ys ∧ RKs C as H kvs ys
  | .ins c fs, o => ∃ Ca dx ys, C.mg (nameOf c) = some (.ref Ca) ∧ o = .ins Ca dx ys ∧ RFs C as H fs ys
structure RelG (C : RC) (as : List Addr) (G : Hv) (H : Hp) : Prop where
  tb : TabI H
  len : as.length = G.length
  nd : as.Nodup
  ob : ∀ (i : Nat) (o : VO), G[i]? = some o → ∃ a h, as[i]? = some a ∧ H a = some h ∧ RO C as H o h
structure Ext (as : List Addr) (H : Hp) (as' : List Addr) (H' : Hp) : Prop where
  pre : ∃ bs, as' = as ++ bs
  tup : ∀ a ys, H a = some (.tup ys) → H' a = some (.tup ys)
  fr : ∀ a o, H a = some o → a ∉ as → H' a = some o ∨ ((∃ ps, o = .tbl ps) ∧ H' a ≠ none)
  nw : ∀ a, a ∈ as' → a ∈ as ∨ H a = none
theorem Ext.refl {as : List Addr} {H : Hp} : Ext as H as H := ⟨⟨[], by simp⟩, fun _ _ e => e, fun _ _ e _ => .inl e, fun _ h => .inl h⟩
theorem Ext.trans {as bs cs : List Addr} {H H1 H2 : Hp} (a : Ext as H bs H1) (b : Ext bs H1 cs H2) : Ext as H cs H2 := by
  obtain ⟨⟨x, rfl⟩, t1, f1, n1⟩ := a
  obtain ⟨⟨y, rfl⟩, t2, f2, n2⟩ := b
  have back : ∀ a, H1 a = none → H a = none ∨ a ∈ as := fun a h => by
    by_cases m : a ∈ as
    · exact .inr m
    · refine .inl ?_
      cases q : H a with
      | none => rfl
      | some o =>
        rcases f1 a o q m with z | ⟨_, z⟩
        · rw [z] at h; cases h
        · exact absurd h z
  have out : ∀ a o, H a = some o → a ∉ as → a ∉ as ++ x := fun a o e m z => by
    rcases n1 a z with z | z
    · exact m z
    · rw [z] at e; cases e
  refine ⟨⟨x ++ y, by simp⟩, fun a ys e => t2 _ _ (t1 _ _ e), fun a o e m => ?_, fun a h => ?_⟩
  · rcases f1 a o e m with z | ⟨z1, z2⟩
    · exact f2 a o z (out a o e m)
    · refine .inr ⟨z1, ?_⟩
      cases q : H1 a with
      | none => exact absurd q z2
      | some o1 =>
        rcases f2 a o1 q (out a o e m) with z | ⟨_, z⟩
        · rw [z]; simp
        · exact z
  · rcases n2 a h with z | z
    · exact n1 a z
    · exact (back a z).symm
theorem Ext.at {as as' : List Addr} {H H' : Hp} (e : Ext as H as' H') {i : Nat} {a : Addr} (h : as[i]? = some a) : as'[i]? = some a := by
  obtain ⟨⟨x, rfl⟩, _, _, _⟩ := e
  rw [List.getElem?_append_left (List.getElem?_eq_some_iff.mp h).1]
  exact h
section
variable {C : RC} {as as' : List Addr} {H H' : Hp}
theorem TupAt.mono {K : PySem.W.Frag} (t : ∀ a ys, H a = some (.tup ys) → H' a = some (.tup ys)) {a : Addr} {ys : List V} (h : TupAt K H a ys) : TupAt K H' a ys := by
  rcases h with h | h
  · exact .inl (t _ _ h)
  · exact .inr h
mutual
theorem RV.mono (e : Ext as H as' H') : ∀ {x : VV} {v : V}, RV C as H x v → RV C as' H' x v
  | .non, _, h => by rw [RV] at h ⊢; exact h
  | .bl _, _, h => by rw [RV] at h ⊢; exact h
  | .int _, _, h => by rw [RV] at h ⊢; exact h
  | .str _, _, h => by rw [RV] at h ⊢; exact h
  | .ref i, _, h => by
    rw [RV] at h ⊢
    obtain ⟨a, h1, h2⟩ := h
    exact ⟨a, e.at h1, h2⟩
  | .tup xs, _, h => by
    rw [RV] at h ⊢
    obtain ⟨a, ys, h1, h2, h3⟩ := h
    exact ⟨a, ys, h1, h2.mono e.tup, RVs.mono e h3⟩
  | .exc _ _, _, h => by rw [RV] at h; exact h.elim
  | .clo n xs, _, h => by
    rw [RV] at h ⊢
    obtain ⟨a, ws, h1, h2, h3⟩ := h
    exact ⟨a, ws, h1, h2, RVs.mono e h3⟩
  | .cls _, _, h => by rw [RV] at h ⊢; exact h
theorem RVs.mono (e : Ext as H as' H') : ∀ {x : List VV} {v : List V}, RVs C as H x v → RVs C as' H' x v
  | [], _, h => by rw [RVs] at h ⊢; exact h
  | x :: xs, _, h => by
    rw [RVs] at h ⊢
    obtain ⟨y, zs, h1, h2, h3⟩ := h
    exact ⟨y, zs, h1, RV.mono e h2, RVs.mono e h3⟩
end
theorem RFs.mono (e : Ext as H as' H') : ∀ {x : List (Nat × VV)} {v : List (Str × V)}, RFs C as H x v → RFs C as' H' x v
  | [], _, h => h
  | (n, x) :: xs, _, h => by
    obtain ⟨y, zs, h1, h2, h3⟩ := h
    exact ⟨y, zs, h1, h2.mono e, RFs.mono e h3⟩
theorem RKs.mono (e : Ext as H as' H') : ∀ {x : List (VV × VV)} {v : List (Key × V)}, RKs C as H x v → RKs C as' H' x v
  | [], _, h => h
  | (n, x) :: xs, _, h => by
    obtain ⟨k, y, zs, h1, hk, h2, h3⟩ := h
    exact ⟨k, y, zs, h1, hk, h2.mono e, RKs.mono e h3⟩
theorem RNs.mono (e : Ext as H as' H') : ∀ {x : List VV} {v : List (NestedKey × Addr × Value)}, RNs C as H x v → RNs C as' H' x v
  | [], _, h => h
  | x :: xs, _, h => by
    obtain ⟨k, b, zs, h1, h2, h3, h4, h5⟩ := h
    exact ⟨k, b, zs, h1, h2, h3, h4.mono e, RNs.mono e h5⟩
theorem RO.mono (e : Ext as H as' H') : ∀ {o : VO} {h : HO}, RO C as H o h → RO C as' H' o h
  | .nset i ks, _, h => by
    obtain ⟨a, ys, h1, h2, h3, h4, h5, h6⟩ := h
    exact ⟨a, ys, e.at h1, h2, h3, h4, h5, h6.mono e⟩
  | .lst xs, _, h => by
    obtain ⟨ys, h1, h2⟩ := h
    exact ⟨ys, h1, h2.mono e⟩
  | .flst xs, _, h => by
    obtain ⟨ys, h1, h2⟩ := h
    exact ⟨ys, h1, h2.mono e⟩
  | .dic xs, _, h => by
    obtain ⟨ys, h1, h2⟩ := h
    exact ⟨ys, h1, h2.mono e⟩
  | .ins c fs, _, h => by
    obtain ⟨Ca, dx, ys, h1, h2, h3⟩ := h
    exact ⟨Ca, dx, ys, h1, h2, h3.mono e⟩
theorem RO.noX : ∀ {o : VO} {h : HO}, RO C as H o h → PinX h → False
  | .lst xs, _, ⟨ys, h1, _⟩, z => by subst h1; rcases z with ⟨_, z⟩ | ⟨⟨_, z⟩, _⟩ <;> cases z
  | .flst xs, _, ⟨ys, h1, _⟩, z => by rcases h1 with h1 | ⟨_, h1⟩ <;> subst h1 <;> rcases z with ⟨_, z⟩ | ⟨⟨_, z⟩, _⟩ <;> cases z
  | .dic xs, _, ⟨ys, h1, _⟩, z => by subst h1; rcases z with ⟨_, z⟩ | ⟨⟨_, z⟩, _⟩ <;> cases z
  | .ins c fs, _, ⟨Ca, dx, ys, _, h1, _⟩, z => by subst h1; rcases z with ⟨_, z⟩ | ⟨⟨_, z⟩, _⟩ <;> cases z
  | .nset i ks, _, ⟨a, ys, _, h1, _⟩, z => by
    subst h1
    rcases z with ⟨_, z⟩ | ⟨_, z⟩
    · cases z
    · exact z _ _ _ _ rfl
theorem RVs.length : ∀ {x : List VV} {v : List V}, RVs C as H x v → x.length = v.length
  | [], _, h => by rw [RVs] at h; subst h; rfl
  | x :: xs, _, h => by
    rw [RVs] at h
    obtain ⟨y, zs, rfl, _, h3⟩ := h
    simp [RVs.length h3]
theorem RVs.get : ∀ {x : List VV} {v : List V} {i : Nat} {y : VV}, RVs C as H x v → x[i]? = some y → ∃ u, v[i]? = some u ∧ RV C as H y u
  | [], _, _, _, _, e => by simp at e
  | x :: xs, _, 0, y, h, e => by
    rw [RVs] at h
    obtain ⟨z, zs, rfl, h2, _⟩ := h
    simp at e; subst e
    exact ⟨z, rfl, h2⟩
  | x :: xs, _, i + 1, y, h, e => by
    rw [RVs] at h
    obtain ⟨z, zs, rfl, _, h3⟩ := h
    obtain ⟨u, h4, h5⟩ := RVs.get (i := i) h3 (by simpa using e)
    exact ⟨u, by simpa using h4, h5⟩
theorem RVs.nil : RVs C as H [] [] := by rw [RVs]
theorem RVs.cons {x : VV} {xs : List VV} {v : V} {vs : List V} (h : RV C as H x v) (t : RVs C as H xs vs) : RVs C as H (x :: xs) (v :: vs) := by
  rw [RVs]; exact ⟨v, vs, rfl, h, t⟩
theorem RVs.append : ∀ {x y : List VV} {v w : List V}, RVs C as H x v → RVs C as H y w → RVs C as H (x ++ y) (v ++ w)
  | [], _, _, _, h, h' => by rw [RVs] at h; subst h; exact h'
  | x :: xs, _, _, _, h, h' => by
    rw [RVs] at h
    obtain ⟨z, zs, rfl, h2, h3⟩ := h
    exact .cons h2 (RVs.append h3 h')
theorem RVs.take : ∀ (n : Nat) {x : List VV} {v : List V}, RVs C as H x v → RVs C as H (x.take n) (v.take n)
  | 0, _, _, _ => by simpa using RVs.nil
  | n + 1, [], _, h => by rw [RVs] at h; subst h; exact RVs.nil
  | n + 1, x :: xs, _, h => by
    rw [RVs] at h
    obtain ⟨z, zs, rfl, h2, h3⟩ := h
    exact .cons h2 (RVs.take n h3)
theorem RVs.drop : ∀ (n : Nat) {x : List VV} {v : List V}, RVs C as H x v → RVs C as H (x.drop n) (v.drop n)
  | 0, _, _, h => h
  | n + 1, [], _, h => by rw [RVs] at h; subst h; exact RVs.nil
  | n + 1, x :: xs, _, h => by
    rw [RVs] at h
    obtain ⟨z, zs, rfl, h2, h3⟩ := h
    exact RVs.drop n h3
theorem RVs.set {x : VV} {u : V} (r : RV C as H x u) : ∀ (i : Nat) {xs : List VV} {vs : List V}, RVs C as H xs vs → RVs C as H (xs.set i x) (vs.set i u)
  | _, [], _, h => by rw [RVs] at h; subst h; exact RVs.nil
  | 0, y :: xs, _, h => by
    rw [RVs] at h
    obtain ⟨z, zs, rfl, h2, h3⟩ := h
    exact .cons r h3
  | i + 1, y :: xs, _, h => by
    rw [RVs] at h
    obtain ⟨z, zs, rfl, h2, h3⟩ := h
    exact .cons h2 (RVs.set r i h3)
theorem RVs.dropLast {xs : List VV} {vs : List V} (h : RVs C as H xs vs) : RVs C as H xs.dropLast vs.dropLast := by
  rw [List.dropLast_eq_take, List.dropLast_eq_take, ← h.length]
  exact h.take _
/-! the heap grows -/
theorem RelG.notIn {G : Hv} (r : RelG C as G H) {p : Addr} (hp : H p = none) : p ∉ as := fun hm => by
  obtain ⟨i, hi⟩ := List.getElem?_of_mem hm
  have hlt : i < G.length := by rw [← r.len]; exact (List.getElem?_eq_some_iff.mp hi).1
  obtain ⟨a, h, h1, h2, _⟩ := r.ob i G[i] (List.getElem?_eq_getElem hlt)
  rw [hi] at h1
  cases h1
  rw [hp] at h2
  cases h2
theorem Ext.wr {p : Addr} {o : HO} (hp : ∀ ys, H p ≠ some (.tup ys)) (hs : p ∈ as ∨ H p = none) : Ext as H as (upd H p o) := by
  refine ⟨⟨[], by simp⟩, fun a ys e => ?_, fun a u e m => ?_, fun a h => .inl h⟩
  · rw [upd_ne]
    · exact e
    · rintro rfl; exact hp _ e
  · refine .inl ?_
    rw [upd_ne]
    · exact e
    · rintro rfl
      rcases hs with h | h
      · exact m h
      · rw [h] at e; cases e
theorem Ext.side {p : Addr} {o : HO} (hp : H p = none) : Ext as H as (upd H p o) := Ext.wr (fun ys => by rw [hp]; simp) (.inr hp)
theorem Ext.new {p : Addr} {o : HO} (hp : H p = none) : Ext as H (as ++ [p]) (upd H p o) := by
  refine ⟨⟨[p], rfl⟩, fun a ys e => ?_, fun a u e m => ?_, fun a h => ?_⟩
  · rw [upd_ne]
    · exact e
    · rintro rfl; rw [hp] at e; cases e
  · refine .inl ?_
    rw [upd_ne]
    · exact e
    · rintro rfl; rw [hp] at e; cases e
  · rcases List.mem_append.mp h with h | h
    · exact .inl h
    · exact .inr (by rw [List.mem_singleton.mp h]; exact hp)
/-- something that is not told in G is laid at a free place -/
theorem RelG.side {G : Hv} (r : RelG C as G H) {p : Addr} {o : HO} (hp : H p = none) : RelG C as G (upd H p o) := by
  have e : Ext as H as (L2.upd H p o) := Ext.side hp
  refine ⟨r.tb.ext fun b o q _ => by rw [upd_ne (ne_of_none q hp)]; exact q, r.len, r.nd, fun i v hv => ?_⟩
  obtain ⟨a, h, h1, h2, h3⟩ := r.ob i v hv
  refine ⟨a, h, h1, ?_, h3.mono e⟩
  rw [upd_ne (ne_of_none h2 hp)]
  exact h2
/-- a new object -/
theorem RelG.new {G : Hv} (r : RelG C as G H) {p : Addr} {o : VO} {ho : HO} (hp : H p = none) (h : RO C as H o ho) : RelG C (as ++ [p]) (G ++ [o]) (upd H p ho) := by
  have e : Ext as H (as ++ [p]) (L2.upd H p ho) := Ext.new hp
  refine ⟨r.tb.ext fun b o q _ => by rw [upd_ne (ne_of_none q hp)]; exact q, by simp [r.len], ?_, fun i v hv => ?_⟩
  · rw [List.nodup_append]
    refine ⟨r.nd, by simp, fun a ha b hb => ?_⟩
    have : b = p := by simpa using hb
    subst this
    rintro rfl
    exact r.notIn hp ha
  · by_cases hi : i < G.length
    · rw [List.getElem?_append_left hi] at hv
      obtain ⟨a, h', h1, h2, h3⟩ := r.ob i v hv
      refine ⟨a, h', ?_, ?_, h3.mono e⟩
      · rw [List.getElem?_append_left (by rw [r.len]; exact hi)]; exact h1
      · rw [upd_ne (ne_of_none h2 hp)]; exact h2
    · rw [List.getElem?_append_right (by omega)] at hv
      have hi0 : i = G.length := by
        have := (List.getElem?_eq_some_iff.mp hv).1
        simp at this
        omega
      subst hi0
      simp at hv
      subst hv
      refine ⟨p, ho, ?_, upd_same, h.mono e⟩
      rw [← r.len]
      simp
theorem RelG.newAt {G : Hv} (r : RelG C as G H) {p : Addr} : (as ++ [p])[G.length]? = some p := by
  rw [← r.len]; simp
/-- an object is written -/
theorem RelG.write {G : Hv} (r : RelG C as G H) {i : Nat} {a : Addr} {o : VO} {ho : HO} (hi : as[i]? = some a) (nt : ∀ ys, H a ≠ some (.tup ys)) (h : RO C as H o ho) : RelG C as (G.set i o) (upd H a ho) := by
  have e : Ext as H as (L2.upd H a ho) := Ext.wr nt (.inl (List.mem_of_getElem? hi))
  have nx : ∀ b u, H b = some u → PinX u → b ≠ a := fun b u q z => by
    rintro rfl
    have hlt : i < G.length := by rw [← r.len]; exact (List.getElem?_eq_some_iff.mp hi).1
    obtain ⟨b', h', h1, h2, h3⟩ := r.ob i G[i] (List.getElem?_eq_getElem hlt)
    rw [hi] at h1
    cases h1
    rw [q] at h2
    cases h2
    exact h3.noX z
  refine ⟨r.tb.ext fun b u q z => by rw [upd_ne (nx b u q z)]; exact q, by simp [r.len], r.nd, fun j v hv => ?_⟩
  by_cases hj : j = i
  · subst hj
    rw [List.getElem?_set_self' ] at hv
    have hlt : j < G.length := by rw [← r.len]; exact (List.getElem?_eq_some_iff.mp hi).1
    rw [List.getElem?_eq_getElem hlt] at hv
    simp at hv
    subst hv
    exact ⟨a, ho, hi, upd_same, h.mono e⟩
  · rw [List.getElem?_set_ne (Ne.symm hj)] at hv
    obtain ⟨b, h', h1, h2, h3⟩ := r.ob j v hv
    refine ⟨b, h', h1, ?_, h3.mono e⟩
    rw [upd_ne]
    · exact h2
    · rintro rfl
      obtain ⟨k1, e1⟩ := List.getElem?_eq_some_iff.mp hi
      obtain ⟨k2, e2⟩ := List.getElem?_eq_some_iff.mp h1
      exact hj ((List.getElem_inj r.nd).mp (e2.trans e1.symm))
theorem RelG.at {G : Hv} (r : RelG C as G H) {i : Nat} {o : VO} (h : G[i]? = some o) {a : Addr} (ha : as[i]? = some a) : ∃ ho, H a = some ho ∧ RO C as H o ho := by
  obtain ⟨b, ho, h1, h2, h3⟩ := r.ob i o h
  rw [ha] at h1
  cases h1
  exact ⟨ho, h2, h3⟩
end

/-! ### readings -/
/-- an exception, as it lies -/
def RX (C : RC) (as : List Addr) (H : Hp) : VV → Value → Option Addr → Prop
  | .exc c fs, cls, d => ∃ Ca, C.mg (nameOf c) = some (.ref Ca) ∧ cls = .ref Ca ∧ ((fs = [] ∧ d = none) ∨ ∃ dd ys, d = some dd ∧ H dd = some (.xd ys) ∧ RFs C as H fs ys)
  | _, _, _ => False
def RS (C : RC) (as : List Addr) (H : Hp) (S : Env) (σ : St) : Prop := S.length = σ.length ∧ ∀ (i : Nat) (x : VV), S[i]? = some (some x) → ∃ v, σ[i]? = some (some v) ∧ RV C as H x v
theorem RS.mono {C : RC} {as as' : List Addr} {H H' : Hp} (e : Ext as H as' H') {S : Env} {σ : St} (h : RS C as H S σ) : RS C as' H' S σ :=
  ⟨h.1, fun i x hx => let ⟨v, h1, h2⟩ := h.2 i x hx; ⟨v, h1, h2.mono e⟩⟩
theorem RS.set {C : RC} {as : List Addr} {H : Hp} {S : Env} {σ : St} (h : RS C as H S σ) (i : Nat) {x : VV} {v : V} (r : RV C as H x v) : RS C as H (S.set i (some x)) (σ.set i (some v)) := by
  refine ⟨by simp [h.1], fun j y hy => ?_⟩
  by_cases hj : j = i
  · subst hj
    rw [List.getElem?_set_self'] at hy ⊢
    cases e : S[j]? with
    | none => rw [e] at hy; simp at hy
    | some z =>
      rw [e] at hy
      simp at hy
      subst hy
      have hlt : j < σ.length := by rw [← h.1]; exact (List.getElem?_eq_some_iff.mp e).1
      exact ⟨v, by rw [List.getElem?_eq_getElem hlt]; rfl, r⟩
  · rw [List.getElem?_set_ne (Ne.symm hj)] at hy ⊢
    exact h.2 j y hy
theorem RS.none {C : RC} {as : List Addr} {H : Hp} {S : Env} {σ : St} (h : RS C as H S σ) (i : Nat) (o : Option V) : RS C as H (S.set i .none) (σ.set i o) := by
  refine ⟨by simp [h.1], fun j y hy => ?_⟩
  by_cases hj : j = i
  · subst hj
    rw [List.getElem?_set_self'] at hy
    cases e : S[j]? with
    | none => rw [e] at hy; simp at hy
    | some z => rw [e] at hy; simp at hy
  · rw [List.getElem?_set_ne (Ne.symm hj)] at hy ⊢
    exact h.2 j y hy

section
variable (C : RC) (W : WX)
/-- what is wanted of a result: RR relates the answers -/
def tR {α β : Type} (RR : List Addr → Hp → α → β → Prop) (r : R α) (as : List Addr) (H : Hp) (σ : St) (Q : β → Hp → Prop) : Prop := match r with
  | .ok v G => ∀ as' H' v', Ext as H as' H' → RelG C as' G H' → RR as' H' v v' → Q v' H'
  | .exn x G => ∀ as' H' cls d, Ext as H as' H' → RelG C as' G H' → RX C as' H' x cls d → W cls d σ H'
  | .bad => False
def tD {α β : Type} (RR : List Addr → Hp → α → β → Prop) (d : Env → Hv → R α) : St → Hp → (β → Hp → Prop) → Prop := fun σ H Q => ∃ as G S, RelG C as G H ∧ RS C as H S σ ∧ tR C W RR (d S G) as H σ Q
def rEq' {α : Type} : List Addr → Hp → α → α → Prop := fun _ _ x y => x = y
abbrev tDE (d : DE) : TE := tD C W (RV C) d
abbrev tDT (d : DT) : TT := tD C W rEq' d
abbrev tDA (d : DA) : TA := tD C W (RVs C) d
/-- what is wanted of a statement's end -/
def tO (o : O) (as : List Addr) (H : Hp) (D : L2.Ends) : Prop := match o with
  | .nx S G => ∀ as' H' σ', Ext as H as' H' → RelG C as' G H' → RS C as' H' S σ' → D.nx σ' H'
  | .rt v G => ∀ as' H' v', Ext as H as' H' → RelG C as' G H' → RV C as' H' v v' → D.rt v' H'
  | .bk S G => ∀ as' H' σ', Ext as H as' H' → RelG C as' G H' → RS C as' H' S σ' → D.bk σ' H'
  | .ct S G => ∀ as' H' σ', Ext as H as' H' → RelG C as' G H' → RS C as' H' S σ' → D.ct σ' H'
  | .exn x S G => ∀ as' H' σ' cls d, Ext as H as' H' → RelG C as' G H' → RS C as' H' S σ' → RX C as' H' x cls d → W cls d σ' H'
  | .bad => False
def tDS (d : DS) : TS := fun D σ H => ∃ as G S, RelG C as G H ∧ RS C as H S σ ∧ tO C W (d S G) as H D
def tDG (d : DG) : TG := fun v σ H Q => ∃ as G S x, RelG C as G H ∧ RS C as H S σ ∧ RV C as H x v ∧ tO C W (d x S G) as H { nx := Q, rt := fun _ _ => False }
end
/-- an expression has this denotation -/
abbrev SndE (X : Cx) (ep : List (Addr × Obj)) (W : WX) (e : Expr) (d : DE) : Prop := PE X e (tDE (rc X ep) W d)
abbrev SndT (X : Cx) (ep : List (Addr × Obj)) (W : WX) (e : Expr) (d : DT) : Prop := PT X e (tDT (rc X ep) W d)
abbrev SndW (X : Cx) (ep : List (Addr × Obj)) (W : WX) (e : Expr) (d : DT) : Prop := PW X e (tDT (rc X ep) W d)
abbrev SndA (X : Cx) (ep : List (Addr × Obj)) (W : WX) (es : List Expr) (d : DA) : Prop := PA X es (tDA (rc X ep) W d)
abbrev SndS (X : Cx) (ep : List (Addr × Obj)) (W : WX) (s : Stmt) (d : DS) : Prop := PS X s (tDS (rc X ep) W d)
abbrev SndSs (X : Cx) (ep : List (Addr × Obj)) (W : WX) (s : List Stmt) (d : DS) : Prop := PSs X s (tDS (rc X ep) W d)
abbrev SndG (X : Cx) (ep : List (Addr × Obj)) (W : WX) (e : Expr) (d : DG) : Prop := PG X e (tDG (rc X ep) W d)

section
variable {C : RC} {W : WX} {α β γ δ : Type} {RR : List Addr → Hp → α → β → Prop} {RR' : List Addr → Hp → γ → δ → Prop}
theorem tR.step {r : R α} {as as1 : List Addr} {H H1 : Hp} {σ : St} {Q : β → Hp → Prop} (e : Ext as H as1 H1) (h : tR C W RR r as H σ Q) : tR C W RR r as1 H1 σ Q := by
  cases r with
  | ok v G => exact fun as' H' v' e' rg rv => h as' H' v' (e.trans e') rg rv
  | exn x G => exact fun as' H' cls d e' rg rx => h as' H' cls d (e.trans e') rg rx
  | bad => exact h
/-- first d, then f -/
theorem tD.bind {d : Env → Hv → R α} {f : α → Hv → R γ} {as : List Addr} {G : Hv} {S : Env} {σ : St} {H : Hp} {Q : δ → Hp → Prop} {Q1 : β → Hp → Prop} (rg : RelG C as G H) (rs : RS C as H S σ) (h : tR C W RR' ((d S G).bind f) as H σ Q)
    (k : ∀ x G1 as1 H1 x', Ext as H as1 H1 → RelG C as1 G1 H1 → RS C as1 H1 S σ → RR as1 H1 x x' → tR C W RR' (f x G1) as1 H1 σ Q → Q1 x' H1) : tD C W RR d σ H Q1 := by
  refine ⟨as, G, S, rg, rs, ?_⟩
  cases e : d S G with
  | ok x G1 =>
    rw [e] at h
    exact fun as1 H1 x' e1 rg1 rx => k x G1 as1 H1 x' e1 rg1 (rs.mono e1) rx (tR.step e1 h)
  | exn x G1 =>
    rw [e] at h
    exact h
  | bad =>
    rw [e] at h
    exact h
theorem tR.ok {v : α} {G : Hv} {as as1 : List Addr} {H H1 : Hp} {σ : St} {Q : β → Hp → Prop} {v' : β} (h : tR C W RR (.ok v G) as H σ Q) (e : Ext as H as1 H1) (rg : RelG C as1 G H1) (rv : RR as1 H1 v v') : Q v' H1 := h as1 H1 v' e rg rv
end
theorem _root_.L2.PE.imp {X : Cx} {e : Expr} {t t' : TE} (h : PE X e t) (i : ∀ σ H Q, t' σ H Q → t σ H Q) : PE X e t' := ⟨fun pins s σ H Q I q => h.run pins s σ H Q I (i σ H Q q)⟩
theorem _root_.L2.PT.imp {X : Cx} {e : Expr} {t t' : TT} (h : PT X e t) (i : ∀ σ H Q, t' σ H Q → t σ H Q) : PT X e t' := ⟨fun pins s σ H Q I q => h.run pins s σ H Q I (i σ H Q q)⟩
theorem _root_.L2.PW.imp {X : Cx} {e : Expr} {t t' : TT} (h : PW X e t) (i : ∀ σ H Q, t' σ H Q → t σ H Q) : PW X e t' := ⟨fun w pins s σ H Q I q => h.run w pins s σ H Q I (i σ H Q q)⟩
theorem _root_.L2.PA.imp {X : Cx} {e : List Expr} {t t' : TA} (h : PA X e t) (i : ∀ σ H Q, t' σ H Q → t σ H Q) : PA X e t' := ⟨fun p pins s σ H Q I q => h.run p pins s σ H Q I (i σ H Q q)⟩
theorem _root_.L2.PS.imp {X : Cx} {e : Stmt} {t t' : TS} (h : PS X e t) (i : ∀ D σ H, t' D σ H → t D σ H) : PS X e t' := ⟨fun pins s σ H D I q => h.run pins s σ H D I (i D σ H q)⟩
theorem _root_.L2.PSs.imp {X : Cx} {e : List Stmt} {t t' : TS} (h : PSs X e t) (i : ∀ D σ H, t' D σ H → t D σ H) : PSs X e t' := ⟨fun pins s σ H D I q => h.run pins s σ H D I (i D σ H q)⟩
theorem _root_.L2.PG.imp {X : Cx} {e : Expr} {t t' : TG} (h : PG X e t) (i : ∀ v σ H Q, t' v σ H Q → t v σ H Q) : PG X e t' := ⟨fun pins s σ H v u Q I r q => h.run pins s σ H v u Q I r (i v σ H Q q)⟩

/-! ### constants, names -/
section
variable {X : Cx} {ep : List (Addr × Obj)} {W : WX}
theorem se_bad {e : Expr} : SndE X ep W e dBad := ⟨fun _ _ _ _ _ _ ⟨_, _, _, _, _, h⟩ => h.elim⟩
theorem se_non {j pos} : SndE X ep W (.Constant .none j pos) (dC .non) := pe_non.imp fun σ H Q ⟨as, G, S, rg, rs, h⟩ => h as H .non .refl rg (by rw [RV])
theorem se_bl {b j pos} : SndE X ep W (.Constant (.bool b) j pos) (dC (.bl b)) := pe_bl.imp fun σ H Q ⟨as, G, S, rg, rs, h⟩ => h as H (.bl b) .refl rg (by rw [RV])
theorem se_int {i j pos} : SndE X ep W (.Constant (.int i) j pos) (dC (.int i)) := pe_int.imp fun σ H Q ⟨as, G, S, rg, rs, h⟩ => h as H (.int i) .refl rg (by rw [RV])
theorem se_str {s : List Nat} {x : Str} {j pos} (e : x = mkS s := by first | rfl | decide +kernel) (ok : sOk s = true := by decide +kernel) : SndE X ep W (.Constant (.str x) j pos) (dC (.str s)) := by
  subst e
  exact pe_str.imp fun σ H Q ⟨as, G, S, rg, rs, h⟩ => h as H (.str (mkS s)) .refl rg (by rw [RV]; exact ⟨rfl, ok⟩)
theorem sv (i : Nat) {x : Str} {pos : Pos} (hN : X.N[i]? = some x := by rfl) (hv : Vis X.env.scope x := by first | exact .inl rfl | exact .inr (.inl rfl) | exact .inr (.inr rfl)) (hd : (x == ("__debug__" : Str)) = false := by decide)
    (hcd : (x == ("__classdict__" : Str)) = false := by decide) : SndE X ep W (.Name x pos) (dVar i) := (pe_var hN hv hd hcd).imp fun σ H Q ⟨as, G, S, rg, rs, h⟩ => by
  cases e : S[i]? with
  | none => rw [dVar, e] at h; exact h.elim
  | some o =>
    cases o with
    | none => rw [dVar, e] at h; exact h.elim
    | some x =>
      rw [dVar, e] at h
      obtain ⟨v, h1, h2⟩ := rs.2 i x e
      exact ⟨v, h1, h as H v .refl rg h2⟩
/-- a constant of the module -/
structure GlobOk (K : PySem.W.Frag) (mg : Str → Option Value) (x : Str) (c : VV) : Prop where
  ex : ∃ u v, mg x = some u ∧ RelV v u ∧ ∀ as H, RV ⟨K, mg, []⟩ as H c v
end
end DL
end S_Rules1
section S_Rules2
set_option Elab.async false
set_option linter.all false
set_option maxRecDepth 100000
set_option maxHeartbeats 2000000
/-! Rules2: operators, comparisons, tests, displays, subscripts. -/
namespace DL
open PySem PySem.Spec PyProof.Rows L2
variable [tbs : TabsT] [TC : TabsC]

/-! ### values -/
section
variable {C : RC} {as : List Addr} {H : Hp}
theorem RV.int {i : Int} {v : V} (h : RV C as H (.int i) v) : v = .int i := by rw [RV] at h; exact h
theorem RV.bl {i : Bool} {v : V} (h : RV C as H (.bl i) v) : v = .bl i := by rw [RV] at h; exact h
theorem RV.non {v : V} (h : RV C as H .non v) : v = .non := by rw [RV] at h; exact h
theorem RV.str {s : List Nat} {v : V} (h : RV C as H (.str s) v) : v = .str (mkS s) := by rw [RV] at h; exact h.1
theorem RV.sok {s : List Nat} {v : V} (h : RV C as H (.str s) v) : sOk s = true := by rw [RV] at h; exact h.2
theorem RV.tup {xs : List VV} {v : V} (h : RV C as H (.tup xs) v) : ∃ a ys, v = .ref a ∧ TupAt C.K H a ys ∧ RVs C as H xs ys := by rw [RV] at h; exact h
theorem RV.ref {i : Nat} {v : V} (h : RV C as H (.ref i) v) : ∃ a, as[i]? = some a ∧ v = .ref a := by rw [RV] at h; exact h
theorem RV.mkInt {i : Int} : RV C as H (.int i) (.int i) := by rw [RV]
theorem RV.mkBl {i : Bool} : RV C as H (.bl i) (.bl i) := by rw [RV]
theorem RV.mkNon : RV C as H .non .non := by rw [RV]
theorem RV.mkStr {s : List Nat} (h : sOk s = true) : RV C as H (.str s) (.str (mkS s)) := by rw [RV]; exact ⟨rfl, h⟩
theorem RV.mkTup {xs : List VV} {a : Addr} {ys : List V} (h : TupAt C.K H a ys) (r : RVs C as H xs ys) : RV C as H (.tup xs) (.ref a) := by rw [RV]; exact ⟨a, ys, rfl, h, r⟩
theorem RV.mkRef {i : Nat} {a : Addr} (h : as[i]? = some a) : RV C as H (.ref i) (.ref a) := by rw [RV]; exact ⟨a, h, rfl⟩
/-- a tracked list -/
theorem RV.lst {G : Hv} {i : Nat} {xs : List VV} {v : V} (rg : RelG C as G H) (h : RV C as H (.ref i) v) (e : G[i]? = some (.lst xs)) : ∃ a ys, as[i]? = some a ∧ v = .ref a ∧ H a = some (.lst ys) ∧ RVs C as H xs ys := by
  obtain ⟨a, ha, hv⟩ := h.ref
  obtain ⟨ho, h1, ys, h2, h3⟩ := rg.at e ha
  subst h2
  exact ⟨a, ys, ha, hv, h1, h3⟩
/-- a list that is read -/
theorem RV.lstR {K : PySem.W.Frag} {G : Hv} {xs : List VV} {x : VV} {v : V} (rg : RelG C as G H) (h : RV C as H x v) (e : asListR G x = some xs) : ∃ a ys, v = .ref a ∧ SqL K H a ys ∧ RVs C as H xs ys := by
  cases x with
  | ref i =>
    obtain ⟨a, ha, hv⟩ := h.ref
    unfold asListR at e
    simp only at e
    cases q : G[i]? with
    | none => rw [q] at e; cases e
    | some o =>
      rw [q] at e
      obtain ⟨ho, h1, h2⟩ := rg.at q ha
      cases o with
      | lst zs =>
        cases e
        obtain ⟨ys, rfl, h3⟩ := h2
        exact ⟨a, ys, hv, SqL.of h1, h3⟩
      | flst zs =>
        cases e
        obtain ⟨ys, rfl | ⟨ob, rfl⟩, h3⟩ := h2
        · exact ⟨a, ys, hv, SqL.of h1, h3⟩
        · exact ⟨a, ys, hv, .inl (.inr ⟨ob, h1⟩), h3⟩
      | dic _ => cases e
      | ins _ _ => cases e
      | nset _ _ => cases e
  | _ => cases e
theorem RV.seq {G : Hv} {xs : List VV} {x : VV} {v : V} (rg : RelG C as G H) (h : RV C as H x v) (e : asSeq G x = some xs) : ∃ a ys, v = .ref a ∧ (SqL C.K H a ys ∨ SqT C.K H a ys) ∧ RVs C as H xs ys := by
  cases x with
  | tup zs =>
    cases e
    obtain ⟨a, ys, h1, h2, h3⟩ := h.tup
    exact ⟨a, ys, h1, .inr h2.sq, h3⟩
  | ref i =>
    obtain ⟨a, ys, h1, h2, h3⟩ := RV.lstR (K := C.K) rg h (show asListR G (.ref i) = some xs from e)
    exact ⟨a, ys, h1, .inl h2, h3⟩
  | _ => cases e
end
theorem lim : LIM = sizeLine := by rw [sizeLine_eq]
theorem mkS_len (s : List Nat) : (mkS s).length = s.length := by simp [mkS, Str.length]
theorem mkS_app (a b : List Nat) : (mkS a ++ mkS b : Str) = mkS (a ++ b) := by
  show Str.append (mkS a) (mkS b) = _
  simp [Str.append, mkS]
theorem mkS_inj {a b : List Nat} (h : mkS a = mkS b) : a = b := by
  have := congrArg (fun s : Str => s.cps.toList) h
  simpa [mkS] using this
theorem sOk_app {a b : List Nat} (h : sOk a = true) (h' : sOk b = true) : sOk (a ++ b) = true := by
  unfold sOk at *
  rw [List.all_append, h, h']; rfl

/-! ### two-place operators -/
/-- an answer by values -/
def oR (C : RC) (o : Option (VV × Hv)) (as : List Addr) (H : Hp) (Q : VK) : Prop := match o with
  | some (v, G) => ∀ as' H' v', Ext as H as' H' → RelG C as' G H' → RV C as' H' v v' → Q v' H'
  | none => False
def rD (C : RC) (f : VV → VV → Hv → Option (VV × Hv)) : R2 := fun x' y' H Q => ∃ as G x y, RelG C as G H ∧ RV C as H x x' ∧ RV C as H y y' ∧ oR C (f x y G) as H Q
theorem tR_ofO {C : RC} {W : WX} {o : Option (VV × Hv)} {as : List Addr} {H : Hp} {σ : St} {Q : VK} (h : tR C W (RV C) (ofO o) as H σ Q) : oR C o as H Q := by
  cases o with
  | none => exact h
  | some p => exact h
section
variable {X : Cx} {ep : List (Addr × Obj)} {W : WX} {a b c : Expr} {da db dc : DE} {pos : Pos}
theorem se_bin {op : Operator} {f : VV → VV → Hv → Option (VV × Hv)} (ho : OpR X (binaryOp op) (rD (rc X ep) f)) (ha : SndE X ep W a da) (hb : SndE X ep W b db) : SndE X ep W (.BinOp a op b pos) (dBin f da db) :=
  (pe_op ho ha hb).imp fun σ H Q ⟨as, G, S, rg, rs, h⟩ =>
    tD.bind rg rs h fun x G1 as1 H1 x' e1 rg1 rs1 rx h1 => tD.bind rg1 rs1 h1 fun y G2 as2 H2 y' e2 rg2 rs2 ry h2 => ⟨as2, G2, x, y, rg2, rx.mono e2, ry, tR_ofO h2⟩
theorem so_oAdd : OpR X (binaryOp .Add) (rD (rc X ep) oAdd) := by
  intro pins s σ H x' y' v u Q I rx ry ⟨as, G, x, y, rg, hx, hy, h⟩
  unfold oAdd at h
  split at h
  · exact op_add pins s σ H _ _ v u Q I rx ry ⟨_, _, hx.int, hy.int, h _ _ _ .refl rg .mkInt⟩
  · rename_i s1 s2
    split at h
    · rename_i hl
      have := h _ _ _ .refl rg (.mkStr (sOk_app hx.sok hy.sok))
      refine op_add_str pins s σ H _ _ v u Q I rx ry ⟨_, _, hx.str, hy.str, by rw [mkS_len, mkS_len, ← lim]; exact hl, ?_⟩
      rw [mkS_app]; exact this
    · exact h.elim
  · rename_i xs ys
    split at h
    · rename_i hl
      obtain ⟨a, vs, e1, t1, r1⟩ := hx.tup
      obtain ⟨b, ws, e2, t2, r2⟩ := hy.tup
      have l1 := r1.length
      have l2 := r2.length
      refine op_catA pins s σ H _ _ v u Q I rx ry ⟨a, b, vs, ws, e1, e2, t1.sq, t2.sq, by rw [← l1, ← l2, ← lim]; exact hl, fun e => ?_, fun ne e => ?_, fun n1 n2 p hp => ?_⟩
      · subst e
        have : xs = [] := by cases xs; rfl; simp at l1
        subst this
        exact h _ _ _ .refl rg (.mkTup t2 r2)
      · subst e
        have : ys = [] := by cases ys; rfl; simp at l2
        subst this
        rw [List.append_nil] at h
        exact h _ _ _ .refl rg (.mkTup t1 r1)
      · have e : Ext as H as (upd H p (.tup (vs ++ ws))) := Ext.side hp
        exact h as _ _ e (rg.side hp) (.mkTup (.inl upd_same) ((r1.append r2).mono e))
    · exact h.elim
  · rename_i i j
    split at h
    · rename_i xs ys ei ej
      split at h
      · rename_i hl
        obtain ⟨a, vs, h1, h2, h3, r1⟩ := RV.lst rg hx ei
        obtain ⟨b, ws, h4, h5, h6, r2⟩ := RV.lst rg hy ej
        refine op_cat pins s σ H _ _ v u Q I rx ry ⟨a, b, vs, ws, h2, h5, h3, h6, by rw [← r1.length, ← r2.length, ← lim]; exact hl, fun p hp => ?_⟩
        have e : Ext as H (as ++ [p]) (upd H p (.lst (vs ++ ws))) := Ext.new hp
        exact h _ _ _ e (rg.new hp ⟨_, rfl, r1.append r2⟩) (.mkRef rg.newAt)
      · exact h.elim
    · exact h.elim
  · exact h.elim
theorem so_oSub : OpR X (binaryOp .Sub) (rD (rc X ep) oSub) := by
  intro pins s σ H x' y' v u Q I rx ry ⟨as, G, x, y, rg, hx, hy, h⟩
  unfold oSub at h
  split at h
  · exact op_sub pins s σ H _ _ v u Q I rx ry ⟨_, _, hx.int, hy.int, h _ _ _ .refl rg .mkInt⟩
  · exact h.elim
theorem mulOk {i j : Int} (h : MulOk i j) : IntMulOk i j := by
  have b : ∀ x : Int, Builtin.Int.intBits x ≤ x.natAbs.log2 + 1 := fun x => by
    unfold Builtin.Int.intBits
    split <;> omega
  have h1 := b i
  have h2 := b j
  have h3 : i.natAbs.log2 + j.natAbs.log2 < 100000000 := h
  have e : bitsLine = 134217728 := by decide
  unfold IntMulOk
  intro z
  rw [Bool.and_eq_true] at z
  have z2 := z.2
  unfold Builtin.Int.intTooBig at z2
  have z3 := of_decide_eq_true z2
  rw [e] at z3
  omega
theorem op_mulG : OpR X (binaryOp .Mult) (rI (fun i j => MulOk i j) fun i j => .int (i * j)) := opI fun _ _ _ _ _ _ _ hc q => mul_int q (mulOk hc)
theorem repL_eq {C : RC} {as : List Addr} {H : Hp} {xs : List VV} {ys : List V} (r : RVs C as H xs ys) : ∀ n, RVs C as H (repL xs n) (List.replicate n ys).flatten
  | 0 => by simpa [repL] using RVs.nil
  | n + 1 => by
    rw [repL, List.replicate_succ, List.flatten_cons]
    exact r.append (repL_eq r n)
theorem so_oMul : OpR X (binaryOp .Mult) (rD (rc X ep) oMul) := by
  intro pins s σ H x' y' v u Q I rx ry ⟨as, G, x, y, rg, hx, hy, h⟩
  unfold oMul at h
  split at h
  · split at h
    · rename_i hl
      exact op_mulG pins s σ H _ _ v u Q I rx ry ⟨_, _, hx.int, hy.int, hl, h _ _ _ .refl rg .mkInt⟩
    · exact h.elim
  · split at h
    · rename_i xs ei
      split at h
      · rename_i hl
        obtain ⟨a, vs, h1, h2, h3, r1⟩ := RV.lst rg hx ei
        refine op_rep pins s σ H _ _ v u Q I rx ry ⟨a, _, vs, h2, hy.int, h3, hl.1, hl.2.1, by rw [← r1.length, ← lim]; exact hl.2.2, fun p hp => ?_⟩
        exact h _ _ _ (Ext.new hp) (rg.new hp ⟨_, rfl, repL_eq r1 _⟩) (.mkRef rg.newAt)
      · exact h.elim
    · exact h.elim
  · exact h.elim
theorem so_oFdiv : OpR X (binaryOp .FloorDiv) (rD (rc X ep) oFdiv) := by
  intro pins s σ H x' y' v u Q I rx ry ⟨as, G, x, y, rg, hx, hy, h⟩
  unfold oFdiv at h
  split at h
  · split at h
    · rename_i hl
      exact op_fdiv pins s σ H _ _ v u Q I rx ry ⟨_, _, hx.int, hy.int, hl, h _ _ _ .refl rg .mkInt⟩
    · exact h.elim
  · exact h.elim
theorem so_oMod : OpR X (binaryOp .Mod) (rD (rc X ep) oMod) := by
  intro pins s σ H x' y' v u Q I rx ry ⟨as, G, x, y, rg, hx, hy, h⟩
  unfold oMod at h
  split at h
  · split at h
    · rename_i hl
      exact op_mod pins s σ H _ _ v u Q I rx ry ⟨_, _, hx.int, hy.int, hl, h _ _ _ .refl rg .mkInt⟩
    · exact h.elim
  · exact h.elim
theorem so_oPow : OpR X (binaryOp .Pow) (rD (rc X ep) oPow) := by
  intro pins s σ H x' y' v u Q I rx ry ⟨as, G, x, y, rg, hx, hy, h⟩
  unfold oPow at h
  split at h
  · split at h
    · rename_i hl
      exact op_pow pins s σ H _ _ v u Q I rx ry ⟨_, _, hx.int, hy.int, ⟨hl.1, by omega, hl.2.2⟩, h _ _ _ .refl rg .mkInt⟩
    · exact h.elim
  · exact h.elim

/-! ### comparisons -/
def rC (C : RC) (f : Hv → VV → VV → Option Bool) : R2 := fun x' y' H Q => ∃ as G x y b, RelG C as G H ∧ RV C as H x x' ∧ RV C as H y y' ∧ f G x y = some b ∧ Q (.bl b) H
theorem tR_ofB {C : RC} {W : WX} {o : Option Bool} {as : List Addr} {G : Hv} {H : Hp} {σ : St} {Q : VK} (rg : RelG C as G H) (h : tR C W (RV C) (ofP (o.map VV.bl) G) as H σ Q) : ∃ b, o = some b ∧ Q (.bl b) H := by
  cases o with
  | none => exact h.elim
  | some b => exact ⟨b, rfl, h _ _ _ .refl rg .mkBl⟩
theorem se_cmp {op : CmpOp} {f : Hv → VV → VV → Option Bool} (ho : OpR X (compareOp op) (rC (rc X ep) f)) (ha : SndE X ep W a da) (hb : SndE X ep W b db) (hm : behindInMarks op b = false := by first | rfl | exact nobehind _ (by decide) (by decide)) :
    SndE X ep W (.Compare a [op] [b] pos) (dCmp f da db) :=
  (pe_cmpR ho ha hb hm).imp fun σ H Q ⟨as, G, S, rg, rs, h⟩ =>
    tD.bind rg rs h fun x G1 as1 H1 x' e1 rg1 rs1 rx h1 => tD.bind rg1 rs1 h1 fun y G2 as2 H2 y' e2 rg2 rs2 ry h2 => by
      obtain ⟨b, e, q⟩ := tR_ofB rg2 h2
      exact ⟨as2, G2, x, y, b, rg2, rx.mono e2, ry, e, q⟩
theorem so_cmpI {op : CmpOp} {p : Int → Int → Bool} (ho : OpR X (compareOp op) (rI0 fun i j => .bl (p i j))) : OpR X (compareOp op) (rC (rc X ep) fun _ x y => cmpI p x y) := by
  intro pins s σ H x' y' v u Q I rx ry ⟨as, G, x, y, b, rg, hx, hy, h, q⟩
  unfold cmpI at h
  dsimp only at h
  split at h
  · cases h
    exact ho pins s σ H _ _ v u Q I rx ry ⟨_, _, hx.int, hy.int, q⟩
  · cases h
theorem so_cLt : OpR X (compareOp .Lt) (rC (rc X ep) cLt) := so_cmpI op_lt
theorem so_cLe : OpR X (compareOp .LtE) (rC (rc X ep) cLe) := so_cmpI op_le
theorem so_cGt : OpR X (compareOp .Gt) (rC (rc X ep) cGt) := so_cmpI op_gt
theorem so_cGe : OpR X (compareOp .GtE) (rC (rc X ep) cGe) := so_cmpI op_ge
/-! equality of data -/
mutual
def pdOf : PD → PyData
  | .non => .none
  | .bl b => .bool b
  | .int i => .int i
  | .str s => .str (mkS s)
  | .lst xs => .list (pdOfs xs)
  | .tup xs => .tuple (pdOfs xs)
def pdOfs : List PD → List PyData
  | [] => []
  | x :: xs => pdOf x :: pdOfs xs
end
theorem b2i_eq (b : Bool) : DL.b2i b = if b then 1 else 0 := rfl
mutual
theorem eqv_pd : ∀ (x y : PD), PyData.eqv (pdOf x) (pdOf y) = PD.eqv x y
  | .non, y => by cases y <;> rfl
  | .bl a, y => by cases y <;> simp [pdOf, PyData.eqv, PD.eqv, DL.b2i] <;> rfl
  | .int a, y => by cases y <;> simp [pdOf, PyData.eqv, PD.eqv, DL.b2i] <;> rfl
  | .str a, y => by
    cases y <;> simp [pdOf, PyData.eqv, PD.eqv]
    rename_i b
    by_cases h : a = b
    · subst h; simp
    · have : ¬ mkS a = mkS b := fun e => h (mkS_inj e)
      simp [h]
  | .lst a, y => by
    cases y <;> simp [pdOf, PyData.eqv, PD.eqv]
    exact eqv_pds a _
  | .tup a, y => by
    cases y <;> simp [pdOf, PyData.eqv, PD.eqv]
    exact eqv_pds a _
theorem eqv_pds : ∀ (x y : List PD), PyData.eqvAll (pdOfs x) (pdOfs y) = eqvL x y
  | [], y => by cases y <;> rfl
  | a :: x, y => by
    cases y with
    | nil => rfl
    | cons b y =>
      show (PyData.eqv (pdOf a) (pdOf b) && PyData.eqvAll (pdOfs x) (pdOfs y)) = (PD.eqv a b && eqvL x y)
      rw [eqv_pd a b, eqv_pds x y]
end
/-- data read off the heap -/
theorem toPD_dp {C : RC} {as : List Addr} {G : Hv} {H : Hp} (rg : RelG C as G H) : ∀ (n : Nat), (∀ (x : VV) (v : V) (d : PD), RV C as H x v → toPD G n x = some d → Dp C.K H v (pdOf d) ∧ (pdOf d).canLay0 = true ∧ (pdOf d).depth ≤ n) ∧
    (∀ (xs : List VV) (vs : List V) (ds : List PD), RVs C as H xs vs → mapO (toPD G n) xs = some ds → DpAll C.K H vs (pdOfs ds) ∧ PyData.canLayAll0 (pdOfs ds) = true ∧ PyData.depthAll (pdOfs ds) ≤ n)
  | 0 => by
    have h1 : ∀ (x : VV) (v : V) (d : PD), RV C as H x v → toPD G 0 x = some d → Dp C.K H v (pdOf d) ∧ (pdOf d).canLay0 = true ∧ (pdOf d).depth ≤ 0 := fun x v d _ e => by cases e
    refine ⟨h1, fun xs vs ds r e => ?_⟩
    cases xs with
    | nil =>
      cases e
      rw [RVs] at r; subst r
      exact ⟨.nil, rfl, Nat.le_refl _⟩
    | cons x xs => simp [mapO, toPD] at e
  | n + 1 => by
    have ih := (toPD_dp rg n).2
    have one : ∀ (x : VV) (v : V) (d : PD), RV C as H x v → toPD G (n + 1) x = some d → Dp C.K H v (pdOf d) ∧ (pdOf d).canLay0 = true ∧ (pdOf d).depth ≤ n + 1 := fun x v d r e => by
      unfold toPD at e
      cases x with
      | non => cases e; rw [r.non]; exact ⟨.non, rfl, Nat.zero_le _⟩
      | bl b => cases e; rw [r.bl]; exact ⟨.bl b, rfl, Nat.zero_le _⟩
      | int b => cases e; rw [r.int]; exact ⟨.int b, rfl, Nat.zero_le _⟩
      | str b =>
        cases e
        have ok := r.sok
        rw [r.str]
        refine ⟨.str _, ?_, Nat.zero_le _⟩
        show PyData.strOk (mkS b) = true
        unfold PyData.strOk
        show (b.toArray.all fun c => decide (c < 0x110000)) = true
        rw [List.all_toArray]
        exact ok
      | tup xs =>
        simp only at e
        cases q : mapO (toPD G n) xs with
        | none => rw [q] at e; cases e
        | some ds =>
          rw [q] at e
          cases e
          obtain ⟨a, ys, rfl, t, r2⟩ := r.tup
          obtain ⟨h1, h2, h3⟩ := ih xs ys ds r2 q
          exact ⟨.tup t.sq h1, h2, Nat.succ_le_succ h3⟩
      | ref i =>
        simp only at e
        cases q : G[i]? with
        | none => rw [q] at e; cases e
        | some o =>
          rw [q] at e
          cases o with
          | lst xs =>
            simp only at e
            cases q2 : mapO (toPD G n) xs with
            | none => rw [q2] at e; cases e
            | some ds =>
              rw [q2] at e
              cases e
              obtain ⟨a, ys, _, rfl, t, r2⟩ := RV.lst rg r q
              obtain ⟨h1, h2, h3⟩ := ih xs ys ds r2 q2
              exact ⟨.lst (SqL.of t) h1, h2, Nat.succ_le_succ h3⟩
          | _ => cases e
      | _ => cases e
    refine ⟨one, fun xs => ?_⟩
    induction xs with
    | nil =>
      intro vs ds r e
      cases e
      rw [RVs] at r; subst r
      exact ⟨.nil, rfl, Nat.zero_le _⟩
    | cons x xs ihx =>
      intro vs ds r e
      rw [RVs] at r
      obtain ⟨y, zs, rfl, r1, r2⟩ := r
      unfold mapO at e
      cases q : toPD G (n + 1) x with
      | none => rw [q] at e; cases e
      | some d =>
        rw [q] at e
        cases q2 : mapO (toPD G (n + 1)) xs with
        | none => rw [q2] at e; cases e
        | some ds' =>
          rw [q2] at e
          cases e
          obtain ⟨h1, h2, h3⟩ := one x y d r1 q
          obtain ⟨k1, k2, k3⟩ := ihx zs ds' r2 q2
          refine ⟨.cons h1 k1, ?_, ?_⟩
          · show ((pdOf d).canLay0 && PyData.canLayAll0 (pdOfs ds')) = true
            rw [h2, k2]; rfl
          · show max (pdOf d).depth (PyData.depthAll (pdOfs ds')) ≤ n + 1
            omega
theorem shaped_pd {d : PyData} (h1 : d.canLay0 = true) (h2 : d.depth ≤ DEPTH) : SeqAt.shaped d = true := by
  unfold SeqAt.shaped
  rw [h1]
  have : d.depth ≤ 64 := Nat.le_trans h2 (by decide)
  simp [this]
theorem so_cEq (hu : X.A.units + 64 < cLine) : OpR X (compareOp .Eq) (rC (rc X ep) cEq) := by
  intro pins s σ H x' y' v u Q I rx ry ⟨as, G, x, y, b, rg, hx, hy, h, q⟩
  unfold cEq oEq at h
  split at h
  · rename_i d e hd he
    cases h
    obtain ⟨k1, k2, k3⟩ := (toPD_dp rg DEPTH).1 x x' d hx hd
    obtain ⟨l1, l2, l3⟩ := (toPD_dp rg DEPTH).1 y y' e hy he
    exact op_eqD hu pins s σ H _ _ v u Q I rx ry ⟨_, _, k1, l1, shaped_pd k2 k3, shaped_pd l2 l3, by rw [eqv_pd]; exact q⟩
  · cases h
theorem so_cNe (hu : X.A.units + 64 < cLine) : OpR X (compareOp .NotEq) (rC (rc X ep) cNe) := by
  intro pins s σ H x' y' v u Q I rx ry ⟨as, G, x, y, b, rg, hx, hy, h, q⟩
  unfold cNe oEq at h
  split at h
  · rename_i d e hd he
    cases h
    obtain ⟨k1, k2, k3⟩ := (toPD_dp rg DEPTH).1 x x' d hx hd
    obtain ⟨l1, l2, l3⟩ := (toPD_dp rg DEPTH).1 y y' e hy he
    exact op_neD hu pins s σ H _ _ v u Q I rx ry ⟨_, _, k1, l1, shaped_pd k2 k3, shaped_pd l2 l3, by rw [eqv_pd]; exact q⟩
  · cases h
end
end DL
end S_Rules2
section S_Rules3
set_option Elab.async false
set_option linter.all false
set_option maxRecDepth 100000
set_option maxHeartbeats 2000000
/-! Rules3: in, chains, tests, displays, subscripts, slices. -/
namespace DL
open PySem PySem.Spec PyProof.Rows L2
variable [tbs : TabsT] [TC : TabsC]
section
variable {X : Cx} {ep : List (Addr × Obj)} {W : WX} {a b c : Expr} {da db dc : DE} {pos : Pos}
theorem Dp_seq {C : RC} {as : List Addr} {G : Hv} {H : Hp} (rg : RelG C as G H) {y : VV} {v : V} {xs : List VV} {ds : List PD} (h : RV C as H y v) (e : asSeq G y = some xs) (e2 : mapO (toPD G DEPTH) xs = some ds) :
    (Dp C.K H v (.list (pdOfs ds)) ∨ Dp C.K H v (.tuple (pdOfs ds))) ∧ PyData.canLayAll0 (pdOfs ds) = true ∧ PyData.depthAll (pdOfs ds) ≤ DEPTH := by
  obtain ⟨a, ys, rfl, h1, r⟩ := RV.seq rg h e
  obtain ⟨k1, k2, k3⟩ := (toPD_dp rg DEPTH).2 xs ys ds r e2
  refine ⟨?_, k2, k3⟩
  rcases h1 with h1 | h1
  · exact .inl (.lst h1 k1)
  · exact .inr (.tup h1 k1)
theorem any_pds (d : PD) : ∀ ds : List PD, ((pdOfs ds).any fun z => PyData.eqv z (pdOf d)) = ds.any fun z => PD.eqv z d
  | [] => rfl
  | x :: r => by
    show (PyData.eqv (pdOf x) (pdOf d) || (pdOfs r).any fun z => PyData.eqv z (pdOf d)) = (PD.eqv x d || r.any fun z => PD.eqv z d)
    rw [eqv_pd, any_pds d r]
theorem room_in {A : Around} {ds : List PyData} {d : PyData} (h : PyData.depthAll ds ≤ DEPTH) (hu : A.units + 64 < cLine) : A.units + 1 + min (PyData.depthAll ds) d.depth < cLine := by
  have h2 : min (PyData.depthAll ds) d.depth ≤ PyData.depthAll ds := Nat.min_le_left _ _
  have h3 : DEPTH = 12 := rfl
  omega
theorem so_cIn (hu : X.A.units + 64 < cLine) : OpR X (compareOp .In) (rC (rc X ep) cIn) := by
  intro pins s σ H x' y' v u Q I rx ry ⟨as, G, x, y, b, rg, hx, hy, h, q⟩
  unfold cIn oIn at h
  split at h
  · cases h
    exact op_in_sign pins s σ H _ _ v u Q I rx ry ⟨_, _, hx.str, hy.str, by simpa using q⟩
  · split at h
    · rename_i xs e1
      split at h
      · rename_i d ds e2 e3
        cases h
        obtain ⟨k1, k2, k3⟩ := (toPD_dp rg DEPTH).1 x x' d hx e2
        obtain ⟨l1, l2, l3⟩ := Dp_seq rg hy e1 e3
        obtain ⟨bs, r1⟩ := Dp.reads I (pdOf d) x' v k1 rx
        rw [← any_pds] at q
        rcases l1 with l1 | l1
        · obtain ⟨cs, r2⟩ := Dp.reads I _ y' u l1 ry
          exact SeqAt.in_list_reads r2 r1 l2 k2 (room_in l3 hu) ⟨.bl _, H, I, rfl, q⟩
        · obtain ⟨cs, r2⟩ := Dp.reads I _ y' u l1 ry
          exact SeqAt.in_tuple_reads r2 r1 l2 k2 (room_in l3 hu) ⟨.bl _, H, I, rfl, q⟩
      · cases h
    · cases h
theorem so_cNin (hu : X.A.units + 64 < cLine) : OpR X (compareOp .NotIn) (rC (rc X ep) cNin) := by
  intro pins s σ H x' y' v u Q I rx ry ⟨as, G, x, y, b, rg, hx, hy, h, q⟩
  unfold cNin oIn at h
  split at h
  · cases h
    exact op_notIn_sign pins s σ H _ _ v u Q I rx ry ⟨_, _, hx.str, hy.str, by simpa using q⟩
  · split at h
    · rename_i xs e1
      split at h
      · rename_i d ds e2 e3
        cases h
        obtain ⟨k1, k2, k3⟩ := (toPD_dp rg DEPTH).1 x x' d hx e2
        obtain ⟨l1, l2, l3⟩ := Dp_seq rg hy e1 e3
        obtain ⟨bs, r1⟩ := Dp.reads I (pdOf d) x' v k1 rx
        rw [← any_pds] at q
        rcases l1 with l1 | l1
        · obtain ⟨cs, r2⟩ := Dp.reads I _ y' u l1 ry
          exact SeqAt.notIn_list_reads r2 r1 l2 k2 (room_in l3 hu) ⟨.bl _, H, I, rfl, q⟩
        · obtain ⟨cs, r2⟩ := Dp.reads I _ y' u l1 ry
          exact SeqAt.notIn_tuple_reads r2 r1 l2 k2 (room_in l3 hu) ⟨.bl _, H, I, rfl, q⟩
      · cases h
    · cases h
theorem isN_iff {C : RC} {as : List Addr} {H : Hp} {x : VV} {v : V} (h : RV C as H x v) : decide (v = .non) = isN x := by
  cases x with
  | non => rw [h.non]; rfl
  | bl _ => rw [h.bl]; rfl
  | int _ => rw [h.int]; rfl
  | str _ => rw [h.str]; rfl
  | ref _ => obtain ⟨a, _, rfl⟩ := h.ref; rfl
  | tup _ => obtain ⟨a, _, rfl, _⟩ := h.tup; rfl
  | exc _ _ => rw [RV] at h; exact h.elim
  | clo _ _ => rw [RV] at h; obtain ⟨a, _, _, rfl, _⟩ := h; rfl
  | cls _ => rw [RV] at h; obtain ⟨a, _, rfl⟩ := h; rfl
theorem se_isN {j pos'} (ha : SndE X ep W a da) : SndE X ep W (.Compare a [.Is] [.Constant .none j pos'] pos) (dIsN da) :=
  (pe_cmp (pc_isN ha)).imp fun σ H Q ⟨as, G, S, rg, rs, h⟩ =>
    tD.bind rg rs h fun x G1 as1 H1 x' e1 rg1 rs1 rx h1 => by
      rw [isN_iff rx]
      exact h1 _ _ _ .refl rg1 .mkBl
theorem se_notN {j pos'} (ha : SndE X ep W a da) : SndE X ep W (.Compare a [.IsNot] [.Constant .none j pos'] pos) (dNotN da) :=
  (pe_cmp (pc_notN ha)).imp fun σ H Q ⟨as, G, S, rg, rs, h⟩ =>
    tD.bind rg rs h fun x G1 as1 H1 x' e1 rg1 rs1 rx h1 => by
      rw [isN_iff rx]
      exact h1 _ _ _ .refl rg1 .mkBl
/-! tests -/
theorem asB_rv {C : RC} {as : List Addr} {H : Hp} {x : VV} {v : V} {b : Bool} (h : RV C as H x v) (e : asB x = some b) : v = .bl b := by
  cases x <;> cases e
  exact h.bl
theorem tV_bind {da : DE} {σ : St} {H : Hp} {Q : Bool → Hp → Prop} {as : List Addr} {G : Hv} {S : Env} {C : RC} (rg : RelG C as G H) (rs : RS C as H S σ) (h : tR C W rEq' (tV da S G) as H σ Q) : tD C W (RV C) da σ H fun x H1 => ∃ c, x = .bl c ∧ Q c H1 :=
  tD.bind rg rs h fun x G1 as1 H1 x' e1 rg1 rs1 rx h1 => by
    cases e : asB x with
    | none => rw [e] at h1; exact h1.elim
    | some b =>
      rw [e] at h1
      exact ⟨b, asB_rv rx e, h1 _ _ b .refl rg1 rfl⟩
theorem st_val {e : Expr} {d : DE} (h : SndE X ep W e d) (he : ∀ whole, isTrue e X.env whole = (do let v ← whole; standAt e.pos; holding [v] (truthy v)) := by intro _; rfl) : SndT X ep W e (tV d) :=
  (pt_val h he).imp fun σ H Q ⟨as, G, S, rg, rs, h⟩ => tV_bind rg rs h
theorem st_cmp {op : CmpOp} {f : Hv → VV → VV → Option Bool} (ho : OpR X (compareOp op) (rC (rc X ep) f)) (ha : SndE X ep W a da) (hb : SndE X ep W b db) (hm : behindInMarks op b = false := by first | rfl | exact nobehind _ (by decide) (by decide)) :
    SndT X ep W (.Compare a [op] [b] pos) (tV (dCmp f da db)) :=
  (pt_cmpR ho ha hb hm).imp fun σ H Q ⟨as, G, S, rg, rs, h⟩ => by
    obtain ⟨as', G', S', rg', rs', h'⟩ := tV_bind rg rs h
    refine tD.bind rg' rs' h' fun x G1 as1 H1 x' e1 rg1 rs1 rx h1 => tD.bind rg1 rs1 h1 fun y G2 as2 H2 y' e2 rg2 rs2 ry h2 => ?_
    obtain ⟨b, e, q⟩ := tR_ofB rg2 h2
    exact ⟨as2, G2, x, y, b, rg2, rx.mono e2, ry, e, q⟩
theorem st_isN {j pos'} (ha : SndE X ep W a da) : SndT X ep W (.Compare a [.Is] [.Constant .none j pos'] pos) (tV (dIsN da)) :=
  (pt_cmp (pc_isN ha)).imp fun σ H Q ⟨as, G, S, rg, rs, h⟩ => by
    obtain ⟨as', G', S', rg', rs', h'⟩ := tV_bind rg rs h
    refine tD.bind rg' rs' h' fun x G1 as1 H1 x' e1 rg1 rs1 rx h1 => ?_
    rw [isN_iff rx]
    exact h1 _ _ _ .refl rg1 .mkBl
theorem st_notN {j pos'} (ha : SndE X ep W a da) : SndT X ep W (.Compare a [.IsNot] [.Constant .none j pos'] pos) (tV (dNotN da)) :=
  (pt_cmp (pc_notN ha)).imp fun σ H Q ⟨as, G, S, rg, rs, h⟩ => by
    obtain ⟨as', G', S', rg', rs', h'⟩ := tV_bind rg rs h
    refine tD.bind rg' rs' h' fun x G1 as1 H1 x' e1 rg1 rs1 rx h1 => ?_
    rw [isN_iff rx]
    exact h1 _ _ _ .refl rg1 .mkBl
/-! a < b < c -/
theorem chain_go {σ : St} {H : Hp} {Q : VK} {as : List Addr} {G : Hv} {S : Env} {C : RC} {f g : Hv → VV → VV → Option Bool} (rg : RelG C as G H) (rs : RS C as H S σ) (h : tR C W (RV C) (dChain f g da db dc S G) as H σ Q) :
    tChain (rC C f) (rC C g) (tDE C W da) (tDE C W db) (tDE C W dc) σ H Q :=
  tD.bind rg rs h fun x G1 as1 H1 x' e1 rg1 rs1 rx h1 => tD.bind rg1 rs1 h1 fun y G2 as2 H2 y' e2 rg2 rs2 ry h2 => by
    cases e : f G2 x y with
    | none => rw [e] at h2; exact h2.elim
    | some b =>
      rw [e] at h2
      refine ⟨as2, G2, x, y, b, rg2, rx.mono e2, ry, e, b, rfl, ?_⟩
      cases b with
      | true =>
        rw [if_pos rfl]
        refine tD.bind rg2 rs2 h2 fun z G3 as3 H3 z' e3 rg3 rs3 rz h3 => ?_
        obtain ⟨b2, e4, q⟩ := tR_ofB rg3 h3
        exact ⟨as3, G3, y, z, b2, rg3, ry.mono e3, rz, e4, q⟩
      | false =>
        rw [if_neg Bool.false_ne_true]
        exact h2 _ _ _ .refl rg2 .mkBl
theorem se_chain {op op' : CmpOp} {f g : Hv → VV → VV → Option Bool} (ho : OpR X (compareOp op) (rC (rc X ep) f)) (ho' : OpR X (compareOp op') (rC (rc X ep) g)) (ha : SndE X ep W a da) (hb : SndE X ep W b db) (hc : SndE X ep W c dc) (hm : lastMarks [op, op'] [b, c] = false := by with_unfolding_all rfl) :
    SndE X ep W (.Compare a [op, op'] [b, c] pos) (dChain f g da db dc) :=
  (pe_chain ho ho' ha hb hc hm).imp fun σ H Q ⟨as, G, S, rg, rs, h⟩ => chain_go rg rs h
theorem st_chain {op op' : CmpOp} {f g : Hv → VV → VV → Option Bool} (ho : OpR X (compareOp op) (rC (rc X ep) f)) (ho' : OpR X (compareOp op') (rC (rc X ep) g)) (ha : SndE X ep W a da) (hb : SndE X ep W b db) (hc : SndE X ep W c dc) (hm : lastMarks [op, op'] [b, c] = false := by with_unfolding_all rfl) :
    SndT X ep W (.Compare a [op, op'] [b, c] pos) (tV (dChain f g da db dc)) :=
  (pt_chain ho ho' ha hb hc hm).imp fun σ H Q ⟨as, G, S, rg, rs, h⟩ => by
    obtain ⟨as', G', S', rg', rs', h'⟩ := tV_bind rg rs h
    exact chain_go rg' rs' h'
/-! and, or, not in tests -/
variable {ta tb : DT} {rest : List Expr}
theorem st_and1 (ha : SndT X ep W a ta) : SndW X ep W (.BoolOp .And [a] pos) ta := pw_and1 ha
theorem st_or1 (ha : SndT X ep W a ta) : SndW X ep W (.BoolOp .Or [a] pos) ta := pw_or1 ha
theorem st_and (ha : SndT X ep W a ta) (hb : SndW X ep W (.BoolOp .And (b :: rest) pos) tb) : SndW X ep W (.BoolOp .And (a :: b :: rest) pos) (DL.tAnd ta tb) :=
  (pw_and ha hb).imp fun σ H Q ⟨as, G, S, rg, rs, h⟩ => tD.bind rg rs h fun x G1 as1 H1 x' e1 rg1 rs1 rx h1 => by
    cases (show x = x' from rx)
    cases x with
    | true => exact ⟨as1, G1, S, rg1, rs1, h1⟩
    | false => exact h1 _ _ _ .refl rg1 rfl
theorem st_or (ha : SndT X ep W a ta) (hb : SndW X ep W (.BoolOp .Or (b :: rest) pos) tb) : SndW X ep W (.BoolOp .Or (a :: b :: rest) pos) (DL.tOr ta tb) :=
  (pw_or ha hb).imp fun σ H Q ⟨as, G, S, rg, rs, h⟩ => tD.bind rg rs h fun x G1 as1 H1 x' e1 rg1 rs1 rx h1 => by
    cases (show x = x' from rx)
    cases x with
    | false => exact ⟨as1, G1, S, rg1, rs1, h1⟩
    | true => exact h1 _ _ _ .refl rg1 rfl
theorem st_pt {e : Expr} {d : DT} (h : SndW X ep W e d) : SndT X ep W e d := PW.pt h
theorem st_not (ha : SndT X ep W a ta) : SndT X ep W (.UnaryOp .Not a pos) (DL.tNot ta) :=
  (pt_not ha).imp fun σ H Q ⟨as, G, S, rg, rs, h⟩ => tD.bind rg rs h fun x G1 as1 H1 x' e1 rg1 rs1 rx h1 => by
    cases (show x = x' from rx)
    exact h1 _ _ _ .refl rg1 rfl
/-! and, or, not as values -/
theorem se_one {op} {d : DE} (h : SndE X ep W a d) : SndE X ep W (.BoolOp op [a] pos) d := pe_one h
theorem se_and (ha : SndE X ep W a da) (hb : SndE X ep W (.BoolOp .And (b :: rest) pos) db) : SndE X ep W (.BoolOp .And (a :: b :: rest) pos) (dAnd da db) :=
  (pe_and ha hb).imp fun σ H Q ⟨as, G, S, rg, rs, h⟩ => tD.bind rg rs h fun x G1 as1 H1 x' e1 rg1 rs1 rx h1 => by
    cases x with
    | bl k =>
      refine ⟨k, rx.bl, ?_⟩
      cases k with
      | true => exact ⟨as1, G1, S, rg1, rs1, h1⟩
      | false => exact h1 _ _ _ .refl rg1 .mkBl
    | _ => exact h1.elim
theorem se_or (ha : SndE X ep W a da) (hb : SndE X ep W (.BoolOp .Or (b :: rest) pos) db) : SndE X ep W (.BoolOp .Or (a :: b :: rest) pos) (dOr da db) :=
  (pe_or ha hb).imp fun σ H Q ⟨as, G, S, rg, rs, h⟩ => tD.bind rg rs h fun x G1 as1 H1 x' e1 rg1 rs1 rx h1 => by
    cases x with
    | bl k =>
      refine ⟨k, rx.bl, ?_⟩
      cases k with
      | false => exact ⟨as1, G1, S, rg1, rs1, h1⟩
      | true => exact h1 _ _ _ .refl rg1 .mkBl
    | _ => exact h1.elim
theorem se_not (ha : SndE X ep W a da) : SndE X ep W (.UnaryOp .Not a pos) (dNot da) :=
  (pe_not ha).imp fun σ H Q ⟨as, G, S, rg, rs, h⟩ => tD.bind rg rs h fun x G1 as1 H1 x' e1 rg1 rs1 rx h1 => by
    cases x with
    | bl k => exact ⟨k, rx.bl, h1 _ _ _ .refl rg1 .mkBl⟩
    | _ => exact h1.elim
theorem se_if (hc : SndT X ep W c ta) (ha : SndE X ep W a da) (hb : SndE X ep W b db) : SndE X ep W (.IfExp c a b pos) (dIf ta da db) :=
  (pe_ifExp hc ha hb).imp fun σ H Q ⟨as, G, S, rg, rs, h⟩ => tD.bind rg rs h fun x G1 as1 H1 x' e1 rg1 rs1 rx h1 => by
    cases (show x = x' from rx)
    cases x with
    | true => exact ⟨as1, G1, S, rg1, rs1, h1⟩
    | false => exact ⟨as1, G1, S, rg1, rs1, h1⟩
theorem se_neg (ha : SndE X ep W a da) : SndE X ep W (.UnaryOp .USub a pos) (dUn oNeg da) :=
  (pe_un un_neg ha).imp fun σ H Q ⟨as, G, S, rg, rs, h⟩ => tD.bind rg rs h fun x G1 as1 H1 x' e1 rg1 rs1 rx h1 => by
    cases x with
    | int i => exact ⟨i, rx.int, h1 _ _ _ .refl rg1 .mkInt⟩
    | _ => exact h1.elim
/-! ### arguments, displays -/
variable {dr : DA} {es : List Expr}
theorem sa_nil : SndA X ep W [] aNil := pa_nil.imp fun σ H Q ⟨as, G, S, rg, rs, h⟩ => h _ _ _ .refl rg .nil
theorem sa_cons {e : Expr} {d : DE} (ha : SndE X ep W e d) (hr : SndA X ep W es dr) (hs : starEach (e :: es) X.env = (false, eval e X.env) :: starEach es X.env := by rfl) : SndA X ep W (e :: es) (aCons d dr) :=
  (pa_cons ha hr hs).imp fun σ H Q ⟨as, G, S, rg, rs, h⟩ => tD.bind rg rs h fun x G1 as1 H1 x' e1 rg1 rs1 rx h1 => tD.bind rg1 rs1 h1 fun xs G2 as2 H2 xs' e2 rg2 rs2 rxs h2 =>
    h2 _ _ _ .refl rg2 (.cons (rx.mono e2) rxs)
theorem se_tup {x1} (h : SndA X ep W es dr) : SndE X ep W (.Tuple es x1 pos) (dTup dr) :=
  (pe_tup h).imp fun σ H Q ⟨as, G, S, rg, rs, h⟩ => tD.bind rg rs h fun xs G1 as1 H1 xs' e1 rg1 rs1 rx h1 => by
    split at h1
    · rename_i hl
      refine ⟨by rw [← rx.length, ← lim]; exact hl, fun p hp => ?_⟩
      have e : Ext as1 H1 as1 (upd H1 p (.tup xs')) := Ext.side hp
      exact h1 _ _ _ e (rg1.side hp) (.mkTup (.inl upd_same) (rx.mono e))
    · exact h1.elim
theorem se_lst (h : SndA X ep W es dr) : SndE X ep W (.List es pos) (dLst dr) :=
  (pe_lst h).imp fun σ H Q ⟨as, G, S, rg, rs, h⟩ => tD.bind rg rs h fun xs G1 as1 H1 xs' e1 rg1 rs1 rx h1 => by
    split at h1
    · rename_i hl
      exact ⟨by rw [← rx.length, ← lim]; exact hl, fun p hp => h1 _ _ _ (Ext.new hp) (rg1.new hp ⟨_, rfl, rx⟩) (.mkRef rg1.newAt)⟩
    · exact h1.elim
theorem se_dic0 : SndE X ep W (.Dict [] [] pos) dDic0 :=
  pe_dnewK.imp fun σ H Q ⟨as, G, S, rg, rs, h⟩ d hd => h _ _ _ (Ext.new hd) (rg.new hd ⟨_, rfl, rfl⟩) (.mkRef rg.newAt)
/-! ### subscripts, slices -/
theorem ixN_eq (n : Nat) (i : Int) : DL.ixN n i = L2.ixN n i := rfl
theorem atI_eq {α : Type} (xs : List α) (i : Int) : DL.atI xs i = L2.atI xs i := by
  unfold DL.atI L2.atI
  rw [ixN_eq]
  cases L2.ixN xs.length i <;> rfl
theorem RVs.atI {C : RC} {as : List Addr} {H : Hp} {xs : List VV} {ys : List V} {i : Int} {x : VV} (r : RVs C as H xs ys) (e : DL.atI xs i = some x) : ∃ v, L2.atI ys i = some v ∧ RV C as H x v := by
  rw [atI_eq] at e
  unfold L2.atI at e ⊢
  rw [← r.length]
  cases q : L2.ixN xs.length i with
  | none => rw [q] at e; cases e
  | some j =>
    rw [q] at e
    exact r.get e
theorem so_ix : IxR X (fun x' y' H Q => ∃ as G x y z, RelG (rc X ep) as G H ∧ RV (rc X ep) as H x x' ∧ RV (rc X ep) as H y y' ∧ oIx G x y = some z ∧ ∀ z', RV (rc X ep) as H z z' → Q z' H) := by
  intro value slice pins s σ H x' y' v u Q I rx ry ⟨as, G, x, y, z, rg, hx, hy, h, q⟩ hs
  unfold oIx at h
  cases y with
  | int i =>
    have hi := hy.int
    subst hi
    have seq : ∀ (hq : (match asSeq G x with | some xs => DL.atI xs i | none => none) = some z), wpAny (model X.prog X.w) X.A (subscriptTail value slice v u) (EP X pins σ Q) X.xe s := fun hq => by
      cases e1 : asSeq G x with
      | none => rw [e1] at hq; cases hq
      | some xs =>
        rw [e1] at hq
        obtain ⟨a, ys, rfl, h1, r⟩ := RV.seq rg hx e1
        obtain ⟨z', e2, rz⟩ := r.atI hq
        rcases h1 with h1 | h1
        · exact ix_list value slice pins s σ H _ _ v u Q I rx ry ⟨a, ys, i, z', rfl, rfl, h1, e2, q _ rz⟩ hs
        · exact ix_tup value slice pins s σ H _ _ v u Q I rx ry ⟨a, ys, i, z', rfl, rfl, h1, e2, q _ rz⟩ hs
    cases x with
    | str t =>
      simp only at h
      split at h
      · rename_i hl
        cases e : DL.atI t i with
        | none => rw [e] at h; cases h
        | some c =>
          rw [e] at h
          cases h
          have hk := hx.sok
          have ec : L2.atI t i = some c := by rw [← atI_eq]; exact e
          have oc : sOk [c] = true := by
            unfold sOk at hk ⊢
            rw [List.all_eq_true] at hk
            have hm : c ∈ t := by
              unfold L2.atI at ec
              cases q2 : L2.ixN t.length i with
              | none => rw [q2] at ec; cases ec
              | some j => rw [q2] at ec; exact List.mem_of_getElem? ec
            simpa using hk c hm
          have hv := hx.str
          subst hv
          refine ix_str value slice pins s σ H _ _ v u Q I rx ry ⟨_, _, c, rfl, rfl, by rw [mkS_len, ← lim]; exact hl, ?_, q _ (.mkStr oc)⟩ hs
          simpa [mkS] using ec
      · cases h
    | _ => exact seq h
  | _ => cases h
theorem se_ix (ha : SndE X ep W a da) (hb : SndE X ep W b db) (hs : PlainIx b := by exact fun _ _ => rfl) : SndE X ep W (.Subscript a b pos) (dIx da db) :=
  (pe_ix so_ix ha hb hs).imp fun σ H Q ⟨as, G, S, rg, rs, h⟩ => tD.bind rg rs h fun x G1 as1 H1 x' e1 rg1 rs1 rx h1 => tD.bind rg1 rs1 h1 fun y G2 as2 H2 y' e2 rg2 rs2 ry h2 => by
    cases e : oIx G2 x y with
    | none => rw [e] at h2; exact h2.elim
    | some z =>
      rw [e] at h2
      exact ⟨as2, G2, x, y, z, rg2, rx.mono e2, ry, e, fun z' rz => h2 _ _ _ .refl rg2 rz⟩
theorem sIx_eq (n d : Nat) (o : Option Int) : DL.sIx n d o = HT.sIx n d o := by cases o <;> rfl
theorem RVs.cut {C : RC} {as : List Addr} {H : Hp} {xs : List VV} {ys : List V} (r : RVs C as H xs ys) (lo hi : Option Int) : RVs C as H (DL.cut xs lo hi) (cutV ys lo hi) := by
  unfold DL.cut cutV
  rw [sIx_eq, sIx_eq, r.length]
  exact (r.drop _).take _
theorem cut_whole {α : Type} {xs : List α} {lo hi : Option Int} (h : HT.sIx xs.length 0 lo = 0 ∧ HT.sIx xs.length xs.length hi = xs.length) : DL.cut xs lo hi = xs := by
  unfold DL.cut
  rw [sIx_eq, sIx_eq, h.1, h.2]
  simp
theorem so_slice : SlR X (fun x' lo hi H Q => ∃ as G x, RelG (rc X ep) as G H ∧ RV (rc X ep) as H x x' ∧ oR (rc X ep) (oSlice x lo hi G) as H Q) := by
  intro pins s σ H x' v vl vu lo hi sl Q I rx hsl pl pu ⟨as, G, x, rg, hx, h⟩
  unfold oSlice at h
  have lst : ∀ (hq : oR (rc X ep) (match asListR G x with | some xs => some (newL G (DL.cut xs lo hi)) | none => none) as H Q),
      ∃ T id, typeLookup (.type T) "__getitem__" = pure (some (.builtin id)) ∧ s.TypeIs v T ∧ wpAny (model X.prog X.w) X.A (getItem v (.ref sl)) (EP X pins σ Q) X.xe s := fun hq => by
    cases e1 : asListR G x with
    | none => rw [e1] at hq; exact hq.elim
    | some xs =>
      rw [e1] at hq
      obtain ⟨a, ys, rfl, h1, r⟩ := RV.lstR (K := X.K) rg hx e1
      exact sl_list pins s σ H _ v vl vu lo hi sl Q I rx hsl pl pu ⟨a, ys, rfl, h1, fun p hp => hq _ _ _ (Ext.new hp) (rg.new hp ⟨_, rfl, r.cut lo hi⟩) (.mkRef rg.newAt)⟩
  cases x with
  | str t =>
    simp only at h
    split at h
    · rename_i hl
      have ok : sOk (DL.cut t lo hi) = true := by
        have hk := hx.sok
        unfold sOk DL.cut at *
        rw [List.all_eq_true] at *
        exact fun c hc => hk c (List.mem_of_mem_drop (List.mem_of_mem_take hc))
      have hv := hx.str
      subst hv
      refine sl_str pins s σ H _ v vl vu lo hi sl Q I rx hsl pl pu ⟨_, rfl, by rw [mkS_len, ← lim]; exact hl, ?_⟩
      have := h _ _ _ .refl rg (.mkStr ok)
      unfold cutS
      rw [mkS_len]
      unfold DL.cut mkS at this
      rw [sIx_eq, sIx_eq] at this
      simpa [mkS] using this
    · exact h.elim
  | tup xs =>
    obtain ⟨a, ys, rfl, t, r⟩ := hx.tup
    refine sl_tupA pins s σ H _ v vl vu lo hi sl Q I rx hsl pl pu ⟨a, ys, rfl, t.sq, fun hw => ?_, fun _ p hp => ?_⟩
    · have h' : oR (rc X ep) (some (.tup (DL.cut xs lo hi), G)) as H Q := h
      rw [← r.length] at hw
      rw [cut_whole hw] at h'
      exact h' _ _ _ .refl rg (.mkTup t r)
    · have e : Ext as H as (upd H p (.tup (cutV ys lo hi))) := Ext.side hp
      exact h _ _ _ e (rg.side hp) (.mkTup (.inl upd_same) ((r.cut lo hi).mono e))
  | _ => exact lst h
abbrev SndO (X : Cx) (ep : List (Addr × Obj)) (W : WX) (e : Option Expr) (d : DO) : Prop := L2.PO X e (tD (rc X ep) W rEq' d)
theorem so_none : SndO X ep W none oNone := ⟨fun pins s σ H Q I ⟨as, G, S, rg, rs, h⟩ => po_none.run pins s σ H Q I (h _ _ _ .refl rg rfl)⟩
theorem so_some (ha : SndE X ep W a da) : SndO X ep W (some a) (oSome da) := ⟨fun pins s σ H Q I ⟨as, G, S, rg, rs, h⟩ => (po_some ha).run pins s σ H Q I (tD.bind rg rs h fun x G1 as1 H1 x' e1 rg1 rs1 rx h1 => by
    cases x with
    | int i => exact ⟨i, rx.int, h1 _ _ _ .refl rg1 rfl⟩
    | _ => exact h1.elim)⟩
theorem se_slice {lo hi : Option Expr} {dl dh : DO} {p2 : Pos} (ha : SndE X ep W a da) (hl : SndO X ep W lo dl) (hh : SndO X ep W hi dh) : SndE X ep W (.Subscript a (.Slice lo hi none p2) pos) (dSl da dl dh) :=
  (pe_slice so_slice ha hl hh).imp fun σ H Q ⟨as, G, S, rg, rs, h⟩ => tD.bind rg rs h fun x G1 as1 H1 x' e1 rg1 rs1 rx h1 => tD.bind rg1 rs1 h1 fun l G2 as2 H2 l' e2 rg2 rs2 rl h2 => by
    cases (show l = l' from rl)
    refine tD.bind rg2 rs2 h2 fun u G3 as3 H3 u' e3 rg3 rs3 ru h3 => ?_
    cases (show u = u' from ru)
    exact ⟨as3, G3, x, rg3, rx.mono (e2.trans e3), tR_ofO h3⟩
end
end DL
end S_Rules3
section S_Rules4
set_option Elab.async false
set_option linter.all false
set_option maxRecDepth 100000
set_option maxHeartbeats 2000000
/-! Rules4: fields, calls. -/
namespace DL
open PySem PySem.Spec PyProof.Rows L2
variable [tbs : TabsT] [TC : TabsC]
section
variable {C : RC} {as : List Addr} {H : Hp}
theorem RFs.look (f : Nat) : ∀ {fs : List (Nat × VV)} {ys : List (Str × V)}, RFs C as H fs ys → match look f fs with
    | some x => ∃ v, ys.lookup (nameOf f) = some v ∧ RV C as H x v
    | none => ys.lookup (nameOf f) = none
  | [], _, h => by cases h; rfl
  | (g, x) :: fs, _, h => by
    obtain ⟨y, zs, rfl, r, t⟩ := h
    unfold DL.look
    by_cases e : f = g
    · subst e
      rw [if_pos rfl]
      exact ⟨y, by simp [List.lookup], r⟩
    · rw [if_neg e]
      have ne : (nameOf f == nameOf g) = false := by
        rw [beq_eq_false_iff_ne]
        exact fun q => e (nameOf_inj q)
      have ih := RFs.look f t
      rw [List.lookup_cons, ne]
      exact ih
theorem RFs.length : ∀ {fs : List (Nat × VV)} {ys : List (Str × V)}, RFs C as H fs ys → fs.length = ys.length
  | [], _, h => by cases h; rfl
  | (g, x) :: fs, _, h => by
    obtain ⟨y, zs, rfl, r, t⟩ := h
    simp [RFs.length t]
theorem RFs.put (f : Nat) {x : VV} {v : V} (rx : RV C as H x v) : ∀ {fs : List (Nat × VV)} {ys : List (Str × V)}, RFs C as H fs ys → RFs C as H (DL.put f x fs) (putF (nameOf f) v ys)
  | [], _, h => by
    cases h
    exact ⟨v, [], rfl, rx, rfl⟩
  | (g, y) :: fs, _, h => by
    obtain ⟨y', zs, rfl, r, t⟩ := h
    unfold DL.put putF
    by_cases e : g = f
    · subst e
      rw [if_pos rfl, if_pos rfl]
      exact ⟨v, zs, rfl, rx, t⟩
    · rw [if_neg e, if_neg (fun q => e (nameOf_inj q))]
      exact ⟨y', _, rfl, r, RFs.put f rx t⟩
theorem RV.ins {G : Hv} {i : Nat} {c : Nat} {fs : List (Nat × VV)} {v : V} (rg : RelG C as G H) (h : RV C as H (.ref i) v) (e : G[i]? = some (.ins c fs)) : ∃ a Ca dx ys, as[i]? = some a ∧ v = .ref a ∧ C.mg (nameOf c) = some (.ref Ca) ∧ H a = some (.ins Ca dx ys) ∧ RFs C as H fs ys := by
  obtain ⟨a, ha, hv⟩ := h.ref
  obtain ⟨ho, h1, Ca, dx, ys, h2, h3, h4⟩ := rg.at e ha
  subst h3
  exact ⟨a, Ca, dx, ys, ha, hv, h2, h1, h4⟩
end
/-- a class of one's own: its place, what reading and writing ask -/
structure ClsOk (K : PySem.W.Frag) (mg : Str → Option Value) (c : Nat) (Ca : Addr) : Prop where
  mg : mg (nameOf c) = some (.ref Ca)
  cl : Cls K Ca
section
variable {X : Cx} {ep : List (Addr × Obj)} {W : WX} {a b : Expr} {da db : DE} {pos : Pos} {c f : Nat} {Ca : Addr}
theorem se_fld {x : Str} (T : ClsOk X.K X.mg c Ca) (n : NoAttr X.K Ca x) (hx : nameOf f = x) (ha : SndE X ep W a da) (hb : attributeBase a x X.env (eval a X.env) = eval a X.env := by rfl) : SndE X ep W (.Attribute a x pos) (dFld c f da) :=
  (pe_fld ha hb).imp fun σ H Q ⟨as, G, S, rg, rs, h⟩ => tD.bind rg rs h fun x G1 as1 H1 x' e1 rg1 rs1 rx h1 => by
    cases e : oFld c f G1 x with
    | none => rw [e] at h1; exact h1.elim
    | some z =>
      rw [e] at h1
      unfold oFld at e
      cases x with
      | ref i =>
        simp only at e
        cases q : G1[i]? with
        | none => rw [q] at e; cases e
        | some o =>
          rw [q] at e
          cases o with
          | ins d fs =>
            simp only at e
            split at e
            · rename_i hc
              subst hc
              obtain ⟨p, C2, dx, ys, _, hv, hm, hH, hf⟩ := RV.ins rg1 rx q
              have hC : C2 = Ca := by
                have h3 : X.mg (nameOf c) = some (.ref C2) := hm
                rw [T.mg] at h3
                cases h3; rfl
              subst hC
              have hl := hf.look f
              rw [e] at hl
              obtain ⟨v, h4, h5⟩ := hl
              rw [hx] at h4
              exact ⟨p, C2, dx, ys, v, hv, hH, T.cl, n, h4, h1 _ _ _ .refl rg1 h5⟩
            · cases e
          | _ => cases e
      | _ => cases e
/-! ### a def -/
/-- what is wanted of a def's end -/
def tF (C : RC) (r : R VV) (as : List Addr) (H : Hp) (Q : VK) (E : XK) : Prop := match r with
  | .ok v G => ∀ as' H' v', Ext as H as' H' → RelG C as' G H' → RV C as' H' v v' → Q v' H'
  | .exn x G => ∀ as' H' cls d, Ext as H as' H' → RelG C as' G H' → RX C as' H' x cls d → E cls d H'
  | .bad => False
def spD (K : PySem.W.Frag) (mg : Str → Option Value) (k : Nat) (fn : Fn) : Sp := fun vs H Q E => vs.length = k ∧ ∃ as G xs, RelG ⟨K, mg, []⟩ as G H ∧ RVs ⟨K, mg, []⟩ as H xs vs ∧ tF ⟨K, mg, []⟩ (fn xs G) as H Q E
/-- the def at f does what fn does -/
abbrev FnD (P : Program) (w : World) (K : PySem.W.Frag) (mg : Str → Option Value) (base : Heap) (k : Nat) (f : Addr) (fd : FuncData) (ps : List Str) (fn : Fn) : Prop :=
  FnOk P w K mg base (L2.CX P w) k f fd ps (spD K mg ps.length fn)
/-- a def's place, how it is called, what it does -/
def FdAt (K : PySem.W.Frag) (f : Addr) (fd : FuncData) : Prop := ∃ oc od osl, K.lookup f = some ⟨oc, od, .func fd, osl⟩
structure DefOk (P : Program) (w : World) (K : PySem.W.Frag) (mg : Str → Option Value) (base : Heap) (k : Nat) (f : Addr) (ps : List Str) (fn : Fn) : Prop where
  ex : ∃ fd, FnD P w K mg base k f fd ps fn ∧ Binds K fd ps [] ∧ FdAt K f fd
  kp : PySem.W.keepIn K (.ref f) = true
  ar : ∀ vs G, vs.length ≠ ps.length → fn vs G = .bad
theorem tF_of {C : RC} {W : WX} {r : R VV} {as : List Addr} {H : Hp} {σ : St} {Q : VK} (h : tR C W (RV C) r as H σ Q) : tF C r as H Q fun cls d H' => W cls d σ H' := by
  cases r with
  | ok v G => exact h
  | exn x G => exact h
  | bad => exact h
theorem tF_no {C : RC} {W : WX} {r : R VV} {as : List Addr} {H : Hp} {σ : St} {Q : VK} (h : tR C W (RV C) (noX r) as H σ Q) : tF C r as H Q E0 := by
  cases r with
  | ok v G => exact h
  | exn x G => exact h.elim
  | bad => exact h
theorem RVs.length_eq {C : RC} {as : List Addr} {H : Hp} {xs : List VV} {vs : List V} (r : RVs C as H xs vs) {n : Nat} (h : xs.length = n) : vs.length = n := by rw [← r.length]; exact h
/-- the promise, from what is wanted -/
theorem spD_of {K : PySem.W.Frag} {mg : Str → Option Value} {k : Nat} {fn : Fn} (ar : ∀ vs G, vs.length ≠ k → fn vs G = .bad) {as : List Addr} {G : Hv} {H : Hp} {xs : List VV} {vs : List V} {Q : VK} {E : XK} (rg : RelG ⟨K, mg, []⟩ as G H) (r : RVs ⟨K, mg, []⟩ as H xs vs)
    (h : tF ⟨K, mg, []⟩ (fn xs G) as H Q E) : spD K mg k fn vs H Q E := by
  refine ⟨r.length_eq ?_, as, G, xs, rg, r, h⟩
  by_cases e : xs.length = k
  · exact e
  · rw [ar xs G e] at h
    exact h.elim
variable {k : Nat} {g : Addr} {ps : List Str} {fn : Fn} {es : List Expr} {dr : DA} {p apos : Pos} {e : Expr}
/-- f(..): as many arguments as parameters -/
theorem se_call {x : Str} (F : DefOk X.prog X.w X.K X.mg X.base k g ps fn) (hg : Gl X x) (hm : X.mg x = some (.ref g)) (hr : Room k X.A) (tk : Takes X W) (ha : SndA X [] W (e :: es) dr) (hdb : (x == ("__debug__" : Str)) = false := by decide)
    (he : starEach (e :: es) X.env = (false, eval e X.env) :: starEach es X.env := by rfl) (hpl : (backTo pos (starEach es X.env)).any (·.1) = false := by rfl) :
    SndE X [] W (.Call (.Name x p) (e :: es) [] pos) (dCall fn dr) := by
  obtain ⟨⟨fd, F1, F2, _⟩, kp, ar⟩ := F
  refine (pe_callSD (E := fun σ cls d H' => W cls d σ H') F1 hr hg hm kp F2 (.nil : Vals [] []) (fun σ => L2.passAt tk σ) ha hdb he hpl).imp fun σ H Q ⟨as, G, S, rg, rs, h⟩ => ?_
  refine tD.bind rg rs h fun xs G1 as1 H1 vs e1 rg1 rs1 rxs h1 => ?_
  simp only [List.append_nil]
  exact spD_of ar rg1 rxs (tF_of h1)
/-- f(b = .., a = ..) is told by the def's own row -/
theorem se_call0 {x : Str} (F : DefOk X.prog X.w X.K X.mg X.base k g [] fn) (hg : Gl X x) (hm : X.mg x = some (.ref g)) (hr : Room k X.A) (tk : Takes X W) (hdb : (x == ("__debug__" : Str)) = false := by decide) :
    SndE X [] W (.Call (.Name x p) [] [] pos) (dCall fn aNil) := by
  obtain ⟨⟨fd, F1, F2, _⟩, kp, ar⟩ := F
  refine ⟨fun pins s σ H Q I h => ?_⟩
  obtain ⟨as, G, S, rg, rs, h⟩ := h
  refine wpAny_Call_Name_kw (ld_glob I hg hm ?_ hdb)
  refine PySem.W.callWith_K0 I.kIn kp (run_fnSD (E := fun σ cls d H' => W cls d σ H') (us := []) (vs := []) F1 hr F2 (.nil : Vals [] []) (L2.passAt tk σ) I .nil ?_)
  exact spD_of ar rg .nil (tF_of h)
/-- o.m(..) -/
theorem isIns_rv {C : RC} {as : List Addr} {G : Hv} {H : Hp} {x : VV} {v : V} {c m : Nat} (rg : RelG C as G H) (h : RV C as H x v) (e : isIns c m G x = true) : ∃ a Ca dx ys, v = .ref a ∧ C.mg (nameOf c) = some (.ref Ca) ∧ H a = some (.ins Ca dx ys) ∧ ys.lookup (nameOf m) = none := by
  cases x with
  | ref i =>
    unfold isIns at e
    simp only at e
    cases q : G[i]? with
    | none => rw [q] at e; cases e
    | some o =>
      rw [q] at e
      cases o with
      | ins d fs =>
        simp only [Bool.and_eq_true, decide_eq_true_eq] at e
        obtain ⟨hc, hl⟩ := e
        subst hc
        obtain ⟨p, C2, dx, ys, _, hv, hm, hH, hf⟩ := RV.ins rg h q
        have hk := hf.look m
        cases q2 : look m fs with
        | some z => rw [q2] at hl; cases hl
        | none =>
          rw [q2] at hk
          exact ⟨p, C2, dx, ys, hv, hm, hH, hk⟩
      | _ => cases e
  | _ => cases e
theorem ClsOk.same (T : ClsOk X.K X.mg c Ca) {Cb : Addr} (h : X.mg (nameOf c) = some (.ref Cb)) : Cb = Ca := by
  rw [T.mg] at h
  cases h; rfl
theorem se_meth {x : Str} {m : Nat} {o : Expr} {d : DE} {pl : Sem Bool} (F : DefOk X.prog X.w X.K X.mg X.base k g ps fn) (T : ClsOk X.K X.mg c Ca) (hm : Meth X.K Ca x g) (hx : nameOf m = x) (hr : Room k X.A) (tk : Takes X W) (ho : SndE X [] W o d) (ha : SndA X [] W (e :: es) dr)
    (hst : starEach (e :: es) X.env = (false, eval e X.env) :: starEach es X.env := by rfl) (hpl : (backTo pos (starEach es X.env)).any (·.1) = false := by rfl)
    (ht : eval (.Call (.Attribute o x apos) (e :: es) [] pos) X.env = (do
      let ov ← eval o X.env
      standAt apos.atName
      let (f, first) ← holding [ov] (getMethod ov x pl)
      callWith pos f first (backTo pos (starEach (e :: es) X.env)) (backToKw pos (keywordEach [] X.env))) := by rfl) :
    SndE X [] W (.Call (.Attribute o x apos) (e :: es) [] pos) (dMeth c m fn d dr) := by
  obtain ⟨⟨fd, F1, F2, _⟩, kp, ar⟩ := F
  refine ⟨fun pins s σ H Q I h => ?_⟩
  obtain ⟨as, G, S, rg, rs, h⟩ := h
  have hd : tDE (rc X []) W d σ H fun x' H1 => ∃ a Cb dx ys, x' = .ref a ∧ X.mg (nameOf c) = some (.ref Cb) ∧ H1 a = some (.ins Cb dx ys) ∧ ys.lookup (nameOf m) = none ∧ tDA (rc X []) W dr σ H1 fun vs H2 => spD X.K X.mg ps.length fn (x' :: vs) H2 Q fun cls d H' => W cls d σ H' :=
    tD.bind rg rs h fun u G1 as1 H1 u' e1 rg1 rs1 ru h1 => by
      split at h1
      · rename_i hi
        obtain ⟨a, Cb, dx, ys, hv, hc, hH, hl⟩ := isIns_rv rg1 ru hi
        exact ⟨a, Cb, dx, ys, hv, hc, hH, hl, tD.bind rg1 rs1 h1 fun xs G2 as2 H2 vs e2 rg2 rs2 rxs h2 => spD_of ar rg2 (.cons (ru.mono e2) rxs) (tF_of h2)⟩
      · exact h1.elim
  refine PySem.W.methodCall_KW (pl := pl) (thn (ho.run pins s σ H _ I hd) fun u s1 ⟨x', H1, I1, rx, a, Cb, dx, ys, ex, hc, ea, l, q⟩ => ?_) ht
  have hC := T.same hc
  subst hC ex hx
  obtain rfl : u = Value.ref a := rx
  refine getmeth_ok I1 ea T.cl hm l ?_
  refine PySem.W.callWith_K (first := [.ref a]) (h₀ := X.base) I.ok.mod.kin hm.kp (thn (ha.run pos pins s1 σ H1 _ I1 q) fun us s2 ⟨vs, H2, I2, r, q2⟩ => ⟨I2.kIn, ?_⟩) hst hpl
  exact run_fnSD (E := fun σ cls d H' => W cls d σ H') (us := .ref a :: us) (vs := .ref a :: vs) F1 hr F2 (.nil : Vals [] []) (L2.passAt tk σ) I2 (.cons rfl r) (by simpa using q2)
theorem se_meth0 {x : Str} {m : Nat} {o : Expr} {d : DE} {pl : Sem Bool} (F : DefOk X.prog X.w X.K X.mg X.base k g ps fn) (T : ClsOk X.K X.mg c Ca) (hm : Meth X.K Ca x g) (hx : nameOf m = x) (hr : Room k X.A) (tk : Takes X W) (ho : SndE X [] W o d)
    (ht : eval (.Call (.Attribute o x apos) [] [] pos) X.env = (do
      let ov ← eval o X.env
      standAt apos.atName
      let (f, first) ← holding [ov] (getMethod ov x pl)
      callWith pos f first (backTo pos (starEach [] X.env)) (backToKw pos (keywordEach [] X.env))) := by rfl) :
    SndE X [] W (.Call (.Attribute o x apos) [] [] pos) (dMeth c m fn d aNil) := by
  obtain ⟨⟨fd, F1, F2, _⟩, kp, ar⟩ := F
  refine ⟨fun pins s σ H Q I h => ?_⟩
  obtain ⟨as, G, S, rg, rs, h⟩ := h
  have hd : tDE (rc X []) W d σ H fun x' H1 => ∃ a Cb dx ys, x' = .ref a ∧ X.mg (nameOf c) = some (.ref Cb) ∧ H1 a = some (.ins Cb dx ys) ∧ ys.lookup (nameOf m) = none ∧ spD X.K X.mg ps.length fn [x'] H1 Q fun cls d H' => W cls d σ H' :=
    tD.bind rg rs h fun u G1 as1 H1 u' e1 rg1 rs1 ru h1 => by
      split at h1
      · rename_i hi
        obtain ⟨a, Cb, dx, ys, hv, hc, hH, hl⟩ := isIns_rv rg1 ru hi
        exact ⟨a, Cb, dx, ys, hv, hc, hH, hl, spD_of ar rg1 (.cons ru .nil) (tF_of h1)⟩
      · exact h1.elim
  refine PySem.W.methodCall_KW (pl := pl) (thn (ho.run pins s σ H _ I hd) fun u s1 ⟨x', H1, I1, rx, a, Cb, dx, ys, ex, hc, ea, l, q⟩ => ?_) ht
  have hC := T.same hc
  subst hC ex hx
  obtain rfl : u = Value.ref a := rx
  refine getmeth_ok I1 ea T.cl hm l ?_
  exact PySem.W.callWith_K0 (first := [.ref a]) I1.kIn hm.kp (run_fnSD (E := fun σ cls d H' => W cls d σ H') (us := [.ref a]) (vs := [.ref a]) F1 hr F2 (.nil : Vals [] []) (L2.passAt tk σ) I1 (.cons rfl .nil) (by simpa using q))
/-- o.p, a property -/
theorem se_prop {x : Str} {m : Nat} {o : Expr} {d : DE} {pp : Addr} (F : DefOk X.prog X.w X.K X.mg X.base k g ps fn) (T : ClsOk X.K X.mg c Ca) (hp : PropOf X.K Ca x pp g) (hr : Room (k + 1) X.A) (ho : SndE X [] W o d) (hb : attributeBase o x X.env (eval o X.env) = eval o X.env := by rfl) :
    SndE X [] W (.Attribute o x pos) (dProp c m fn d) := by
  obtain ⟨⟨fd, F1, F2, _⟩, kp, ar⟩ := F
  refine (pe_prop ho T.cl hp F1 hr F2 (.nil : Vals [] []) (passL (X := X.nox)) hb).imp fun σ H Q ⟨as, G, S, rg, rs, h⟩ => tD.bind rg rs h fun u G1 as1 H1 u' e1 rg1 rs1 ru h1 => ?_
  split at h1
  · rename_i hi
    obtain ⟨a, Cb, dx, ys, hv, hc, hH, hl⟩ := isIns_rv rg1 ru hi
    have hC := T.same hc
    subst hC hv
    exact ⟨a, dx, ys, rfl, hH, spD_of ar rg1 (.cons ru .nil) (tF_no h1)⟩
  · exact h1.elim
/-- C(..) -/
theorem make_go {as : List Addr} {G1 : Hv} {H1 : Hp} {xs : List VV} {vs : List V} {σ : St} {Q : VK} (T : ClsOk X.K X.mg c Ca) (ar : ∀ vs G, vs.length ≠ ps.length → fn vs G = .bad) (rg1 : RelG (rc X []) as G1 H1) (rxs : RVs (rc X []) as H1 xs vs)
    (h1 : tR (rc X []) W (RV (rc X [])) ((noX (fn (.ref G1.length :: xs) (G1 ++ [.ins c []]))).bind fun u G2 => if isN u then .ok (.ref G1.length) G2 else .bad) as H1 σ Q) :
    ∀ x dx, H1 x = none → H1 dx = none → dx ≠ x → spD X.K X.mg ps.length fn (.ref x :: (vs ++ [])) (upd (upd H1 dx (.own x)) x (.ins Ca dx [])) (fun v H2 => v = .non ∧ Q (.ref x) H2) E0 := fun x dx hx hdx ne => by
  rw [List.append_nil]
  have r2 : RelG (rc X []) as G1 (upd H1 dx (.own x)) := rg1.side hdx
  have hx2 : (upd H1 dx (.own x)) x = none := by rw [upd_ne (Ne.symm ne)]; exact hx
  have e1 : Ext as H1 as (upd H1 dx (.own x)) := Ext.side hdx
  have e2 : Ext as (upd H1 dx (.own x)) (as ++ [x]) (upd (upd H1 dx (.own x)) x (.ins Ca dx [])) := Ext.new hx2
  have r3 : RelG (rc X []) (as ++ [x]) (G1 ++ [.ins c []]) (upd (upd H1 dx (.own x)) x (.ins Ca dx [])) := r2.new hx2 ⟨Ca, dx, [], T.mg, rfl, rfl⟩
  have rx : RV (rc X []) (as ++ [x]) (upd (upd H1 dx (.own x)) x (.ins Ca dx [])) (.ref G1.length) (.ref x) := .mkRef rg1.newAt
  refine spD_of ar r3 (.cons rx (rxs.mono (e1.trans e2))) ?_
  cases q : fn (.ref G1.length :: xs) (G1 ++ [.ins c []]) with
  | bad => rw [q] at h1; exact h1.elim
  | exn y G2 => rw [q] at h1; exact h1.elim
  | ok u G2 =>
    rw [q] at h1
    simp only [noX_ok, R.bind_ok] at h1
    split at h1
    · rename_i hu
      refine fun as' H' v' e3 rg' rv => ?_
      have hv : v' = .non := by
        have := isN_iff rv
        rw [hu] at this
        exact of_decide_eq_true this
      exact ⟨hv, h1 as' H' (.ref x) ((e1.trans e2).trans e3) rg' (rx.mono e3)⟩
    · exact h1.elim
theorem se_make {x : Str} (F : DefOk X.prog X.w X.K X.mg X.base k g ps fn) (T : ClsOk X.K X.mg c Ca) (M : Mk X.K Ca g) (hx : nameOf c = x) (hg : Gl X x) (hr : Room (k + 1) X.A) (ha : SndA X [] W (e :: es) dr) (hdb : (x == ("__debug__" : Str)) = false := by decide)
    (he : starEach (e :: es) X.env = (false, eval e X.env) :: starEach es X.env := by rfl) (hpl : (backTo pos (starEach es X.env)).any (·.1) = false := by rfl) :
    SndE X [] W (.Call (.Name x p) (e :: es) [] pos) (dMake c fn dr) := by
  obtain ⟨⟨fd, F1, F2, _⟩, kp, ar⟩ := F
  refine (pe_make M F1 hr hg (hx ▸ T.mg) F2 (.nil : Vals [] []) passL ha hdb he hpl).imp fun σ H Q ⟨as, G, S, rg, rs, h⟩ => ?_
  refine tD.bind rg rs h fun xs G1 as1 H1 vs e1 rg1 rs1 rxs h1 => ?_
  exact make_go T ar rg1 rxs h1
theorem se_make0 {x : Str} (F : DefOk X.prog X.w X.K X.mg X.base k g ps fn) (T : ClsOk X.K X.mg c Ca) (M : Mk X.K Ca g) (hx : nameOf c = x) (hg : Gl X x) (hr : Room (k + 1) X.A) (hdb : (x == ("__debug__" : Str)) = false := by decide) :
    SndE X [] W (.Call (.Name x p) [] [] pos) (dMake c fn aNil) := by
  obtain ⟨⟨fd, F1, F2, _⟩, kp, ar⟩ := F
  refine (pe_make0 M F1 hr hg (hx ▸ T.mg) F2 (.nil : Vals [] []) passL hdb).imp fun σ H Q ⟨as, G, S, rg, rs, h⟩ => ?_
  exact make_go T ar rg .nil h
end
end DL
end S_Rules4
section S_Rules5
set_option Elab.async false
set_option linter.all false
set_option maxRecDepth 100000
set_option maxHeartbeats 2000000
/-! Rules5: built-ins, methods of built-in types. -/
namespace DL
open PySem PySem.Spec PyProof.Rows L2
variable [tbs : TabsT] [TC : TabsC]
/-- the built-ins' names are the built-ins' own -/
structure BF (mg : Str → Option Value) : Prop where
  len : mg "len" = none
  abs : mg "abs" = none
  int : mg "int" = none
  str : mg "str" = none
  divmod : mg "divmod" = none
  list : mg "list" = none
  tuple : mg "tuple" = none
  sum : mg "sum" = none
  all : mg "all" = none
  any : mg "any" = none
  repr : mg "repr" = none
  isinstance : mg "isinstance" = none
  min : mg "min" = none
  max : mg "max" = none
  range : mg "range" = none
  enumerate : mg "enumerate" = none
  zip : mg "zip" = none
  sorted : mg "sorted" = none
  set : mg "set" = none
  dict : mg "dict" = none
  bool : mg "bool" = none
def rB (C : RC) (f : Bt) : List V → Hp → VK → Prop := fun vs' H Q => ∃ as G vs, RelG C as G H ∧ RVs C as H vs vs' ∧ oR C (f vs G) as H Q
section
variable {C : RC} {as : List Addr} {H : Hp}
theorem RVs.one {x : VV} {vs : List V} (h : RVs C as H [x] vs) : ∃ v, vs = [v] ∧ RV C as H x v := by
  rw [RVs] at h
  obtain ⟨v, zs, rfl, r, t⟩ := h
  rw [RVs] at t
  subst t
  exact ⟨v, rfl, r⟩
theorem RVs.two {x y : VV} {vs : List V} (h : RVs C as H [x, y] vs) : ∃ v w, vs = [v, w] ∧ RV C as H x v ∧ RV C as H y w := by
  rw [RVs] at h
  obtain ⟨v, zs, rfl, r, t⟩ := h
  obtain ⟨w, rfl, r2⟩ := t.one
  exact ⟨v, w, rfl, r, r2⟩
theorem RVs.ints : ∀ {xs : List VV} {is : List Int} {vs : List V}, RVs C as H xs vs → asInts xs = some is → vs = is.map V.int
  | [], _, _, h, e => by cases e; rw [RVs] at h; exact h
  | x :: xs, is, _, h, e => by
    rw [RVs] at h
    obtain ⟨v, zs, rfl, r, t⟩ := h
    cases x with
    | int i =>
      unfold asInts at e
      cases q : asInts xs with
      | none => rw [q] at e; cases e
      | some js =>
        rw [q] at e
        cases e
        rw [r.int, RVs.ints t q]; rfl
    | _ => cases e
theorem RVs.bls : ∀ {xs : List VV} {is : List Bool} {vs : List V}, RVs C as H xs vs → asBls xs = some is → vs = is.map V.bl
  | [], _, _, h, e => by cases e; rw [RVs] at h; exact h
  | x :: xs, is, _, h, e => by
    rw [RVs] at h
    obtain ⟨v, zs, rfl, r, t⟩ := h
    cases x with
    | bl i =>
      unfold asBls at e
      cases q : asBls xs with
      | none => rw [q] at e; cases e
      | some js =>
        rw [q] at e
        cases e
        rw [r.bl, RVs.bls t q]; rfl
    | _ => cases e
theorem RVs.strs : ∀ {xs : List VV} {is : List (List Nat)} {vs : List V}, RVs C as H xs vs → asStrs xs = some is → vs = (is.map mkS).map V.str ∧ ∀ s ∈ is, sOk s = true
  | [], _, _, h, e => by cases e; rw [RVs] at h; exact ⟨h, fun _ z => nomatch z⟩
  | x :: xs, is, _, h, e => by
    rw [RVs] at h
    obtain ⟨v, zs, rfl, r, t⟩ := h
    cases x with
    | str i =>
      unfold asStrs at e
      cases q : asStrs xs with
      | none => rw [q] at e; cases e
      | some js =>
        rw [q] at e
        cases e
        obtain ⟨h1, h2⟩ := RVs.strs t q
        rw [r.str, h1]
        refine ⟨rfl, fun s hs => ?_⟩
        rcases List.mem_cons.mp hs with rfl | hs
        · exact r.sok
        · exact h2 s hs
    | _ => cases e
theorem RVs.mkStrs : ∀ {ss : List (List Nat)}, (∀ s ∈ ss, sOk s = true) → RVs C as H (ss.map VV.str) ((ss.map mkS).map V.str)
  | [], _ => .nil
  | s :: ss, h => .cons (.mkStr (h s List.mem_cons_self)) (RVs.mkStrs fun t ht => h t (List.mem_cons_of_mem _ ht))
theorem RVs.upTo (lo : Int) : ∀ n, RVs C as H (DL.upTo lo n) ((List.range n).map fun (i : Nat) => V.int (lo + (i : Int)))
  | 0 => .nil
  | n + 1 => by
    rw [List.range_succ_eq_map, List.map_cons]
    refine .cons (by rw [show lo + ((0 : Nat) : Int) = lo by simp]; exact .mkInt) ?_
    have := RVs.upTo (lo + 1) n
    rw [List.map_map]
    have e : ((fun i : Nat => V.int (lo + (i : Int))) ∘ Nat.succ) = fun i : Nat => V.int (lo + 1 + (i : Int)) := by
      funext i
      show V.int (lo + ((i + 1 : Nat) : Int)) = _
      congr 1
      omega
    rw [e]
    exact this
end
section
variable {X : Cx} {ep : List (Addr × Obj)} {W : WX} {a e : Expr} {da : DE} {dr : DA} {es : List Expr} {pos p : Pos}
theorem se_b {id : String} {x : Str} {f : Bt} (hc : CallR X (.builtin id) (rB (rc X ep) f)) (hm : X.mg x = none) (hv : bootBuiltins x = some (.builtin id)) (hg : Gl X x) (ha : SndA X ep W (e :: es) dr) (hn : x ≠ "__name__" := by decide) (hdb : (x == ("__debug__" : Str)) = false := by decide)
    (he : starEach (e :: es) X.env = (false, eval e X.env) :: starEach es X.env := by rfl) (hpl : (backTo pos (starEach es X.env)).any (·.1) = false := by rfl) : SndE X ep W (.Call (.Name x p) (e :: es) [] pos) (dB f dr) :=
  (pe_callB hc hg hm hv ha hn hdb he hpl).imp fun σ H Q ⟨as, G, S, rg, rs, h⟩ => tD.bind rg rs h fun xs G1 as1 H1 vs e1 rg1 rs1 rxs h1 => ⟨as1, G1, xs, rg1, rxs, tR_ofO h1⟩
theorem se_ty {id : String} {x : Str} {f : Bt} (hc : CallR X (.type id) (rB (rc X ep) f)) (hm : X.mg x = none) (hv : bootBuiltins x = some (.type id)) (hg : Gl X x) (ha : SndA X ep W (e :: es) dr) (hn : x ≠ "__name__" := by decide) (hdb : (x == ("__debug__" : Str)) = false := by decide)
    (he : starEach (e :: es) X.env = (false, eval e X.env) :: starEach es X.env := by rfl) (hpl : (backTo pos (starEach es X.env)).any (·.1) = false := by rfl) : SndE X ep W (.Call (.Name x p) (e :: es) [] pos) (dB f dr) :=
  (pe_callTy hc hg hm hv ha hn hdb he hpl).imp fun σ H Q ⟨as, G, S, rg, rs, h⟩ => tD.bind rg rs h fun xs G1 as1 H1 vs e1 rg1 rs1 rxs h1 => ⟨as1, G1, xs, rg1, rxs, tR_ofO h1⟩
theorem sb_len : CallR X (.builtin "len") (rB (rc X ep) bLen) := by
  intro pins s σ H vs' us Q I r ⟨as, G, vs, rg, rv, h⟩
  unfold bLen at h
  split at h
  · rename_i t
    split at h
    · rename_i hl
      obtain ⟨v, rfl, r1⟩ := rv.one
      have := h _ _ _ .refl rg .mkInt
      refine call_len_str pins s σ H _ us Q I r ⟨_, by rw [r1.str], by rw [mkS_len, ← lim]; exact hl, ?_⟩
      rw [mkS_len]; exact this
    · exact h.elim
  · rename_i x _
    obtain ⟨v, rfl, r1⟩ := rv.one
    cases q : asSeq G x with
    | none => rw [q] at h; exact h.elim
    | some xs =>
      rw [q] at h
      obtain ⟨a, ys, rfl, h1, r2⟩ := RV.seq rg r1 q
      refine call_len_seq pins s σ H _ us Q I r ⟨a, ys, rfl, h1, ?_⟩
      rw [← r2.length]
      exact h _ _ _ .refl rg .mkInt
  · exact h.elim
theorem sb_abs : CallR X (.builtin "abs") (rB (rc X ep) bAbs) := by
  intro pins s σ H vs' us Q I r ⟨as, G, vs, rg, rv, h⟩
  unfold bAbs at h
  split at h
  · obtain ⟨v, rfl, r1⟩ := rv.one
    exact call_abs pins s σ H _ us Q I r ⟨_, by rw [r1.int], h _ _ _ .refl rg .mkInt⟩
  · exact h.elim
theorem sb_max2 (hc : X.calm = true) : CallR X (.builtin "max") (rB (rc X ep) bMax2) := by
  intro pins s σ H vs' us Q I r ⟨as, G, vs, rg, rv, h⟩
  unfold bMax2 at h
  split at h
  · obtain ⟨v, w, rfl, r1, r2⟩ := rv.two
    exact call_max2 hc pins s σ H _ us Q I r ⟨_, _, by rw [r1.int, r2.int], h _ _ _ .refl rg .mkInt⟩
  · exact h.elim
theorem sb_min2 (hc : X.calm = true) : CallR X (.builtin "min") (rB (rc X ep) bMin2) := by
  intro pins s σ H vs' us Q I r ⟨as, G, vs, rg, rv, h⟩
  unfold bMin2 at h
  split at h
  · obtain ⟨v, w, rfl, r1, r2⟩ := rv.two
    exact call_min2 hc pins s σ H _ us Q I r ⟨_, _, by rw [r1.int, r2.int], h _ _ _ .refl rg .mkInt⟩
  · exact h.elim
theorem digText : ∀ c : Nat, 48 ≤ c → c ≤ 57 → PySem.intText? (mkS [c]) = some ((c - 48 : Nat) : Int) := by
  intro c h1 h2
  obtain ⟨k, rfl⟩ : ∃ k, c = 48 + k := ⟨c - 48, by omega⟩
  have hk : k < 10 := by omega
  have : ∀ k, k < 10 → PySem.intText? (mkS [48 + k]) = some ((48 + k - 48 : Nat) : Int) := by decide +kernel
  exact this k hk
theorem sb_int : CallR X (.type "int") (rB (rc X ep) bInt) := by
  intro pins s σ H vs' us Q I r ⟨as, G, vs, rg, rv, h⟩
  unfold bInt at h
  split at h
  · obtain ⟨v, rfl, r1⟩ := rv.one
    exact call_int1 pins s σ H _ us Q I r (.inl ⟨_, by rw [r1.int], h _ _ _ .refl rg .mkInt⟩)
  · obtain ⟨v, rfl, r1⟩ := rv.one
    exact call_int1 pins s σ H _ us Q I r (.inr ⟨_, by rw [r1.bl], h _ _ _ .refl rg .mkInt⟩)
  · rename_i c
    split at h
    · rename_i hl
      obtain ⟨v, rfl, r1⟩ := rv.one
      exact call_int_str pins s σ H _ us Q I r ⟨_, _, by rw [r1.str], digText c hl.1 hl.2, by rw [mkS_len]; simp, h _ _ _ .refl rg .mkInt⟩
    · exact h.elim
  · exact h.elim
theorem strDig : ∀ i : Int, 0 ≤ i → i < 10 → (toString i : String) = String.ofList [Char.ofNat (48 + i.toNat)] := by
  intro i h1 h2
  obtain ⟨k, rfl⟩ : ∃ k : Nat, i = k := ⟨i.toNat, by omega⟩
  have hk : k < 10 := by omega
  have : ∀ k : Nat, k < 10 → (toString (k : Int) : String) = String.ofList [Char.ofNat (48 + (k : Int).toNat)] := by decide +kernel
  exact this k hk
theorem strDig2 : ∀ i : Int, 0 ≤ i → i < 10 → (Str.ofString (toString i) : Str) = mkS [48 + i.toNat] := by
  intro i h1 h2
  obtain ⟨k, rfl⟩ : ∃ k : Nat, i = k := ⟨i.toNat, by omega⟩
  have hk : k < 10 := by omega
  have : ∀ k : Nat, k < 10 → (Str.ofString (toString (k : Int)) : Str) = mkS [48 + (k : Int).toNat] := by decide +kernel
  exact this k hk
theorem sb_str : CallR X (.type "str") (rB (rc X ep) bStr) := by
  intro pins s σ H vs' us Q I r ⟨as, G, vs, rg, rv, h⟩
  unfold bStr at h
  split at h
  · rename_i i
    split at h
    · rename_i hl
      obtain ⟨v, rfl, r1⟩ := rv.one
      have ok : sOk [48 + i.toNat] = true := by
        simp only [sOk, List.all_cons, List.all_nil, Bool.and_true, decide_eq_true_eq]
        omega
      have := h _ _ _ .refl rg (.mkStr ok)
      have hz : i.natAbs.log2 < 1920 := by
        have h0 : i.natAbs < 2 ^ 4 := by omega
        have := PySem.Flt.log2_lt_of (k := 4) (by decide) h0
        omega
      refine call_str_int pins s σ H _ us Q I r ⟨i, by rw [r1.int], hz, ?_⟩
      have e := strDig2 i hl.1 hl.2
      show Q (.str (Str.ofString (toString i))) H
      rw [e]; exact this
    · exact h.elim
  · exact h.elim
theorem sb_divmod : CallR X (.builtin "divmod") (rB (rc X ep) bDivmod) := by
  intro pins s σ H vs' us Q I r ⟨as, G, vs, rg, rv, h⟩
  unfold bDivmod at h
  split at h
  · rename_i i j
    split at h
    · rename_i hl
      obtain ⟨v, w, rfl, r1, r2⟩ := rv.two
      refine call_divmod pins s σ H _ us Q I r ⟨_, _, by rw [r1.int, r2.int], hl, fun p hp => ?_⟩
      have e : Ext as H as (upd H p (.tup [.int (i / j), .int (i % j)])) := Ext.side hp
      exact h _ _ _ e (rg.side hp) (.mkTup (.inl upd_same) (.cons .mkInt (.cons .mkInt .nil)))
    · exact h.elim
  · exact h.elim
theorem sb_list : CallR X (.type "list") (rB (rc X ep) bList) := by
  intro pins s σ H vs' us Q I r ⟨as, G, vs, rg, rv, h⟩
  unfold bList at h
  split at h
  · rename_i x
    obtain ⟨v, rfl, r1⟩ := rv.one
    cases q : asSeq G x with
    | none => rw [q] at h; exact h.elim
    | some xs =>
      rw [q] at h
      obtain ⟨a, ys, rfl, h1, r2⟩ := RV.seq rg r1 q
      exact call_list_of pins s σ H _ us Q I r ⟨a, ys, rfl, h1, fun l hl => h _ _ _ (Ext.new hl) (rg.new hl ⟨_, rfl, r2⟩) (.mkRef rg.newAt)⟩
  · exact h.elim
theorem sb_tuple : CallR X (.type "tuple") (rB (rc X ep) bTuple) := by
  intro pins s σ H vs' us Q I r ⟨as, G, vs, rg, rv, h⟩
  unfold bTuple at h
  split at h
  · rename_i x
    obtain ⟨v, rfl, r1⟩ := rv.one
    cases q : asSeq G x with
    | none => rw [q] at h; exact h.elim
    | some xs =>
      rw [q] at h
      cases x with
      | tup zs =>
        cases q
        obtain ⟨a, ys, rfl, t, r2⟩ := r1.tup
        exact call_tuple_of pins s σ H _ us Q I r ⟨a, ys, rfl, .inr ⟨t.sq, h _ _ _ .refl rg (.mkTup t r2)⟩⟩
      | ref i =>
        obtain ⟨a, ys, rfl, h1, r2⟩ := RV.lstR (K := X.K) rg r1 (show asListR G (.ref i) = some xs from q)
        refine call_tuple_of pins s σ H _ us Q I r ⟨a, ys, rfl, .inl ⟨h1, fun l hl => ?_⟩⟩
        have e : Ext as H as (upd H l (.tup ys)) := Ext.side hl
        exact h _ _ _ e (rg.side hl) (.mkTup (.inl upd_same) (r2.mono e))
      | _ => cases q
  · exact h.elim
theorem sb_sum (hc : X.calm = true) : CallR X (.builtin "sum") (rB (rc X ep) bSum) := by
  intro pins s σ H vs' us Q I r ⟨as, G, vs, rg, rv, h⟩
  unfold bSum at h
  split at h
  · rename_i x
    obtain ⟨v, rfl, r1⟩ := rv.one
    cases q : asListR G x with
    | none => rw [q] at h; exact h.elim
    | some xs =>
      rw [q] at h
      cases q2 : asInts xs with
      | none => simp only [q2] at h; exact h.elim
      | some is =>
        simp only [q2] at h
        obtain ⟨a, ys, rfl, h1, r2⟩ := RV.lstR (K := X.K) rg r1 q
        rw [r2.ints q2] at h1
        exact cr_sum hc pins s σ H _ us Q I r ⟨a, is, rfl, h1, h _ _ _ .refl rg .mkInt⟩
  · exact h.elim
theorem sb_all (hc : X.calm = true) : CallR X (.builtin "all") (rB (rc X ep) bAll) := by
  intro pins s σ H vs' us Q I r ⟨as, G, vs, rg, rv, h⟩
  unfold bAll at h
  split at h
  · rename_i x
    obtain ⟨v, rfl, r1⟩ := rv.one
    cases q : asListR G x with
    | none => rw [q] at h; exact h.elim
    | some xs =>
      rw [q] at h
      cases q2 : asBls xs with
      | none => simp only [q2] at h; exact h.elim
      | some is =>
        simp only [q2] at h
        obtain ⟨a, ys, rfl, h1, r2⟩ := RV.lstR (K := X.K) rg r1 q
        rw [r2.bls q2] at h1
        exact cr_all hc pins s σ H _ us Q I r ⟨a, is, rfl, h1, h _ _ _ .refl rg .mkBl⟩
  · exact h.elim
theorem sb_any (hc : X.calm = true) : CallR X (.builtin "any") (rB (rc X ep) bAny) := by
  intro pins s σ H vs' us Q I r ⟨as, G, vs, rg, rv, h⟩
  unfold bAny at h
  split at h
  · rename_i x
    obtain ⟨v, rfl, r1⟩ := rv.one
    cases q : asListR G x with
    | none => rw [q] at h; exact h.elim
    | some xs =>
      rw [q] at h
      cases q2 : asBls xs with
      | none => simp only [q2] at h; exact h.elim
      | some is =>
        simp only [q2] at h
        obtain ⟨a, ys, rfl, h1, r2⟩ := RV.lstR (K := X.K) rg r1 q
        rw [r2.bls q2] at h1
        exact cr_any hc pins s σ H _ us Q I r ⟨a, is, rfl, h1, h _ _ _ .refl rg .mkBl⟩
  · exact h.elim
theorem sb_reprB : CallR X (.builtin "repr") (rB (rc X ep) bReprB) := by
  intro pins s σ H vs' us Q I r ⟨as, G, vs, rg, rv, h⟩
  unfold bReprB at h
  split at h
  · obtain ⟨v, rfl, r1⟩ := rv.one
    have hv := r1.bl
    subst hv
    obtain ⟨u, rfl, ru⟩ := r.one
    cases ru
    have := h _ _ _ .refl rg (.mkStr (by decide))
    exact PySem.P.repr_of_bool ⟨.str _, H, I.tok _, ⟨_, rfl⟩, this⟩
  · obtain ⟨v, rfl, r1⟩ := rv.one
    have hv := r1.bl
    subst hv
    obtain ⟨u, rfl, ru⟩ := r.one
    cases ru
    have := h _ _ _ .refl rg (.mkStr (by decide))
    exact PySem.P.repr_of_bool ⟨.str _, H, I.tok _, ⟨_, rfl⟩, this⟩
  · exact h.elim
/-! isinstance -/
def tyVal : Ty → String
  | .int => "int"
  | .bool => "bool"
  | .str => "str"
  | .tuple => "tuple"
theorem kit_ty (t : String) (T : Ty) (b : Bool) (h : (match T with
    | .int => t == "int" || t == "bool"
    | .bool => t == "bool"
    | .str => t == "str"
    | .tuple => t == "tuple") = b) (ht : t ∈ ["NoneType", "bool", "int", "str", "tuple", "list", "dict"]) (K : PySem.W.Frag) : PySem.W.kitOne K (.type t) (.type (tyVal T)) = some b := by
  subst h
  simp only [List.mem_cons, List.not_mem_nil, or_false] at ht
  rcases ht with rfl | rfl | rfl | rfl | rfl | rfl | rfl <;> cases T <;> first | rfl | decide +kernel
theorem isTy_rv {C : RC} {as : List Addr} {G : Hv} {H : Hp} {x : VV} {v : V} {T : Ty} {b : Bool} (rg : RelG C as G H) (r : RV C as H x v) (e : isTy G T x = some b) : ∃ t, TyX C.K H v (.type t) ∧ PySem.W.kitOne C.K (.type t) (.type (tyVal T)) = some b := by
  cases x with
  | non =>
    rw [r.non]
    exact ⟨_, .base .non, kit_ty "NoneType" T b (by cases T <;> cases e <;> rfl) (by simp) _⟩
  | bl k =>
    rw [r.bl]
    exact ⟨_, .base (.bl k), kit_ty "bool" T b (by cases T <;> cases e <;> rfl) (by simp) _⟩
  | int k =>
    rw [r.int]
    exact ⟨_, .base (.int k), kit_ty "int" T b (by cases T <;> cases e <;> rfl) (by simp) _⟩
  | str k =>
    rw [r.str]
    exact ⟨_, .base (.str _), kit_ty "str" T b (by cases T <;> cases e <;> rfl) (by simp) _⟩
  | tup xs =>
    obtain ⟨a, ys, rfl, t, _⟩ := r.tup
    have k := kit_ty "tuple" T b (by cases T <;> cases e <;> rfl) (by simp) C.K
    rcases t with t | ⟨o, its, n, h1, h2, _⟩
    · exact ⟨_, .base (.tup t), k⟩
    · exact ⟨_, .kTuple h1 h2, k⟩
  | ref i =>
    obtain ⟨a, ha, rfl⟩ := r.ref
    cases q : G[i]? with
    | none => exfalso; cases T <;> simp [isTy, q] at e
    | some o =>
      obtain ⟨ho, h1, h2⟩ := rg.at q ha
      cases o with
      | lst zs =>
        obtain ⟨ys, rfl, _⟩ := h2
        exact ⟨_, .base (.lst h1), kit_ty "list" T b (by cases T <;> simp [isTy, q] at e <;> subst e <;> rfl) (by simp) _⟩
      | flst zs =>
        obtain ⟨ys, rfl | ⟨ob, rfl⟩, _⟩ := h2
        · exact ⟨_, .base (.lst h1), kit_ty "list" T b (by cases T <;> simp [isTy, q] at e <;> subst e <;> rfl) (by simp) _⟩
        · exact ⟨_, .base (.frz h1), kit_ty "list" T b (by cases T <;> simp [isTy, q] at e <;> subst e <;> rfl) (by simp) _⟩
      | dic zs =>
        obtain ⟨ys, rfl, _⟩ := h2
        exact ⟨_, .base (.dK h1), kit_ty "dict" T b (by cases T <;> simp [isTy, q] at e <;> subst e <;> rfl) (by simp) _⟩
      | ins _ _ => exfalso; cases T <;> simp [isTy, q] at e
      | nset _ _ => exfalso; cases T <;> simp [isTy, q] at e
  | _ => exfalso; cases T <;> simp [isTy] at e
theorem se_isi {tn : Str} (T : Ty) (hmi : X.mg "isinstance" = none) (hmt : X.mg tn = none) (hv : bootBuiltins tn = some (.type (tyVal T))) (hgi : Gl X "isinstance") (hgt : Gl X tn) {p2 : Pos} (ha : SndE X ep W a da) (hn : tn ≠ "__name__" := by decide) (hdb : (tn == ("__debug__" : Str)) = false := by decide)
    (he : starEach [a, .Name tn p2] X.env = (false, eval a X.env) :: starEach [.Name tn p2] X.env := by rfl) (he2 : starEach [.Name tn p2] X.env = (false, eval (.Name tn p2) X.env) :: starEach [] X.env := by rfl) (hpl : (backTo pos (starEach [.Name tn p2] X.env)).any (·.1) = false := by rfl) :
    SndE X ep W (.Call (.Name "isinstance" p) [a, .Name tn p2] [] pos) (dIsi T da) :=
  (pe_callB call_isi hgi hmi (by decide +kernel) (pa_cons ha (pa_cons (pe_bltn (v := .ty (tyVal T)) hgt hmt hv rfl hn hdb) pa_nil he2) he) (by decide) (by decide) he hpl).imp fun σ H Q ⟨as, G, S, rg, rs, h⟩ => tD.bind rg rs h fun x G1 as1 H1 x' e1 rg1 rs1 rx h1 => by
    cases e : isTy G1 T x with
    | none => rw [e] at h1; exact h1.elim
    | some b =>
      rw [e] at h1
      obtain ⟨t, h2, h3⟩ := isTy_rv rg1 rx e
      exact ⟨x', .ty (tyVal T), .type t, .type (tyVal T), b, rfl, .ty _, h2, h3, h1 _ _ _ .refl rg1 .mkBl⟩
/-! ### methods of built-in types -/
def rM (C : RC) (f : Mt) : V → List V → Hp → VK → Prop := fun x' vs' H Q => ∃ as G x vs, RelG C as G H ∧ RV C as H x x' ∧ RVs C as H vs vs' ∧ oR C (f x vs G) as H Q
def rtN : Rt → String
  | .lst => "list"
  | .str => "str"
  | .dic => "dict"
theorem isRt_rv {C : RC} {as : List Addr} {G : Hv} {H : Hp} {x : VV} {v : V} {T : Rt} (rg : RelG C as G H) (r : RV C as H x v) (e : isRt T G x = true) : tyV C.K (rtN T) v H := by
  unfold isRt at e
  split at e
  · rw [r.str]; exact rfl
  · split at e
    · rename_i q
      obtain ⟨a, ys, _, rfl, h1, _⟩ := RV.lst rg r q
      exact .inl ⟨rfl, ys, SqL.of h1⟩
    · cases e
  · split at e
    · rename_i q
      obtain ⟨a, ha, rfl⟩ := r.ref
      obtain ⟨ho, h1, ys, rfl, _⟩ := rg.at q ha
      exact .inr (.inr (.inl ⟨rfl, .inl ⟨ys, h1⟩⟩))
    · cases e
  · cases e
theorem se_m {id : String} {x : Str} {f : Mt} {o : Expr} {d : DE} {apos : Pos} (T : Rt) (pa : PlainAttrs (rtN T)) (slot : Slot (rtN T) x id) (hty : typeOf (.builtin id) = pure (.type "method_descriptor")) (hm : MtR X id (rM (rc X ep) f)) (ho : SndE X ep W o d) (ha : SndA X ep W (e :: es) dr)
    (hbase : attributeBase o x X.env (eval o X.env) = eval o X.env := by rfl)
    (hfew : ((backTo pos (starEach (e :: es) X.env)).all (fun x => !x.1) && (backToKw pos (keywordEach [] X.env)).all (fun x => x.1.isSome) && decide ((e :: es).length + ([] : List Keyword).length + (if ([] : List Keyword).isEmpty then 0 else 1) < 30)) = true := by rfl)
    (hline : (apos.endLine == pos.line) = true := by rfl) (hs : starEach (e :: es) X.env = (false, eval e X.env) :: starEach es X.env := by rfl) (hpl : (backTo pos (starEach es X.env)).any (·.1) = false := by rfl) :
    SndE X ep W (.Call (.Attribute o x apos) (e :: es) [] pos) (dM T f d dr) :=
  (pe_bm pa slot hty hm ho ha hbase hfew hline hs hpl).imp fun σ H Q ⟨as, G, S, rg, rs, h⟩ => tD.bind rg rs h fun x G1 as1 H1 x' e1 rg1 rs1 rx h1 => by
    split at h1
    · rename_i hi
      exact ⟨isRt_rv rg1 rx hi, tD.bind rg1 rs1 h1 fun xs G2 as2 H2 vs e2 rg2 rs2 rxs h2 => ⟨as2, G2, x, xs, rg2, rx.mono e2, rxs, tR_ofO h2⟩⟩
    · exact h1.elim
theorem se_m0 {id : String} {x : Str} {f : Mt} {o : Expr} {d : DE} {apos : Pos} (T : Rt) (pa : PlainAttrs (rtN T)) (slot : Slot (rtN T) x id) (hty : typeOf (.builtin id) = pure (.type "method_descriptor")) (hm : MtR X id (rM (rc X ep) f)) (ho : SndE X ep W o d)
    (hbase : attributeBase o x X.env (eval o X.env) = eval o X.env := by rfl) (hline : (apos.endLine == pos.line) = true := by rfl) :
    SndE X ep W (.Call (.Attribute o x apos) [] [] pos) (dM T f d aNil) :=
  (pe_bm0 pa slot hty hm ho hbase hline).imp fun σ H Q ⟨as, G, S, rg, rs, h⟩ => tD.bind rg rs h fun x G1 as1 H1 x' e1 rg1 rs1 rx h1 => by
    split at h1
    · rename_i hi
      exact ⟨isRt_rv rg1 rx hi, as1, G1, x, [], rg1, rx, .nil, tR_ofO h1⟩
    · exact h1.elim
theorem sm_append : MtR X "list.append" (rM (rc X ep) mAppend) := by
  intro pins s σ H x' vs' v us Q I rx rv ⟨as, G, x, vs, rg, hx, hv, h⟩
  unfold mAppend at h
  split at h
  · rename_i i y
    split at h
    · rename_i xs q
      split at h
      · rename_i hl
        obtain ⟨a, ys, ha, rfl, h1, r1⟩ := RV.lst rg hx q
        obtain ⟨w, rfl, ry⟩ := hv.one
        refine mt_append pins s σ H _ _ v us Q I rx rv ⟨a, ys, w, rfl, rfl, h1, by rw [← r1.length, ← lim]; exact hl, ?_⟩
        have nt : ∀ zs, H a ≠ some (.tup zs) := fun zs => by rw [h1]; simp
        exact h _ _ _ (Ext.wr nt (.inl (List.mem_of_getElem? ha))) (rg.write ha nt ⟨_, rfl, r1.append (.cons ry .nil)⟩) .mkNon
      · exact h.elim
    · exact h.elim
  · exact h.elim
theorem sm_extend : MtR X "list.extend" (rM (rc X ep) mExtend) := by
  intro pins s σ H x' vs' v us Q I rx rv ⟨as, G, x, vs, rg, hx, hv, h⟩
  unfold mExtend at h
  split at h
  · rename_i i j
    split at h
    · rename_i xs zs q q2
      split at h
      · rename_i hl
        obtain ⟨a, ys, ha, rfl, h1, r1⟩ := RV.lst rg hx q
        obtain ⟨w, rfl, ry⟩ := hv.one
        obtain ⟨b, ws, hb, rfl, h2, r2⟩ := RV.lst rg ry q2
        refine mt_extend pins s σ H _ _ v us Q I rx rv ⟨a, b, ys, ws, rfl, rfl, h1, h2, by rw [← r1.length, ← r2.length, ← lim]; exact hl, ?_⟩
        have nt : ∀ zs, H a ≠ some (.tup zs) := fun zs => by rw [h1]; simp
        exact h _ _ _ (Ext.wr nt (.inl (List.mem_of_getElem? ha))) (rg.write ha nt ⟨_, rfl, r1.append r2⟩) .mkNon
      · exact h.elim
    · exact h.elim
  · exact h.elim
theorem sm_pop : MtR X "list.pop" (rM (rc X ep) mPop) := by
  intro pins s σ H x' vs' v us Q I rx rv ⟨as, G, x, vs, rg, hx, hv, h⟩
  unfold mPop at h
  split at h
  · rename_i i
    split at h
    · rename_i xs q
      split at h
      · rename_i y q2
        obtain ⟨a, ys, ha, rfl, h1, r1⟩ := RV.lst rg hx q
        have hz : vs' = [] := by rw [RVs] at hv; exact hv
        subst hz
        obtain ⟨w, hw, ry⟩ := r1.get q2
        refine mt_pop pins s σ H _ _ v us Q I rx rv ⟨a, ys, w, rfl, rfl, h1, by rw [← r1.length]; exact hw, ?_⟩
        have nt : ∀ zs, H a ≠ some (.tup zs) := fun zs => by rw [h1]; simp
        exact h _ _ _ (Ext.wr nt (.inl (List.mem_of_getElem? ha))) (rg.write ha nt ⟨_, rfl, r1.dropLast⟩) (ry.mono (Ext.wr nt (.inl (List.mem_of_getElem? ha))))
      · exact h.elim
    · exact h.elim
  · exact h.elim
/-! xs.index(y), flat items -/
theorem eqFlat_rv {C : RC} {as : List Addr} {H : Hp} {x y : VV} {v w : V} {b : Bool} (rx : RV C as H x v) (ry : RV C as H y w) (e : eqFlat x y = some b) : flatV v = true ∧ flatV w = true ∧ eqV v w = b := by
  cases x with
  | non => cases y <;> cases e <;> rw [rx.non] <;> first | (rw [ry.non]; exact ⟨rfl, rfl, rfl⟩) | (rw [ry.bl]; exact ⟨rfl, rfl, rfl⟩) | (rw [ry.int]; exact ⟨rfl, rfl, rfl⟩) | (rw [ry.str]; exact ⟨rfl, rfl, rfl⟩)
  | bl a =>
    rw [rx.bl]
    cases y <;> cases e <;> first | (rw [ry.non]; exact ⟨rfl, rfl, rfl⟩) | (rw [ry.bl]; exact ⟨rfl, rfl, rfl⟩) | (rw [ry.str]; exact ⟨rfl, rfl, rfl⟩) | skip
    rw [ry.int]
    exact ⟨rfl, rfl, by unfold eqV DL.b2i; first | rfl | simp [beq_eq_decide]⟩
  | int a =>
    rw [rx.int]
    cases y <;> cases e <;> first | (rw [ry.non]; exact ⟨rfl, rfl, rfl⟩) | (rw [ry.str]; exact ⟨rfl, rfl, rfl⟩) | skip
    · rw [ry.bl]
      exact ⟨rfl, rfl, by unfold eqV DL.b2i; first | rfl | simp [beq_eq_decide]⟩
    · rw [ry.int]
      exact ⟨rfl, rfl, by unfold eqV; first | rfl | simp [beq_eq_decide]⟩
  | str a =>
    rw [rx.str]
    cases y <;> cases e <;> first | (rw [ry.non]; exact ⟨rfl, rfl, rfl⟩) | (rw [ry.bl]; exact ⟨rfl, rfl, rfl⟩) | (rw [ry.int]; exact ⟨rfl, rfl, rfl⟩) | skip
    rw [ry.str]
    refine ⟨rfl, rfl, ?_⟩
    rename_i b
    unfold eqV
    by_cases h : a = b
    · subst h; simp
    · have : ¬ mkS a = mkS b := fun e => h (mkS_inj e)
      simp [h]
  | _ => cases y <;> cases e
theorem idxOf_rv {C : RC} {as : List Addr} {H : Hp} {y : VV} {w : V} (ry : RV C as H y w) : ∀ {xs : List VV} {vs : List V} {n j : Nat}, RVs C as H xs vs → idxOf (fun z => eqFlat z y) xs n = some j → (∀ (m : Nat) (z : VV), xs[m]? = some z → (eqFlat z y).isSome = true) →
    n ≤ j ∧ ∃ z, vs[j - n]? = some z ∧ eqV z w = true ∧ ∀ (m : Nat) (z' : V), m < j - n → vs[m]? = some z' → eqV z' w = false
  | [], _, _, _, _, e, _ => by cases e
  | x :: xs, _, n, j, r, e, al => by
    rw [RVs] at r
    obtain ⟨v, zs, rfl, r1, r2⟩ := r
    unfold idxOf at e
    cases q : eqFlat x y with
    | none => rw [q] at e; cases e
    | some b =>
      rw [q] at e
      obtain ⟨_, _, h3⟩ := eqFlat_rv r1 ry q
      cases b with
      | true =>
        cases e
        exact ⟨Nat.le_refl _, v, by simp, h3, fun m z' hm => by omega⟩
      | false =>
        obtain ⟨k1, z, k2, k3, k4⟩ := idxOf_rv ry r2 e fun m z hz => al (m + 1) z (by simpa using hz)
        refine ⟨by omega, z, ?_, k3, fun m z' hm hz => ?_⟩
        · rw [show j - n = (j - (n + 1)) + 1 by omega]
          simpa using k2
        · cases m with
          | zero =>
            simp at hz
            subst hz
            exact h3
          | succ m => exact k4 m z' (by omega) (by simpa using hz)
/-- all items are flat -/
theorem allFlat_rv {C : RC} {as : List Addr} {H : Hp} {y : VV} {w : V} (ry : RV C as H y w) : ∀ {xs : List VV} {vs : List V}, RVs C as H xs vs → (xs.all fun z => (eqFlat z y).isSome) = true → vs.all flatV = true
  | [], _, r, _ => by rw [RVs] at r; subst r; rfl
  | x :: xs, _, r, al => by
    rw [RVs] at r
    obtain ⟨v, zs, rfl, r1, r2⟩ := r
    rw [List.all_cons, Bool.and_eq_true] at al
    obtain ⟨b, q⟩ := Option.isSome_iff_exists.mp al.1
    rw [List.all_cons, (eqFlat_rv r1 ry q).1, allFlat_rv ry r2 al.2]; rfl
theorem sm_index : MtR X "list.index" (rM (rc X ep) mIndex) := by
  intro pins s σ H x' vs' v us Q I rx rv ⟨as, G, x, vs, rg, hx, hv, h⟩
  unfold mIndex at h
  split at h
  · rename_i y
    split at h
    · rename_i xs q
      split at h
      · rename_i hal
        cases q2 : idxOf (fun z => eqFlat z y) xs 0 with
        | none => rw [q2] at h; exact h.elim
        | some j =>
          rw [q2] at h
          obtain ⟨w, rfl, ry⟩ := hv.one
          cases x with
          | ref i =>
            unfold asList at q
            simp only at q
            cases q3 : G[i]? with
            | none => rw [q3] at q; cases q
            | some o =>
              rw [q3] at q
              cases o with
              | lst zs =>
                cases q
                obtain ⟨a, ys, ha, rfl, h1, r1⟩ := RV.lst rg hx q3
                obtain ⟨_, z, k2, k3, k4⟩ := idxOf_rv ry r1 q2 fun m z hz => List.all_eq_true.mp hal z (List.mem_of_getElem? hz)
                have hf : flatV w = true := by
                  cases xs with
                  | nil => cases q2
                  | cons x0 xs0 =>
                    rw [List.all_cons, Bool.and_eq_true] at hal
                    obtain ⟨b, q5⟩ := Option.isSome_iff_exists.mp hal.1
                    have r1' := r1
                    rw [RVs] at r1'
                    obtain ⟨v0, zs0, _, r5, _⟩ := r1'
                    exact (eqFlat_rv r5 ry q5).2.1
                exact mt_index pins s σ H _ _ v us Q I rx rv ⟨a, ys, w, j, z, rfl, rfl, SqL.of h1, hf, allFlat_rv ry r1 hal, by simpa using k2, k3, fun m z' hm hz => k4 m z' (by omega) hz, h _ _ _ .refl rg .mkInt⟩
              | _ => cases q
          | _ => cases q
      · exact h.elim
    · exact h.elim
  · exact h.elim
/-! split, join -/
theorem splitC_join (c : Nat) : ∀ (ps : List (List Nat)), ps ≠ [] → (∀ p ∈ ps, c ∉ p) → splitC c (joinS [c] ps) = ps
  | [], h, _ => absurd rfl h
  | [p], hne, hp => by
    have hc : c ∉ p := hp p List.mem_cons_self
    show splitC c p = [p]
    clear hp hne
    induction p with
    | nil => rfl
    | cons d r ih =>
      have h1 : d ≠ c := fun e => hc (by rw [e]; exact List.mem_cons_self)
      unfold splitC
      rw [if_neg h1, ih fun z => hc (List.mem_cons_of_mem _ z)]
  | p :: q :: r, hne, hp => by
    have hc : c ∉ p := hp p List.mem_cons_self
    have ih := splitC_join c (q :: r) (by simp) fun x hx => hp x (List.mem_cons_of_mem _ hx)
    show splitC c (p ++ ([c] ++ joinS [c] (q :: r))) = _
    clear hp hne
    induction p with
    | nil =>
      show splitC c (c :: joinS [c] (q :: r)) = _
      unfold splitC
      rw [if_pos rfl, ih]
    | cons d t iht =>
      have h1 : d ≠ c := fun e => hc (by rw [e]; exact List.mem_cons_self)
      rw [List.cons_append]
      unfold splitC
      rw [if_neg h1, iht fun z => hc (List.mem_cons_of_mem _ z)]
theorem joinS_eq (sep : List Nat) : ∀ ss : List (List Nat), Str.join (mkS sep) (ss.map mkS) = mkS (joinS sep ss)
  | [] => rfl
  | [x] => rfl
  | x :: y :: r => by
    show mkS x ++ mkS sep ++ Str.join (mkS sep) ((y :: r).map mkS) = _
    rw [joinS_eq sep (y :: r), mkS_app, mkS_app]
    simp [joinS]
theorem split_eq (t : List Nat) (c : Nat) : Txt.split (mkS t) (mkS [c]) = (splitC c t).map mkS := by
  have h1 := StrLaws.join_split (mkS t) (mkS [c])
  have h2 := StrLaws.split_free (mkS t) c
  have hm : ∀ l : List Str, (l.map fun z : Str => mkS z.cps.toList) = l := fun l => by
    rw [List.map_congr_left (g := id)]
    · simp
    · intro z _
      simp [mkS]
  have hps : ((Txt.split (mkS t) (mkS [c])).map fun z : Str => z.cps.toList).map mkS = Txt.split (mkS t) (mkS [c]) := by
    rw [List.map_map]
    exact hm _
  have h3 : joinS [c] ((Txt.split (mkS t) (mkS [c])).map fun z : Str => z.cps.toList) = t := by
    rw [← hps, joinS_eq] at h1
    exact mkS_inj h1
  have ne : ((Txt.split (mkS t) (mkS [c])).map fun z : Str => z.cps.toList) ≠ [] := by
    intro e
    have := PyProof.Rows.split_pos (mkS t) (mkS [c])
    rw [List.map_eq_nil_iff] at e
    rw [e] at this
    simp at this
  have h4 := splitC_join c _ ne (fun p hp => by
    obtain ⟨z, hz, rfl⟩ := List.mem_map.mp hp
    exact h2 z hz)
  rw [h3] at h4
  rw [h4]
  exact hps.symm
theorem splitC_ok (c : Nat) : ∀ {t : List Nat}, sOk t = true → ∀ p ∈ splitC c t, sOk p = true
  | [], _, p, hp => by
    have : p = [] := by simpa [splitC] using hp
    subst this; rfl
  | d :: r, h, p, hp => by
    have hd : sOk r = true ∧ d < 1114112 := by
      unfold sOk at h ⊢
      rw [List.all_cons, Bool.and_eq_true] at h
      exact ⟨h.2, of_decide_eq_true h.1⟩
    have ih := splitC_ok c hd.1
    unfold splitC at hp
    split at hp
    · rcases List.mem_cons.mp hp with rfl | hp
      · rfl
      · exact ih p hp
    · split at hp
      · have : p = [d] := by simpa using hp
        subst this
        simpa [sOk] using hd.2
      · rename_i w ws q
        rw [q] at ih
        rcases List.mem_cons.mp hp with rfl | hp
        · have := ih w List.mem_cons_self
          unfold sOk at this ⊢
          rw [List.all_cons, this]
          simpa using hd.2
        · exact ih p (List.mem_cons_of_mem _ hp)
theorem sm_split : MtR X "str.split" (rM (rc X ep) mSplit) := by
  intro pins s σ H x' vs' v us Q I rx rv ⟨as, G, x, vs, rg, hx, hv, h⟩
  unfold mSplit at h
  split at h
  · rename_i t c
    split at h
    · rename_i hl
      obtain ⟨w, rfl, ry⟩ := hv.one
      have hx1 := hx.str
      have hy1 := ry.str
      subst hx1 hy1
      refine mt_split pins s σ H _ _ v us Q I rx rv ⟨_, _, rfl, rfl, by rw [mkS_len]; rfl, by rw [mkS_len, ← lim]; exact hl, fun p hp => ?_⟩
      rw [split_eq]
      exact h _ _ _ (Ext.new hp) (rg.new hp ⟨_, rfl, RVs.mkStrs (splitC_ok c hx.sok)⟩) (.mkRef rg.newAt)
    · exact h.elim
  · exact h.elim
theorem joinS_len (sep : List Nat) : ∀ ss : List (List Nat), ((ss.map mkS).map (·.length)).sum = (ss.map List.length).sum
  | [] => rfl
  | s :: r => by
    simp only [List.map_cons, List.sum_cons, mkS_len]
    rw [joinS_len sep r]
theorem joinS_ok {sep : List Nat} (h : sOk sep = true) : ∀ {ss : List (List Nat)}, (∀ s ∈ ss, sOk s = true) → sOk (joinS sep ss) = true
  | [], _ => rfl
  | [x], hs => hs x List.mem_cons_self
  | x :: y :: r, hs => sOk_app (hs x List.mem_cons_self) (sOk_app h (joinS_ok h fun s z => hs s (List.mem_cons_of_mem _ z)))
theorem sm_join : MtR X "str.join" (rM (rc X ep) mJoin) := by
  intro pins s σ H x' vs' v us Q I rx rv ⟨as, G, x, vs, rg, hx, hv, h⟩
  unfold mJoin at h
  split at h
  · rename_i t y
    split at h
    · rename_i xs q
      split at h
      · rename_i ss q2
        split at h
        · rename_i hl
          obtain ⟨w, rfl, ry⟩ := hv.one
          obtain ⟨a, ys, rfl, h1, r1⟩ := RV.seq rg ry q
          obtain ⟨e1, e2⟩ := r1.strs q2
          subst e1
          have hx1 := hx.str
          subst hx1
          refine mt_join pins s σ H _ _ v us Q I rx rv ⟨_, a, _, rfl, rfl, h1, ?_, ?_⟩
          · rw [joinS_len t, List.length_map, mkS_len]
            exact hl
          · show Q (.str (Builtin.Str.glued _ _)) H
            rw [StrLaws.glued_eq_join, joinS_eq]
            exact h _ _ _ .refl rg (.mkStr (joinS_ok hx.sok e2))
        · exact h.elim
      · exact h.elim
    · exact h.elim
  · exact h.elim
end
end DL
end S_Rules5
section S_Rules6
set_option Elab.async false
set_option linter.all false
set_option maxRecDepth 100000
set_option maxHeartbeats 2000000
/-! Rules6: what is walked: sequences, ranges, enumerate, zip. -/
namespace DL
open PySem PySem.Spec PyProof.Rows L2
variable [tbs : TabsT] [TC : TabsC]

/-! ### one sequence under an iterator of another -/
inductive Src where
  | l (a : Addr) | t (a : Addr) | s (x : Str) (k : Tok)
def Src.val : Src → Value
  | .l a => .ref a
  | .t a => .ref a
  | .s x k => .str x k
def Src.typ : Src → String
  | .l _ => "list_iterator"
  | .t _ => "tuple_iterator"
  | .s x _ => strIterType x
def Src.ob (S : Src) : Obj := { cls := .type S.typ, data := .fields #[S.val, .int 0 0] }
def Src.own (S : Src) (it : Addr) (i : Nat) (h : Heap) : Prop := ∃ o, h.get? it = some o ∧ o.cls = .type S.typ ∧ o.data = .fields #[S.val, .int i 0]
def Src.ex : Src → List Addr
  | .l a => [a]
  | .t a => [a]
  | .s _ _ => []
/-- what stands there -/
def Src.has (K : PySem.W.Frag) (H : Hp) : Src → List V → Prop
  | .l a, ys => SqL K H a ys
  | .t a, ys => SqT K H a ys
  | .s x _, ys => ys = x.cps.toList.map fun c => V.str ⟨#[c]⟩
def Src.full : Src → Array Value → Heap → Prop
  | .l a, its => fun h => h.IsList a its
  | .t a, its => fun h => h.IsTuple a its
  | .s _ _, _ => fun _ => True
theorem Src.begins (S : Src) (its : Array Value) : Begins S.val S.ob (S.full its) := by
  cases S with
  | l a => exact begins_list a its
  | t a => exact begins_tuple a its
  | s x k => exact begins_text x k
section
variable {X : Cx} {pins : List (Addr × Obj)} {σ : St} {H : Hp} {s : Shared}
theorem Src.full_of (S : Src) (I : Inv X pins σ H s) {ys : List V} (h : S.has X.K H ys) : ∃ its, S.full its s.heap ∧ ∀ b ∈ S.ex, b < s.heap.objs.size := by
  cases S with
  | l a =>
    obtain ⟨its, rv, p, hz⟩ := I.list h
    exact ⟨its.toArray, p.isList, fun b hb => by rw [List.mem_singleton.mp hb]; exact p.lt⟩
  | t a =>
    obtain ⟨its, rv, p, hz⟩ := I.tuple h
    obtain ⟨o, ho, _⟩ := id p
    exact ⟨its.toArray, p, fun b hb => by rw [List.mem_singleton.mp hb]; exact Heap.lt_size ho⟩
  | s x k => exact ⟨#[], trivial, fun b hb => nomatch hb⟩
/-- what its iterator draws, in a state where it stands -/
theorem Src.draws (S : Src) {A : Around} (I : Inv X pins σ H s) (hh : A.handled = none) {ys : List V} (ha : S.has X.K H ys) (it : Addr) (hne : it ∉ S.ex) {i : Nat} (st : S.own it i s.heap) :
    ∃ (P : Nat → Value → Prop) (T : Nat → Heap → Prop), Draws X.prog X.w A it (it :: S.ex) ys.length P T ∧ T i s.heap ∧ (∀ j v, P j v → ∃ y, ys[j]? = some y ∧ RelV y v) ∧ ∀ j h, T j h → S.own it j h := by
  cases S with
  | l a =>
    obtain ⟨its, rv, p, hz⟩ := I.list ha
    have hl : ys.length = its.toArray.size := by simpa using rv.length
    refine ⟨_, _, hl ▸ Draws.list hh it a (fun e => hne (by simp [Src.ex, e])) its.toArray, ⟨st, p.isList⟩, fun j v hv => ?_, fun j h q => q.1⟩
    have hj : j < ys.length := by rw [hl]; exact (Array.getElem?_eq_some_iff.mp hv).1
    obtain ⟨u, hu, ru⟩ := rv.get (List.getElem?_eq_getElem hj)
    have e : some v = some u := by rw [← hv, ← hu]; simp
    exact ⟨_, List.getElem?_eq_getElem hj, (Option.some.inj e) ▸ ru⟩
  | t a =>
    obtain ⟨its, rv, p, hz⟩ := I.tuple ha
    have hl : ys.length = its.toArray.size := by simpa using rv.length
    refine ⟨_, _, hl ▸ Draws.tuple hh it a (fun e => hne (by simp [Src.ex, e])) its.toArray, ⟨st, p⟩, fun j v hv => ?_, fun j h q => q.1⟩
    have hj : j < ys.length := by rw [hl]; exact (Array.getElem?_eq_some_iff.mp hv).1
    obtain ⟨u, hu, ru⟩ := rv.get (List.getElem?_eq_getElem hj)
    have e : some v = some u := by rw [← hv, ← hu]; simp
    exact ⟨_, List.getElem?_eq_getElem hj, (Option.some.inj e) ▸ ru⟩
  | s x k =>
    obtain rfl : ys = _ := ha
    have hl : (x.cps.toList.map fun c => V.str ⟨#[c]⟩).length = x.cps.size := by simp
    rw [hl]
    refine ⟨_, _, Draws.text hh it x k, st, fun j v hv => ?_, fun j h q => q⟩
    obtain ⟨c, u, hc, rfl⟩ := hv
    exact ⟨.str ⟨#[c]⟩, by simp [hc], ⟨u, rfl⟩⟩
theorem Src.own.at {S : Src} {it : Addr} {i : Nat} {h h' : Heap} (st : S.own it i h) (k : ∀ o, h.get? it = some o → h'.get? it = some o) : S.own it i h' := let ⟨o, ho, r⟩ := st; ⟨o, k o ho, r⟩
theorem Src.has_inj {S : Src} (I : Inv X pins σ H s) {xs ys : List V} (h : S.has X.K H xs) (h' : S.has X.K H ys) : xs = ys := by
  cases S with
  | l a => exact I.list_inj h h'
  | t a => exact I.tuple_inj h h'
  | s x k => exact Eq.trans h (Eq.symm h')
end
/-- the items at S in new pairs with their numbers -/
def ItE (K : PySem.W.Frag) (S : Src) : It :=
  ⟨fun i H => ∃ (ys : List V) (y : V), S.has K H ys ∧ ys[i]? = some y, fun i H v H' => ∃ T y, v = .ref T ∧ H T = none ∧ H' = upd H T (.tup [.int (i : Nat), y]) ∧ ∀ ys, S.has K H ys → ys[i]? = some y, fun i H => ∃ ys : List V, S.has K H ys ∧ ys.length = i⟩
theorem turn_E {P : Program} {w : World} {K : PySem.W.Frag} {elts : List Expr} {kk : Nat} {tpos : Pos} (S : Src) (e it : Addr) (hei : e ≠ it) (hef : e ∉ S.ex) (hif : it ∉ S.ex) :
    Turn P w K (.Tuple elts kk tpos) (ItE K S) [e, it] e (fun i h => (∃ old, IsEnum h e it ((i : Nat) : Int) old) ∧ S.own it i h) where
  mem := List.mem_cons_self ..
  obj := fun i h ⟨⟨old, he⟩, ⟨o, ho, hc, hd⟩⟩ b hb => by
    have q : b = e ∨ b = it := by simpa using hb
    rcases q with q | q
    · subst q; exact ⟨_, he, fun _ z => nomatch z⟩
    · subst q; exact ⟨o, ho, fun v z => by rw [hd] at z; cases z⟩
  keep := fun i h h' ⟨⟨old, he⟩, ho⟩ k => ⟨⟨old, k e (by simp) _ he⟩, ho.at fun o z => k it (by simp) o z⟩
  item := by
    rintro X rfl rfl rfl hc i pins s σ H E I hf ⟨⟨old, he⟩, ho⟩ ⟨ys, y, hq, hy⟩
    obtain ⟨Pd, T, D, st, hP, hT⟩ := S.draws (A := X.A.in1) I (I.ok.hd hc) hq it hif ho
    have W := WalksT.enumFrom 0 D e hei (fun z => (List.mem_cons.mp z).elim hei hef) (List.mem_cons_self ..)
    have hlt : i < ys.length := (List.getElem?_eq_some_iff.mp hy).1
    refine W.item i s _ _ hlt ⟨⟨old, by rw [Int.zero_add]; exact he⟩, st⟩ fun Tn vals h1 tk ⟨t, x, px, ev⟩ hsz htup hmid hk => ?_
    subst ev
    refine ⟨_, rfl, W.go elts kk tpos i Tn { s with heap := h1, toks := tk } _ _ hmid fun h2 st2 hk2 => ?_⟩
    obtain ⟨y2, hy2, ry⟩ := hP i x px
    rw [hy] at hy2
    cases hy2
    have hn : H Tn = none := I.hok.fresh hsz
    have ht2 : IsTup h2 Tn #[.int (0 + (i : Int)) t, x] := htup.at fun o z => hk2 Tn o (W.apart i Tn _ hmid) z
    have new : ObjOk X.prog X.w (upd H Tn (.tup [.int (i : Nat), y])) h2 Tn (.tup [.int (i : Nat), y]) :=
      ⟨by show 2 ≤ sizeLine; decide, [.int (0 + (i : Int)) t, x], .cons ⟨t, by rw [Int.zero_add]⟩ (.cons ry .nil), ht2⟩
    have I1 : Inv X pins σ (upd H Tn (.tup [.int (i : Nat), y])) { s with heap := h2, toks := tk } := I.turnedNew (ch := [e, it]) (fun b o hb z => hk2 b o hb (hk b o hb z)) hf hsz new
    obtain ⟨⟨old2, he2⟩, st2'⟩ := st2
    refine ⟨.ref Tn, _, I1, rfl, ⟨Tn, y, rfl, hn, rfl, fun zs hz => by rw [Src.has_inj I hz hq]; exact hy⟩, ⟨⟨old2, by rw [Int.zero_add] at he2; exact he2⟩, hT _ _ st2'⟩, fun b hb => ?_⟩
    have hb' : b < s.heap.objs.size := by
      have q : b = e ∨ b = it := by simpa using hb
      rcases q with q | q
      · subst q; exact Heap.lt_size he
      · subst q; obtain ⟨o, z, _⟩ := ho; exact Heap.lt_size z
    rw [upd_ne (Nat.ne_of_lt (Nat.lt_of_lt_of_le hb' hsz))]
    exact (hf b hb).1
  done := by
    rintro X rfl rfl rfl hc i pins s σ H E I hf ⟨⟨old, he⟩, ho⟩ ⟨ys, hq, hi⟩
    obtain ⟨Pd, T, D, st, hP, hT⟩ := S.draws (A := X.A.in1) I (I.ok.hd hc) hq it hif ho
    have W := WalksT.enumFrom 0 D e hei (fun z => (List.mem_cons.mp z).elim hei hef) (List.mem_cons_self ..)
    subst hi
    exact W.done s _ _ ⟨⟨old, by rw [Int.zero_add]; exact he⟩, st⟩ fun h' tk hk => ⟨rfl, I.turnedL (ch := [e, it]) hk hf⟩
  self := fun A i s Q E ⟨⟨_, he⟩, _⟩ h => wpAny_pyIter_enum he h

/-- the items at S1 and S2 in new pairs -/
def ItP (K : PySem.W.Frag) (S1 S2 : Src) : It :=
  ⟨fun i H => ∃ (xs ys : List V) (x y : V), S1.has K H xs ∧ S2.has K H ys ∧ xs[i]? = some x ∧ ys[i]? = some y,
    fun i H v H' => ∃ T x y, v = .ref T ∧ H T = none ∧ H' = upd H T (.tup [x, y]) ∧ (∀ xs, S1.has K H xs → xs[i]? = some x) ∧ ∀ ys, S2.has K H ys → ys[i]? = some y,
    fun i H => ∃ xs ys : List V, S1.has K H xs ∧ S2.has K H ys ∧ i = min xs.length ys.length⟩
theorem turn_P {P : Program} {w : World} {K : PySem.W.Frag} {elts : List Expr} {kk : Nat} {tpos : Pos} (S1 S2 : Src) {z TI TO i1 i2 : Addr} (Z : ZipSep2 z TI TO i1 i2 (i1 :: S1.ex) (i2 :: S2.ex)) (n1 : i1 ∉ S1.ex) (n2 : i2 ∉ S2.ex) :
    Turn P w K (.Tuple elts kk tpos) (ItP K S1 S2) [z, TI, TO, i1, i2] z (fun i h => IsZip h z TI TO .none ∧ IsTupOf2 h TI (.ref i1) (.ref i2) ∧ (∃ a b, IsTupOf2 h TO a b) ∧ S1.own i1 i h ∧ S2.own i2 i h) where
  mem := List.mem_cons_self ..
  obj := fun i h ⟨hz, hI, ⟨a, b, hO⟩, ⟨o1, e1, _, d1⟩, ⟨o2, e2, _, d2⟩⟩ c hc => by
    have q : c = z ∨ c = TI ∨ c = TO ∨ c = i1 ∨ c = i2 := by simpa using hc
    rcases q with q | q | q | q | q <;> subst q
    · exact ⟨_, hz, fun _ z => nomatch z⟩
    · exact ⟨_, hI, fun _ z => nomatch z⟩
    · exact ⟨_, hO, fun _ z => nomatch z⟩
    · exact ⟨o1, e1, fun v z => by rw [d1] at z; cases z⟩
    · exact ⟨o2, e2, fun v z => by rw [d2] at z; cases z⟩
  keep := fun i h h' ⟨hz, hI, ⟨a, b, hO⟩, h1, h2⟩ k => ⟨k z (by simp) _ hz, k TI (by simp) _ hI, ⟨a, b, k TO (by simp) _ hO⟩, h1.at fun o q => k i1 (by simp) o q, h2.at fun o q => k i2 (by simp) o q⟩
  item := by
    rintro X rfl rfl rfl hc i pins s σ H E I hf ⟨hz, hI, ⟨a, b, hO⟩, h1, h2⟩ ⟨xs, ys, x, y, hqx, hqy, hx, hy⟩
    obtain ⟨P1, T1, D1, st1, hP1, hT1⟩ := S1.draws (A := X.A.in1) I (I.ok.hd hc) hqx i1 n1 h1
    obtain ⟨P2, T2, D2, st2, hP2, hT2⟩ := S2.draws (A := X.A.in1) I (I.ok.hd hc) hqy i2 n2 h2
    have W := WalksT.zipD2 Z D1 D2
    have l1 : i < xs.length := (List.getElem?_eq_some_iff.mp hx).1
    have l2 : i < ys.length := (List.getElem?_eq_some_iff.mp hy).1
    refine W.item i s _ _ (Nat.lt_min.mpr ⟨l1, l2⟩) ⟨hz, hI, ⟨a, b, hO⟩, st1, st2⟩ fun Tn vals g1 tk ⟨u1, u2, p1, p2, ev⟩ hsz htup hmid hk => ?_
    subst ev
    refine ⟨_, rfl, W.go elts kk tpos i Tn { s with heap := g1, toks := tk } _ _ hmid fun g2 st3 hk2 => ?_⟩
    obtain ⟨x2, hx2, rx⟩ := hP1 i u1 p1
    obtain ⟨y2, hy2, ry⟩ := hP2 i u2 p2
    rw [hx] at hx2
    rw [hy] at hy2
    cases hx2
    cases hy2
    have hn : H Tn = none := I.hok.fresh hsz
    have ht2 : IsTup g2 Tn #[u1, u2] := htup.at fun o q => hk2 Tn o (W.apart i Tn _ hmid) q
    have new : ObjOk X.prog X.w (upd H Tn (.tup [x, y])) g2 Tn (.tup [x, y]) := ⟨by show 2 ≤ sizeLine; decide, [u1, u2], .cons rx (.cons ry .nil), ht2⟩
    have hw : ∀ c, c ∈ [z, TO, i1, i2] → c ∈ [z, TI, TO, i1, i2] := fun c hm => by
      have q : c = z ∨ c = TO ∨ c = i1 ∨ c = i2 := by simpa using hm
      rcases q with q | q | q | q <;> simp [q]
    have I1 : Inv X pins σ (upd H Tn (.tup [x, y])) { s with heap := g2, toks := tk } := I.turnedNew (ch := [z, TI, TO, i1, i2]) (fun c o hb q => hk2 c o (fun m => hb (hw c m)) (hk c o (fun m => hb (hw c m)) q)) hf hsz new
    obtain ⟨hz3, hI3, hO3, st31, st32⟩ := st3
    refine ⟨.ref Tn, _, I1, rfl, ⟨Tn, x, y, rfl, hn, rfl, fun zs q => by rw [Src.has_inj I q hqx]; exact hx, fun zs q => by rw [Src.has_inj I q hqy]; exact hy⟩, ⟨hz3, hI3, hO3, hT1 _ _ st31, hT2 _ _ st32⟩, fun c hcm => ?_⟩
    have hlt : c < s.heap.objs.size := by
      have q : c = z ∨ c = TI ∨ c = TO ∨ c = i1 ∨ c = i2 := by simpa using hcm
      rcases q with q | q | q | q | q <;> subst q
      · exact Heap.lt_size hz
      · exact Heap.lt_size hI
      · exact Heap.lt_size hO
      · obtain ⟨o, q, _⟩ := h1; exact Heap.lt_size q
      · obtain ⟨o, q, _⟩ := h2; exact Heap.lt_size q
    rw [upd_ne (Nat.ne_of_lt (Nat.lt_of_lt_of_le hlt hsz))]
    exact (hf c hcm).1
  done := by
    rintro X rfl rfl rfl hc i pins s σ H E I hf ⟨hz, hI, ⟨a, b, hO⟩, h1, h2⟩ ⟨xs, ys, hqx, hqy, hi⟩
    obtain ⟨P1, T1, D1, st1, hP1, hT1⟩ := S1.draws (A := X.A.in1) I (I.ok.hd hc) hqx i1 n1 h1
    obtain ⟨P2, T2, D2, st2, hP2, hT2⟩ := S2.draws (A := X.A.in1) I (I.ok.hd hc) hqy i2 n2 h2
    have W := WalksT.zipD2 Z D1 D2
    subst hi
    refine W.done s _ _ ⟨hz, hI, ⟨a, b, hO⟩, st1, st2⟩ fun h' tk hk => ⟨rfl, I.turnedL (ch := [z, TI, TO, i1, i2]) (fun c o hb q => hk c o (fun m => hb ?_) q) hf⟩
    have q : c = z ∨ c = TO ∨ c = i1 ∨ c = i2 := by simpa using m
    rcases q with q | q | q | q <;> simp [q]
  self := fun A i s Q E st h => wpAny_pyIter_zip st.1 h

/-! ### enumerate of one thing -/
theorem meets_enum1 {v : Value} {o : Obj} {F : Heap → Prop} (B : Begins v o F) :
    Meets (Builtin.«enumerate.__new__» ⟨[.type "enumerate", v], []⟩) (fun _ R s => F s.heap ∧
      R (.ok (.ret (.ref (s.heap.push o).objs.size))) { s with heap := (s.heap.push o).push { cls := .type "enumerate", data := .fields #[.none, .bool false, .ref s.heap.objs.size, rawInt 0, .none, .none] } }) :=
  .of_wp fun prog w A R s h => by
    obtain ⟨hp, gn, dr, tk, os⟩ := s
    obtain ⟨h1, h⟩ := h
    have hsub := sub_enumerate
    have q1 : ∀ {A' : Around} {E : Value → Shared → Prop} {Q : Value → Shared → Prop}, Q (.ref hp.objs.size) ⟨hp.push o, gn, dr, tk, os⟩ → wpAny (model prog w) A' (pyIter v) Q E ⟨hp, gn, dr, tk, os⟩ := fun q => B.iter prog w _ _ ⟨hp, gn, dr, tk, os⟩ _ h1 q
    wp_walk using q1
    refine wpAny_stack_any fun st => wpAny_pure ?_
    split
    · rename_i c _ _ _ _ _
      cases (c == Value.type "enumerate") <;> (wp_walk using q1; exact ⟨_, rfl, h⟩)
    · wp_walk using q1
      exact ⟨_, rfl, h⟩
theorem enum1 {prog : Program} {w : World} {A : Around} {E : Value → Shared → Prop} {s : Shared} {v : Value} {o : Obj} {Fh : Heap → Prop} {Q : Value → Shared → Prop} (B : Begins v o Fh) (h1 : Fh s.heap)
    (h : ∀ h', IsEnum h' (s.heap.objs.size + 1) s.heap.objs.size 0 .none → h'.get? s.heap.objs.size = some o → (∀ b o, s.heap.get? b = some o → h'.get? b = some o) → Q (.ref (s.heap.objs.size + 1)) { s with heap := h' }) :
    wpAny (model prog w) A (call (.type "enumerate") [v]) Q E s := by
  refine callType_new F.called_enumerate (by decide) (F.typeCall_enumerate_1 _) (F.newCall_enumerate_1 _) (fun obj => F.args_object_init_2 obj _) F.entry_enumerate_new (meets_enum1 B) ⟨h1, ?_⟩
  have hz : (s.heap.push o).objs.size = s.heap.objs.size + 1 := Heap.size_push ..
  show _ ∧ _
  rw [hz]
  have he : IsEnum ((s.heap.push o).push { cls := .type "enumerate", data := .fields #[.none, .bool false, .ref s.heap.objs.size, rawInt 0, .none, .none] }) (s.heap.objs.size + 1) s.heap.objs.size 0 .none := by
    have q := Heap.get?_push_size (s.heap.push o) (o := { cls := .type "enumerate", data := .fields #[.none, .bool false, .ref s.heap.objs.size, rawInt 0, .none, .none] }) rfl
    rwa [hz] at q
  exact ⟨⟨_, he, rfl⟩, h _ he (Heap.get?_push_of_some _ (Heap.get?_push_size _ B.free)) fun b o x => Heap.get?_push_of_some _ (Heap.get?_push_of_some _ x)⟩

/-! ### items by values -/
/-- J serves the items xs, as long as what is checked stands -/
def Serves (C : RC) (as0 : List Addr) (H0 : Hp) (J : It) (xs : List VV) (chk : List (Nat × VO)) : Prop :=
  ∀ (i : Nat) (as : List Addr) (G : Hv) (H : Hp), Ext as0 H0 as H → RelG C as G H → stays G chk = true → i ≤ xs.length → match xs[i]? with
    | some x => J.go i H ∧ ∀ v H', J.yld i H v H' → Ext as H as H' ∧ RelG C as G H' ∧ RV C as H' x v
    | none => J.stop i H
def RI (C : RC) : List Addr → Hp → List VV × List (Nat × VO) → It → Prop := fun as H p J => Serves C as H J p.1 p.2
abbrev SndI (X : Cx) (ep : List (Addr × Obj)) (W : WX) (tg e : Expr) (d : DI) : Prop := PI X tg e (tD (rc X ep) W (RI (rc X ep)) d)
theorem stays_append (G : Hv) (b : List (Nat × VO)) : ∀ a : List (Nat × VO), stays G (a ++ b) = (stays G a && stays G b)
  | [] => rfl
  | (i, o) :: r => by
    show (decide (G[i]? = some o) && stays G (r ++ b)) = _
    rw [stays_append G b r, stays, Bool.and_assoc]
/-- the source of a sequence's items -/
theorem src_of {C : RC} {as : List Addr} {G : Hv} {H : Hp} {x : VV} {v : V} {u : Value} {p : List VV × List (Nat × VO)} (rg : RelG C as G H) (rx : RV C as H x v) (e : seqOf G x = some p) (ru : RelV v u) :
    ∃ S : Src, S.val = u ∧ (∃ ys, S.has C.K H ys) ∧ (∀ i, x = .ref i → ∃ a, S = .l a) ∧ ∀ as1 G1 H1, Ext as H as1 H1 → RelG C as1 G1 H1 → stays G1 p.2 = true → ∃ ys, S.has C.K H1 ys ∧ RVs C as1 H1 p.1 ys := by
  have lst : ∀ (i : Nat) (o : VO) (xs : List VV), (o = .lst xs ∨ o = .flst xs) → G[i]? = some o → x = .ref i → p = (xs, [(i, o)]) → ∃ S : Src, S.val = u ∧ (∃ ys, S.has C.K H ys) ∧ (∀ i, x = .ref i → ∃ a, S = .l a) ∧ ∀ as1 G1 H1, Ext as H as1 H1 → RelG C as1 G1 H1 → stays G1 p.2 = true → ∃ ys, S.has C.K H1 ys ∧ RVs C as1 H1 p.1 ys := fun i o xs ho hg ex ep => by
    subst ex
    obtain ⟨a, ha, hv⟩ := rx.ref
    subst hv
    have go : ∀ as1 G1 H1, Ext as H as1 H1 → RelG C as1 G1 H1 → G1[i]? = some o → ∃ ys, SqL C.K H1 a ys ∧ RVs C as1 H1 xs ys := fun as1 G1 H1 e1 rg1 h => by
      obtain ⟨hob, h1, h2⟩ := rg1.at h (e1.at ha)
      rcases ho with ho | ho
      · subst ho
        obtain ⟨ys, h3, h4⟩ := h2
        exact ⟨ys, SqL.of (h3 ▸ h1), h4⟩
      · subst ho
        obtain ⟨ys, h3 | ⟨ob, h3⟩, h4⟩ := h2
        · exact ⟨ys, SqL.of (h3 ▸ h1), h4⟩
        · exact ⟨ys, .inl (.inr ⟨ob, h3 ▸ h1⟩), h4⟩
    refine ⟨.l a, ?_, (go as G H .refl rg hg).imp fun ys q => q.1, fun _ _ => ⟨a, rfl⟩, fun as1 G1 H1 e1 rg1 hs => ?_⟩
    · cases ru; rfl
    · rw [ep] at hs ⊢
      simp only [stays, Bool.and_true, decide_eq_true_eq] at hs
      exact go as1 G1 H1 e1 rg1 hs
  cases x with
  | tup xs =>
    cases e
    obtain ⟨a, ys, hv, ht, hr⟩ := rx.tup
    subst hv
    refine ⟨.t a, ?_, ⟨ys, ht.sq⟩, (fun _ z => nomatch z), fun as1 G1 H1 e1 rg1 hs => ⟨ys, (ht.mono e1.tup).sq, hr.mono e1⟩⟩
    cases ru; rfl
  | str t =>
    cases e
    have hv := rx.str
    have hok := rx.sok
    subst hv
    obtain ⟨k, rfl⟩ := ru
    refine ⟨.s (mkS t) k, rfl, ⟨_, rfl⟩, (fun _ z => nomatch z), fun as1 G1 H1 e1 rg1 hs => ⟨_, rfl, ?_⟩⟩
    have go : ∀ l : List Nat, sOk l = true → RVs C as1 H1 (l.map fun c => VV.str [c]) (l.map fun c => V.str ⟨#[c]⟩) := fun l => by
      induction l with
      | nil => exact fun _ => .nil
      | cons c r ih =>
        intro h
        have h' : decide (c < 1114112) = true ∧ sOk r = true := by simpa [sOk] using h
        exact .cons (.mkStr (by simpa [sOk] using h'.1)) (ih h'.2)
    exact go t hok
  | ref i =>
    unfold seqOf at e
    simp only at e
    cases q : G[i]? with
    | none => rw [q] at e; cases e
    | some o =>
      rw [q] at e
      cases o with
      | lst xs => exact lst i _ xs (.inl rfl) q rfl (Option.some.inj e).symm
      | flst xs => exact lst i _ xs (.inr rfl) q rfl (Option.some.inj e).symm
      | dic _ => cases e
      | ins _ _ => cases e
      | nset _ _ => cases e
  | _ => cases e
section
variable {X : Cx} {ep : List (Addr × Obj)} {W : WX} {tg e : Expr} {d : DE} {p pos : Pos}
theorem serves_seq {C : RC} {as : List Addr} {H : Hp} {J : It} {q : List VV × List (Nat × VO)} {has : Hp → List V → Prop} (hs : ∀ as1 G1 H1, Ext as H as1 H1 → RelG C as1 G1 H1 → stays G1 q.2 = true → ∃ ys, has H1 ys ∧ RVs C as1 H1 q.1 ys)
    (go : ∀ i H ys y, has H ys → ys[i]? = some y → J.go i H) (st : ∀ i H ys, has H ys → ys.length ≤ i → J.stop i H) (yl : ∀ i H v H', J.yld i H v H' → H' = H ∧ ∀ ys, has H ys → ys[i]? = some v) : Serves C as H J q.1 q.2 := by
  intro i as1 G1 H1 e1 rg1 h1 hi
  obtain ⟨ys, hy, r⟩ := hs as1 G1 H1 e1 rg1 h1
  cases hx : q.1[i]? with
  | none => exact st i H1 ys hy (by rw [← r.length]; exact List.getElem?_eq_none_iff.mp hx)
  | some x =>
    obtain ⟨y, hyi, ry⟩ := r.get hx
    refine ⟨go i H1 ys y hy hyi, fun v H' hyl => ?_⟩
    obtain ⟨rfl, hv⟩ := yl i H1 v H' hyl
    have := hv ys hy
    rw [hyi] at this
    cases this
    exact ⟨.refl, rg1, ry⟩
theorem Its_yld {x : Str} {i : Nat} {H : Hp} {v : V} {H' : Hp} (h : (Its x).yld i H v H') : H' = H ∧ (x.cps.toList.map fun c => V.str ⟨#[c]⟩)[i]? = some v := by
  obtain ⟨h1, c, hc, hv⟩ := h
  exact ⟨h1, by simp [hc, hv]⟩
theorem si_seq (hd : SndE X ep W e d) : SndI X ep W tg e (iSeq d) := by
  refine ⟨fun pins s σ H R I h => ?_⟩
  obtain ⟨as, G, S, rg, rs, h⟩ := h
  cases q : d S G with
  | bad => unfold iSeq at h; rw [q] at h; exact h.elim
  | exn y G1 =>
    unfold iSeq at h
    rw [q] at h
    refine (pi_list hd).run pins s σ H R I ⟨as, G, S, rg, rs, ?_⟩
    rw [q]
    exact h
  | ok x G1 =>
    have h : tR (rc X ep) W (RI (rc X ep)) (ofP (seqOf G1 x) G1) as H σ R := by
      unfold iSeq at h
      rw [q] at h
      exact h
    cases z : seqOf G1 x with
    | none => rw [z] at h; exact h.elim
    | some pr =>
      rw [z] at h
      have key : ∀ as1 H1 v, Ext as H as1 H1 → RelG (rc X ep) as1 G1 H1 → RV (rc X ep) as1 H1 x v → ∀ u, RelV v u → ∃ S : Src, S.val = u ∧ (∃ ys, S.has X.K H1 ys) ∧ (∀ i, x = .ref i → ∃ a, S = .l a) ∧ ∀ as2 G2 H2, Ext as1 H1 as2 H2 → RelG (rc X ep) as2 G2 H2 → stays G2 pr.2 = true → ∃ ys, S.has X.K H2 ys ∧ RVs (rc X ep) as2 H2 pr.1 ys :=
        fun as1 H1 v e1 rg1 rx u ru => src_of rg1 rx z ru
      cases x with
      | tup xs =>
        refine (pi_tup hd).run pins s σ H R I ⟨as, G, S, rg, rs, ?_⟩
        rw [q]
        intro as1 H1 v e1 rg1 rx
        obtain ⟨a, ys, hv, ht, hr⟩ := RV.tup rx
        obtain ⟨Sc, hS, _, _, hs⟩ := key as1 H1 v e1 rg1 rx (.ref a) (hv ▸ rfl)
        refine ⟨a, hv, ⟨ys, ht.sq⟩, h as1 H1 _ e1 rg1 ?_⟩
        cases z
        exact serves_seq (has := fun H ys => SqT X.K H a ys) (fun as2 G2 H2 e2 rg2 _ => ⟨ys, (ht.mono e2.tup).sq, hr.mono e2⟩) (fun i H ys y a b => ⟨ys, y, a, b⟩) (fun i H ys a b => ⟨ys, a, b⟩) fun i H v H' y => y
      | str t =>
        refine (pi_str hd).run pins s σ H R I ⟨as, G, S, rg, rs, ?_⟩
        rw [q]
        intro as1 H1 v e1 rg1 rx
        obtain ⟨Sc, hS, _, _, hs⟩ := key as1 H1 v e1 rg1 rx (.str (mkS t) 0) (RV.str rx ▸ ⟨0, rfl⟩)
        refine ⟨mkS t, RV.str rx, h as1 H1 _ e1 rg1 ?_⟩
        cases Sc with
        | s y k =>
          cases hS
          refine serves_seq (has := fun _ ys => ys = (mkS t).cps.toList.map fun c => V.str ⟨#[c]⟩) (fun as2 G2 H2 e2 rg2 w => hs as2 G2 H2 e2 rg2 w) (fun i H ys y a b => ?_) (fun i H ys a b => ?_) fun i H v H' y => ?_
          · subst a
            have := (List.getElem?_eq_some_iff.mp b).1
            show i < (mkS t).cps.size
            simpa using this
          · subst a
            show (mkS t).cps.size ≤ i
            simpa using b
          · obtain ⟨h1, h2⟩ := Its_yld y
            exact ⟨h1, fun ys hy => hy ▸ h2⟩
        | l a => cases hS
        | t a => cases hS
      | ref i =>
        refine (pi_list hd).run pins s σ H R I ⟨as, G, S, rg, rs, ?_⟩
        rw [q]
        intro as1 H1 v e1 rg1 rx
        obtain ⟨a, ha, hv⟩ := RV.ref rx
        obtain ⟨Sc, hS, hy0, hl, hs⟩ := key as1 H1 v e1 rg1 rx (.ref a) (hv ▸ rfl)
        obtain ⟨b, rfl⟩ := hl i rfl
        cases hS
        refine ⟨a, hv, hy0, h as1 H1 _ e1 rg1 ?_⟩
        exact serves_seq (has := fun H ys => SqL X.K H a ys) hs (fun i H ys y a b => ⟨ys, y, a, b⟩) (fun i H ys a b => ⟨ys, a, b⟩) fun i H v H' y => y
      | _ => cases z
theorem mid_ok {i : Int} (h : mid i = true) : -(2 ^ 62) ≤ i ∧ i < 2 ^ 62 := by
  have := Nat.le_of_ble_eq_true h
  omega
theorem serves_range {C : RC} {as : List Addr} {H : Hp} {chk : List (Nat × VO)} : ∀ (n : Nat) (lo : Int), Serves C as H (Itr lo n) (upTo lo n) chk := by
  have len : ∀ (n : Nat) (lo : Int), (upTo lo n).length = n := fun n => by
    induction n with
    | zero => exact fun _ => rfl
    | succ n ih => exact fun lo => by rw [upTo, List.length_cons, ih]
  have get : ∀ (n : Nat) (lo : Int) (i : Nat), i < n → (upTo lo n)[i]? = some (.int (lo + i)) := fun n => by
    induction n with
    | zero => exact fun _ _ h => absurd h (Nat.not_lt_zero _)
    | succ n ih =>
      intro lo i h
      cases i with
      | zero => simp [upTo]
      | succ i =>
        rw [upTo, List.getElem?_cons_succ, ih (lo + 1) i (by omega)]
        congr 2
        omega
  intro n lo i as1 G1 H1 e1 rg1 _ hi
  rw [len] at hi
  by_cases h : i < n
  · rw [get n lo i h]
    refine ⟨h, fun v H' y => ?_⟩
    obtain ⟨rfl, rfl⟩ := y
    exact ⟨.refl, rg1, .mkInt⟩
  · have hz : (upTo lo n)[i]? = none := List.getElem?_eq_none (by rw [len]; omega)
    rw [hz]
    show n ≤ i
    omega
/-- an answer by values, of arguments -/
theorem ti_args {C : RC} {W : WX} {dA : DA} {f : Hv → List VV → Option (List VV × List (Nat × VO))} {σ : St} {H : Hp} {R : It → Hp → Prop} {Q : List V → Hp → Prop} (h : tD C W (RI C) (fun S G => (dA S G).bind fun vs G1 => ofP (f G1 vs) G1) σ H R)
    (k : ∀ as1 G1 H1 vs vs' p, RelG C as1 G1 H1 → RVs C as1 H1 vs vs' → f G1 vs = some p → (∀ J, Serves C as1 H1 J p.1 p.2 → R J H1) → Q vs' H1) : tDA C W dA σ H Q := by
  obtain ⟨as, G, S, rg, rs, h⟩ := h
  refine tD.bind rg rs h fun vs G1 as1 H1 vs' e1 rg1 rs1 rv h1 => ?_
  cases e : f G1 vs with
  | none => rw [e] at h1; exact h1.elim
  | some p =>
    rw [e] at h1
    exact k as1 G1 H1 vs vs' p rg1 rv e fun J hJ => h1 as1 H1 J .refl rg1 hJ
theorem si_range1 {a : Expr} {dA : DA} (ha : SndA X ep W [a] dA) (hg : Gl X "range") (hm : X.mg "range" = none) (hs : starEach [a] X.env = [(false, eval a X.env)] := by rfl) : SndI X ep W tg (.Call (.Name "range" p) [a] [] pos) (iRange1 dA) := by
  refine ⟨fun pins s σ H R I h => (pi_range1 hg hm ha hs).run pins s σ H R I (ti_args (f := fun _ => rangeOf1) h fun as1 G1 H1 vs vs' pr rg1 rv e k => ?_)⟩
  unfold rangeOf1 at e
  split at e
  · rename_i j
    split at e
    · rename_i hj
      cases e
      obtain ⟨v, rfl, rj⟩ := rv.one
      exact ⟨j, by rw [rj.int], (mid_ok hj).1, (mid_ok hj).2, k _ (serves_range _ _)⟩
    · cases e
  · cases e
theorem si_range2 {a b : Expr} {dA : DA} (ha : SndA X ep W [a, b] dA) (hg : Gl X "range") (hm : X.mg "range" = none) (hs : starEach [a, b] X.env = [(false, eval a X.env), (false, eval b X.env)] := by rfl) (hs2 : starEach [b] X.env = [(false, eval b X.env)] := by rfl) :
    SndI X ep W tg (.Call (.Name "range" p) [a, b] [] pos) (iRange2 dA) := by
  refine ⟨fun pins s σ H R I h => (pi_range2 hg hm ha hs hs2).run pins s σ H R I (ti_args (f := fun _ => rangeOf2) h fun as1 G1 H1 vs vs' pr rg1 rv e k => ?_)⟩
  unfold rangeOf2 at e
  split at e
  · rename_i i j
    split at e
    · rename_i hj
      cases e
      obtain ⟨v, u, rfl, r1, r2⟩ := rv.two
      exact ⟨i, j, by rw [r1.int, r2.int], ⟨(mid_ok hj.1).1, (mid_ok hj.1).2, (mid_ok hj.2).1, (mid_ok hj.2).2⟩, k _ (serves_range _ _)⟩
    · cases e
  · cases e
/-- a new pair is laid -/
theorem pair_new {C : RC} {as : List Addr} {G : Hv} {H : Hp} {x y : VV} {u v : V} {T : Addr} (rg : RelG C as G H) (hT : H T = none) (rx : RV C as H x u) (ry : RV C as H y v) : Ext as H as (L2.upd H T (.tup [u, v])) ∧ RelG C as G (L2.upd H T (.tup [u, v])) ∧ RV C as (L2.upd H T (.tup [u, v])) (.tup [x, y]) (.ref T) := by
  have e : Ext as H as (L2.upd H T (.tup [u, v])) := Ext.side hT
  exact ⟨e, rg.side hT, .mkTup (.inl upd_same) (.cons (rx.mono e) (.cons (ry.mono e) .nil))⟩
theorem num_get : ∀ (xs : List VV) (n : Int) (i : Nat), (num n xs)[i]? = xs[i]?.map fun x => .tup [.int (n + i), x]
  | [], _, i => by simp [num]
  | x :: xs, n, 0 => by simp [num]
  | x :: xs, n, i + 1 => by
    rw [num, List.getElem?_cons_succ, List.getElem?_cons_succ, num_get xs (n + 1) i]
    have e : n + 1 + (i : Int) = n + ((i + 1 : Nat) : Int) := by omega
    rw [e]
theorem num_len : ∀ (xs : List VV) (n : Int), (num n xs).length = xs.length
  | [], _ => rfl
  | x :: xs, n => by rw [num, List.length_cons, List.length_cons, num_len xs]
theorem zipV_get : ∀ (xs ys : List VV) (i : Nat) (x y : VV), xs[i]? = some x → ys[i]? = some y → (zipV xs ys)[i]? = some (.tup [x, y])
  | [], _, i, _, _, h, _ => by simp at h
  | _ :: _, [], i, _, _, _, h => by simp at h
  | x :: xs, y :: ys, 0, _, _, h, h' => by simp at h h'; subst h h'; rfl
  | x :: xs, y :: ys, i + 1, _, _, h, h' => by
    rw [zipV, List.getElem?_cons_succ]
    exact zipV_get xs ys i _ _ (by simpa using h) (by simpa using h')
theorem zipV_len : ∀ (xs ys : List VV), (zipV xs ys).length = min xs.length ys.length
  | [], ys => by simp [zipV]
  | x :: xs, [] => by simp [zipV]
  | x :: xs, y :: ys => by rw [zipV, List.length_cons, List.length_cons, List.length_cons, zipV_len xs ys]; omega
theorem serves_E {C : RC} {as : List Addr} {H : Hp} {Sc : Src} {q : List VV × List (Nat × VO)} (hs : ∀ as1 G1 H1, Ext as H as1 H1 → RelG C as1 G1 H1 → stays G1 q.2 = true → ∃ ys, Sc.has C.K H1 ys ∧ RVs C as1 H1 q.1 ys) : Serves C as H (ItE C.K Sc) (num 0 q.1) q.2 := by
  intro i as1 G1 H1 e1 rg1 h1 hi
  obtain ⟨ys, hy, r⟩ := hs as1 G1 H1 e1 rg1 h1
  rw [num_get]
  cases hx : q.1[i]? with
  | none =>
    refine ⟨ys, hy, ?_⟩
    rw [num_len] at hi
    have := List.getElem?_eq_none_iff.mp hx
    rw [← r.length]
    omega
  | some x =>
    obtain ⟨y, hyi, ry⟩ := r.get hx
    refine ⟨⟨ys, y, hy, hyi⟩, fun v H' hyl => ?_⟩
    obtain ⟨T, z, rfl, hT, rfl, hz⟩ := hyl
    have := hz ys hy
    rw [hyi] at this
    cases this
    exact pair_new rg1 hT (by rw [Int.zero_add]; exact .mkInt) ry
theorem serves_P {C : RC} {as : List Addr} {H : Hp} {S1 S2 : Src} {p q : List VV × List (Nat × VO)} (h1 : ∀ as1 G1 H1, Ext as H as1 H1 → RelG C as1 G1 H1 → stays G1 p.2 = true → ∃ ys, S1.has C.K H1 ys ∧ RVs C as1 H1 p.1 ys)
    (h2 : ∀ as1 G1 H1, Ext as H as1 H1 → RelG C as1 G1 H1 → stays G1 q.2 = true → ∃ ys, S2.has C.K H1 ys ∧ RVs C as1 H1 q.1 ys) : Serves C as H (ItP C.K S1 S2) (zipV p.1 q.1) (p.2 ++ q.2) := by
  intro i as1 G1 H1 e1 rg1 hst hi
  rw [stays_append, Bool.and_eq_true] at hst
  obtain ⟨xs, hx, rx⟩ := h1 as1 G1 H1 e1 rg1 hst.1
  obtain ⟨ys, hy, ry⟩ := h2 as1 G1 H1 e1 rg1 hst.2
  rw [zipV_len] at hi
  by_cases hl : i < min p.1.length q.1.length
  · have l1 : i < p.1.length := by omega
    have l2 : i < q.1.length := by omega
    rw [zipV_get _ _ _ _ _ (List.getElem?_eq_getElem l1) (List.getElem?_eq_getElem l2)]
    obtain ⟨u, hu, ru⟩ := rx.get (List.getElem?_eq_getElem l1)
    obtain ⟨v, hv, rv⟩ := ry.get (List.getElem?_eq_getElem l2)
    refine ⟨⟨xs, ys, u, v, hx, hy, hu, hv⟩, fun w H' hyl => ?_⟩
    obtain ⟨T, a, b, rfl, hT, rfl, ha, hb⟩ := hyl
    have a1 := ha xs hx
    have b1 := hb ys hy
    rw [hu] at a1
    rw [hv] at b1
    cases a1
    cases b1
    exact pair_new rg1 hT ru rv
  · have hz : (zipV p.1 q.1)[i]? = none := List.getElem?_eq_none (by rw [zipV_len]; omega)
    rw [hz]
    exact ⟨xs, ys, hx, hy, by rw [← rx.length, ← ry.length]; omega⟩
variable {elts : List Expr} {kk : Nat} {tpos : Pos}
theorem si_enum {a : Expr} {dA : DA} (ha : SndA X ep W [a] dA) (hg : Gl X "enumerate") (hm : X.mg "enumerate" = none) (hs : starEach [a] X.env = [(false, eval a X.env)] := by rfl) : SndI X ep W (.Tuple elts kk tpos) (.Call (.Name "enumerate" p) [a] [] pos) (iEnum dA) := by
  refine ⟨fun pins s σ H R I h => ?_⟩
  refine Call_ (ld_blt I hg hm boot_enumerate (PyProof.Rows.callWith_type1 (thn (ha.run pos pins s σ H (fun vs H1 => ∃ as1 G1 x v q, vs = [v] ∧ RelG (rc X ep) as1 G1 H1 ∧ RV (rc X ep) as1 H1 x v ∧ seqOf G1 x = some q ∧ ∀ J, Serves (rc X ep) as1 H1 J (num 0 q.1) q.2 → R J H1) I ?_) fun us s1 ⟨vs, H1, I1, r1, as1, G1, x, v, q, ev, rg1, rx, hq, k⟩ => ?_) hs rfl))
  · refine ti_args h fun as1 G1 H1 vs vs' pr rg1 rv e k => ?_
    unfold enumOf at e
    split at e
    · rename_i x
      split at e
      · rename_i q hq
        cases e
        obtain ⟨v, rfl, rj⟩ := rv.one
        exact ⟨as1, G1, x, v, q, rfl, rg1, rj, hq, k⟩
      · cases e
    · cases e
  · subst ev
    cases r1 with
    | cons r rr =>
      cases rr
      obtain ⟨Sc, hS, ⟨ys, hy⟩, _, hs'⟩ := src_of rg1 rx hq r
      subst hS
      obtain ⟨its, hf, hx⟩ := Sc.full_of I1 hy
      refine enum1 (Sc.begins its) hf fun h' he hit hk => wpAny_pyIter_enum he ?_
      have I2 : Inv X pins σ H1 { s1 with heap := h' } := I1.kept (t' := s1.toks) hk
      refine ⟨s1.heap.objs.size + 1, [s1.heap.objs.size + 1, s1.heap.objs.size], _, _, H1, rfl, I2, turn_E Sc (s1.heap.objs.size + 1) s1.heap.objs.size (Nat.succ_ne_self _) (fun z => ?_) (fun z => ?_), ⟨⟨.none, he⟩, ⟨_, hit, rfl, rfl⟩⟩, fun b hb => ?_, k _ (serves_E hs')⟩
      · have := hx _ z
        exact absurd this (Nat.not_lt.mpr (Nat.le_succ _))
      · exact absurd (hx _ z) (Nat.lt_irrefl _)
      · have hle : s1.heap.objs.size ≤ b := by
          have q : b = s1.heap.objs.size + 1 ∨ b = s1.heap.objs.size := by simpa using hb
          rcases q with z | z
          · rw [z]; exact Nat.le_succ _
          · rw [z]; exact Nat.le_refl _
        exact I1.fpOk hle (I1.hok.fresh hle)
theorem si_zip {a b : Expr} {dA : DA} (ha : SndA X ep W [a, b] dA) (hg : Gl X "zip") (hm : X.mg "zip" = none) (hs : starEach [a, b] X.env = (false, eval a X.env) :: starEach [b] X.env := by rfl) (hpl : (backTo pos (starEach [b] X.env)).any (·.1) = false := by rfl) :
    SndI X ep W (.Tuple elts kk tpos) (.Call (.Name "zip" p) [a, b] [] pos) (iZip dA) := by
  refine ⟨fun pins s σ H R I h => ?_⟩
  refine Call_ (ld_blt I hg hm PyProof.Rows.boot_zip (PyProof.Rows.callWith_type1 (thn (ha.run pos pins s σ H (fun vs H1 => ∃ as1 G1 x y v u p q, vs = [v, u] ∧ RelG (rc X ep) as1 G1 H1 ∧ RV (rc X ep) as1 H1 x v ∧ RV (rc X ep) as1 H1 y u ∧ seqOf G1 x = some p ∧ seqOf G1 y = some q ∧ ∀ J, Serves (rc X ep) as1 H1 J (zipV p.1 q.1) (p.2 ++ q.2) → R J H1) I ?_) fun us s1 ⟨vs, H1, I1, r1, as1, G1, x, y, v, u, p, q, ev, rg1, rx, ry, hp, hq, k⟩ => ?_) hs hpl))
  · refine ti_args h fun as1 G1 H1 vs vs' pr rg1 rv e k => ?_
    unfold zipOf at e
    split at e
    · rename_i x y
      split at e
      · rename_i p q hp hq
        cases e
        obtain ⟨v, u, rfl, r1, r2⟩ := rv.two
        exact ⟨as1, G1, x, y, v, u, p, q, rfl, rg1, r1, r2, hp, hq, k⟩
      · cases e
    · cases e
  · subst ev
    cases r1 with
    | cons r rr =>
      cases rr with
      | cons r' rr =>
        cases rr
        obtain ⟨S1, hS1, ⟨xs, hx⟩, _, h1⟩ := src_of rg1 rx hp r
        obtain ⟨S2, hS2, ⟨ys, hy⟩, _, h2⟩ := src_of rg1 ry hq r'
        subst hS1 hS2
        obtain ⟨is1, f1, x1⟩ := S1.full_of I1 hx
        obtain ⟨is2, f2, x2⟩ := S2.full_of I1 hy
        refine zip_begins2 (S1.begins is1) (S2.begins is2) f1 f2 fun h' hz hTI hTO o1 o2 hsz hk => wpAny_pyIter_zip hz ?_
        have I2 : Inv X pins σ H1 { s1 with heap := h' } := I1.kept (t' := s1.toks) hk
        refine ⟨s1.heap.objs.size + 4, [s1.heap.objs.size + 4, s1.heap.objs.size + 2, s1.heap.objs.size + 3, s1.heap.objs.size, s1.heap.objs.size + 1], _, _, H1, rfl, I2,
          turn_P S1 S2 (zip_sep2 x1 x2) (fun z => absurd (x1 _ z) (Nat.lt_irrefl _)) (fun z => absurd (x2 _ z) (Nat.not_lt.mpr (Nat.le_succ _))), ⟨hz, hTI, ⟨_, _, hTO⟩, ⟨_, o1, rfl, rfl⟩, ⟨_, o2, rfl, rfl⟩⟩, fun c hcm => ?_, k _ (serves_P h1 h2)⟩
        have hle : s1.heap.objs.size ≤ c := by
          have q : c = s1.heap.objs.size + 4 ∨ c = s1.heap.objs.size + 2 ∨ c = s1.heap.objs.size + 3 ∨ c = s1.heap.objs.size ∨ c = s1.heap.objs.size + 1 := by simpa using hcm
          rcases q with z | z | z | z | z <;> rw [z] <;> first | exact Nat.le_refl _ | exact Nat.le_add_right _ _
        exact I1.fpOk hle (I1.hok.fresh hle)
end
end DL
end S_Rules6
section S_Rules7
set_option Elab.async false
set_option linter.all false
set_option maxRecDepth 100000
set_option maxHeartbeats 2000000
/-! Rules7: statements, targets, loops, comprehensions. -/
namespace DL
open PySem PySem.Spec PyProof.Rows L2
variable [tbs : TabsT] [TC : TabsC]
section
variable {C : RC} {W : WX} {α β : Type} {RR : List Addr → Hp → α → β → Prop}
theorem tO.step {o : O} {as as1 : List Addr} {H H1 : Hp} {D : L2.Ends} (e : Ext as H as1 H1) (h : tO C W o as H D) : tO C W o as1 H1 D := by
  cases o with
  | nx S G => exact fun as' H' σ' e' rg rs => h as' H' σ' (e.trans e') rg rs
  | rt v G => exact fun as' H' v' e' rg rv => h as' H' v' (e.trans e') rg rv
  | bk S G => exact fun as' H' σ' e' rg rs => h as' H' σ' (e.trans e') rg rs
  | ct S G => exact fun as' H' σ' e' rg rs => h as' H' σ' (e.trans e') rg rs
  | exn x S G => exact fun as' H' σ' cls d e' rg rs rx => h as' H' σ' cls d (e.trans e') rg rs rx
  | bad => exact h
/-- an expression in a statement -/
theorem tD.st {d : Env → Hv → R α} {f : α → Hv → O} {as : List Addr} {G : Hv} {S : Env} {σ : St} {H : Hp} {D : L2.Ends} {Q1 : β → Hp → Prop} (rg : RelG C as G H) (rs : RS C as H S σ) (h : tO C W ((d S G).st S f) as H D)
    (k : ∀ x G1 as1 H1 x', Ext as H as1 H1 → RelG C as1 G1 H1 → RS C as1 H1 S σ → RR as1 H1 x x' → tO C W (f x G1) as1 H1 D → Q1 x' H1) : tD C W RR d σ H Q1 := by
  refine ⟨as, G, S, rg, rs, ?_⟩
  cases e : d S G with
  | ok x G1 =>
    rw [e] at h
    exact fun as1 H1 x' e1 rg1 rx => k x G1 as1 H1 x' e1 rg1 (rs.mono e1) rx (tO.step e1 h)
  | exn x G1 =>
    rw [e] at h
    exact fun as1 H1 cls d e1 rg1 rx => h as1 H1 σ cls d e1 rg1 (rs.mono e1) rx
  | bad =>
    rw [e] at h
    exact h
end
section
variable {X : Cx} {ep : List (Addr × Obj)} {W : WX} {pos : Pos}
theorem ss_nil : SndSs X ep W [] dNext := pss_nil.imp fun D σ H ⟨as, G, S, rg, rs, h⟩ => h as H σ .refl rg rs
theorem ss_cons {s : Stmt} {r : List Stmt} {a b : DS} (ha : SndS X ep W s a) (hb : SndSs X ep W r b) : SndSs X ep W (s :: r) (dSeq a b) := (pss_cons ha hb).imp fun D σ H ⟨as, G, S, rg, rs, h⟩ => by
  refine ⟨as, G, S, rg, rs, ?_⟩
  unfold dSeq at h
  cases e : a S G with
  | nx S1 G1 =>
    rw [e] at h
    exact fun as' H' σ' e' rg' rs' => ⟨as', G1, S1, rg', rs', tO.step e' h⟩
  | _ => rw [e] at h; exact h
theorem ss_one {s : Stmt} {a : DS} (ha : SndS X ep W s a) : SndSs X ep W [s] a := pss_one ha
theorem ss_pass : SndS X ep W (.Pass pos) dNext := ps_pass.imp fun D σ H ⟨as, G, S, rg, rs, h⟩ => h as H σ .refl rg rs
theorem ss_break : SndS X ep W (.Break pos) sBreak := ps_break.imp fun D σ H ⟨as, G, S, rg, rs, h⟩ => h as H σ .refl rg rs
theorem ss_continue : SndS X ep W (.Continue pos) sCont := ps_continue.imp fun D σ H ⟨as, G, S, rg, rs, h⟩ => h as H σ .refl rg rs
theorem ss_doc {x j pos pos'} : SndS X ep W (.Expr (.Constant (.str x) j pos) pos') dNext := ps_doc.imp fun D σ H ⟨as, G, S, rg, rs, h⟩ => h as H σ .refl rg rs
theorem ss_bad {s : Stmt} : SndS X ep W s sBad := ps_never.imp fun D σ H ⟨as, G, S, rg, rs, h⟩ => h
theorem ss_expr {e : Expr} {d : DE} (he : SndE X ep W e d) (hs : swapsWith e none pos.line X.env = pure false := by rfl) : SndS X ep W (.Expr e pos) (dExpr d) :=
  (ps_expr he hs).imp fun D σ H ⟨as, G, S, rg, rs, h⟩ => tD.st rg rs h fun x G1 as1 H1 x' e1 rg1 rs1 rx h1 => h1 as1 H1 σ .refl rg1 rs1
theorem ss_ret {e : Expr} {d : DE} (he : SndE X ep W e d) : SndS X ep W (.Return (some e) pos) (dRet d) :=
  (ps_ret he).imp fun D σ H ⟨as, G, S, rg, rs, h⟩ => tD.st rg rs h fun x G1 as1 H1 x' e1 rg1 rs1 rx h1 => h1 as1 H1 x' .refl rg1 rx
theorem ss_retN : SndS X ep W (.Return none pos) dRetN := ps_retN.imp fun D σ H ⟨as, G, S, rg, rs, h⟩ => h as H .non .refl rg .mkNon
theorem ss_if {c : Expr} {p q : List Stmt} {t : DT} {a b : DS} (hc : SndT X ep W c t) (ha : SndSs X ep W p a) (hb : SndSs X ep W q b) : SndS X ep W (.If c p q pos) (sIf t a b) :=
  (ps_if hc ha hb).imp fun D σ H ⟨as, G, S, rg, rs, h⟩ => tD.st rg rs h fun x G1 as1 H1 x' e1 rg1 rs1 rx h1 => by
    obtain rfl : x = x' := rx
    cases x with
    | true => exact ⟨as1, G1, S, rg1, rs1, h1⟩
    | false => exact ⟨as1, G1, S, rg1, rs1, h1⟩
/-! ### targets: what is written lies in ws -/
end
def Same (ws : List Nat) (σ σ' : St) : Prop := σ'.length = σ.length ∧ ∀ j, j ∉ ws → σ'[j]? = σ[j]?
theorem Same.refl {ws : List Nat} {σ : St} : Same ws σ σ := ⟨rfl, fun _ _ => rfl⟩
theorem Same.trans {ws : List Nat} {a b c : St} (h : Same ws a b) (k : Same ws b c) : Same ws a c := ⟨k.1.trans h.1, fun j hj => (k.2 j hj).trans (h.2 j hj)⟩
theorem Same.sub {ws vs : List Nat} {a b : St} (h : Same ws a b) (k : ∀ j ∈ ws, j ∈ vs) : Same vs a b := ⟨h.1, fun j hj => h.2 j fun m => hj (k j m)⟩
section
variable (C : RC) (W : WX)
def tDw (ws : List Nat) (d : DG) : TG := fun v σ H Q => ∃ as G S x, RelG C as G H ∧ RS C as H S σ ∧ RV C as H x v ∧ tO C W (d x S G) as H { nx := fun σ' H' => Same ws σ σ' → Q σ' H', rt := fun _ _ => False }
def tDws (ws : List Nat) (ds : List DG) : TGs := fun vs σ H Q => ∃ as G S xs, RelG C as G H ∧ RS C as H S σ ∧ RVs C as H xs vs ∧ xs.length = ds.length ∧ tO C W (gAll ds xs S G) as H { nx := fun σ' H' => Same ws σ σ' → Q σ' H', rt := fun _ _ => False }
end
abbrev SndW' (X : Cx) (ep : List (Addr × Obj)) (W : WX) (ws : List Nat) (e : Expr) (d : DG) : Prop := PG X e (tDw (rc X ep) W ws d)
abbrev SndGs (X : Cx) (ep : List (Addr × Obj)) (W : WX) (ws : List Nat) (es : List Expr) (ds : List DG) : Prop := PGs X es (tDws (rc X ep) W ws ds)
theorem _root_.L2.PGs.imp {X : Cx} {e : List Expr} {t t' : TGs} (h : PGs X e t) (i : ∀ v σ H Q, t' v σ H Q → t v σ H Q) : PGs X e t' := ⟨fun pins s σ H v u Q I r q => h.run pins s σ H v u Q I r (i v σ H Q q)⟩
section
variable {X : Cx} {ep : List (Addr × Obj)} {W : WX} {pos : Pos}
theorem sg_name (i : Nat) {x : Str} (hN : X.N.Nodup := by assumption) (hi : X.N[i]? = some x := by rfl) (hx : Loc X.env.scope x := by first | exact .inl rfl | exact .inr rfl) (hf : X.fn x = true ∨ X.env.scope.names.lookup x = some .local := by first | exact .inr rfl | exact .inl rfl) : SndW' X ep W [i] (.Name x pos) (gName i) :=
  (pg_name hN hi hx hf).imp fun v σ H Q ⟨as, G, S, x, rg, rs, rx, h⟩ => h as H _ .refl rg (rs.set i rx) ⟨by simp, fun j hj => List.getElem?_set_ne (fun e => hj (by simp [e]))⟩
theorem sgs_nil : SndGs X ep W [] [] [] := pgs_nil.imp fun v σ H Q ⟨as, G, S, xs, rg, rs, rx, hl, h⟩ => by
  cases xs with
  | nil =>
    rw [RVs] at rx
    exact ⟨rx, h as H σ .refl rg rs .refl⟩
  | cons _ _ => exact absurd hl (by simp)
theorem sgs_cons {e : Expr} {es : List Expr} {ws vs : List Nat} {g : DG} {gs : List DG} (hg : SndW' X ep W ws e g) (hr : SndGs X ep W vs es gs) (hs : (assignEach (e :: es) X.env).map (·.2) = assign e X.env :: (assignEach es X.env).map (·.2) := by rfl) : SndGs X ep W (ws ++ vs) (e :: es) (g :: gs) :=
  (pgs_cons hg hr hs).imp fun v σ H Q ⟨as, G, S, xs, rg, rs, rx, hl, h⟩ => by
    cases xs with
    | nil => exact absurd hl (by simp)
    | cons x xs =>
      obtain ⟨y, ys, rfl, r1, r2⟩ := (by rw [RVs] at rx; exact rx : ∃ y zs, v = y :: zs ∧ RV _ as H x y ∧ RVs _ as H xs zs)
      refine ⟨y, ys, rfl, as, G, S, x, rg, rs, r1, ?_⟩
      unfold gAll gRun at h
      cases e : g x S G with
      | nx S1 G1 =>
        rw [e] at h
        refine fun as1 H1 σ1 e1 rg1 rs1 sm1 => ⟨as1, G1, S1, xs, rg1, rs1, r2.mono e1, by simpa using hl, ?_⟩
        have h1 := tO.step e1 h
        simp only at h1
        cases q : gAll gs xs S1 G1 with
        | nx S2 G2 =>
          rw [q] at h1
          exact fun as2 H2 σ2 e2 rg2 rs2 sm2 => h1 as2 H2 σ2 e2 rg2 rs2 ((sm1.sub fun j m => List.mem_append_left _ m).trans (sm2.sub fun j m => List.mem_append_right _ m))
        | _ => rw [q] at h1; exact h1
      | exn z S1 G1 => rw [e] at h; exact h
      | _ => rw [e] at h; exact h.elim
theorem sg_tup {es : List Expr} {k n : Nat} {ws : List Nat} {gs : List DG} (hc : X.calm = true) (h : SndGs X ep W ws es gs) (hn : gs.length = n := by rfl) (hl : (assignEach es X.env).length = n := by rfl) (hst : (assignEach es X.env).findIdx? (·.1) = none := by rfl) : SndW' X ep W ws (.Tuple es k pos) (gTup gs) :=
  (pg_tup hc h hl hst).imp fun v σ H Q ⟨as, G, S, x, rg, rs, rx, h⟩ => by
    cases x with
    | tup xs =>
      obtain ⟨a, ys, rfl, ht, r⟩ := rx.tup
      unfold gTup at h
      simp only at h
      split at h
      · rename_i hlen
        exact ⟨a, ys, rfl, ht.sq, by rw [← r.length, hlen, hn], as, G, S, xs, rg, rs, r, hlen, h⟩
      · exact h.elim
    | _ => exact h.elim
theorem sg_sub {a b : Expr} {da db : DE} (ha : SndE X ep W a da) (hb : SndE X ep W b db)
    (he : ∀ v, assign (.Subscript a b pos) X.env v = (do
      let ov ← holding [v] (eval a X.env)
      let iv ← holding [v, ov] (eval b X.env)
      standAt pos
      holding [v, ov, iv] (setItem ov iv v)
      release [v, ov, iv] []) := by intro _; rfl) : SndW' X ep W [] (.Subscript a b pos) (gSub da db) :=
  (pg_sub ha hb set_list he).imp fun v σ H Q ⟨as, G, S, x, rg, rs, rx, h⟩ => tD.st rg rs h fun y G1 as1 H1 y' e1 rg1 rs1 ry h1 => tD.st rg1 rs1 h1 fun z G2 as2 H2 z' e2 rg2 rs2 rz h2 => by
    split at h2
    · rename_i i k
      split at h2
      · rename_i xs hxs
        split at h2
        · rename_i j hj
          obtain ⟨p, ys, hp, hv, hH, hr⟩ := RV.lst rg2 (ry.mono e2) hxs
          refine ⟨p, ys, k, j, hv, rz.int, hH, by rw [← hr.length]; exact hj, ?_⟩
          have e3 : Ext as2 H2 as2 (L2.upd H2 p (.lst (ys.set j v))) := Ext.wr (fun ws => by rw [hH]; simp) (.inl (List.mem_of_getElem? hp))
          exact h2 as2 _ σ e3 (rg2.write hp (fun ws => by rw [hH]; simp) ⟨_, rfl, RVs.set (rx.mono (e1.trans e2)) j hr⟩) (rs2.mono e3) .refl
        · exact h2.elim
      · exact h2.elim
    · exact h2.elim
theorem assign_attr (o : Expr) (x : Str) (v : Value) : assign (.Attribute o x pos) X.env v = (do
    let ov ← holding [v] (eval o X.env)
    standAt pos.atName
    holding [v, ov] (setAttr ov x v)
    release [v, ov] []) := by rfl
theorem sg_fld {c f : Nat} {Ca : Addr} {x : Str} {a : Expr} {da : DE} (T : ClsOk X.K X.mg c Ca) (n : NoAttr X.K Ca x) (hx : nameOf f = x) (ha : SndE X ep W a da) : SndW' X ep W [] (.Attribute a x pos) (gFld c f da) := by
  refine ⟨fun pins s σ H v u Q I r h => ?_⟩
  obtain ⟨as, G, S, y, rg, rs, ry, h⟩ := h
  have hd : tDE (rc X ep) W da σ H fun o' H1 => ∃ p dx fs, o' = .ref p ∧ H1 p = some (.ins Ca dx fs) ∧ fs.length < 1000 ∧ Q σ (L2.upd H1 p (.ins Ca dx (putF x v fs))) :=
    tD.st rg rs h fun o G1 as1 H1 o' e1 rg1 rs1 ro h1 => by
      split at h1
      · rename_i i
        split at h1
        · rename_i d fs hfs
          split at h1
          · rename_i hc
            obtain ⟨rfl, hlen⟩ := hc
            obtain ⟨p, C2, dx, ys, hp, hv, hm, hH, hf⟩ := RV.ins rg1 ro hfs
            have hC := T.same hm
            subst hC hx
            refine ⟨p, dx, ys, hv, hH, by rw [← hf.length]; exact hlen, ?_⟩
            have e2 : Ext as1 H1 as1 (L2.upd H1 p (.ins C2 dx (putF (nameOf f) v ys))) := Ext.wr (fun ws => by rw [hH]; simp) (.inl (List.mem_of_getElem? hp))
            exact h1 as1 _ σ e2 (rg1.write hp (fun ws => by rw [hH]; simp) ⟨C2, dx, _, hm, rfl, RFs.put f (ry.mono e1) hf⟩) (rs1.mono e2) .refl
          · exact h1.elim
        · exact h1.elim
      · exact h1.elim
  rw [assign_attr]
  refine wpAny_bind (wpAny_holding (thn (ha.run pins s σ H _ I hd) fun ov s1 ⟨o', H1, I1, r1, p, dx, fs, eo, hH, hl, q⟩ => ?_))
  subst eo
  cases r1
  refine wpAny_bind (wpAny_standAt (wpAny_bind (wpAny_holding (setattr_ok I1 hH T.cl n hl r fun s2 I2 => ?_))))
  exact wpAny_release ⟨σ, _, I2, q⟩
/-! ### stores -/
theorem asg_imp {C : RC} {te : TE} {ws : List Nat} {d : DE} {g : DG} {D : L2.Ends} {σ : St} {H : Hp} (h : tDS C W (sAsg d g) D σ H) (k : ∀ Q, tDE C W d σ H Q → te σ H Q) : tAsg te (tDw C W ws g) D σ H := by
  obtain ⟨as, G, S, rg, rs, h⟩ := h
  refine k _ (tD.st rg rs h fun x G1 as1 H1 x' e1 rg1 rs1 rx h1 => ⟨as1, G1, S, x, rg1, rs1, rx, ?_⟩)
  unfold gRun at h1
  cases q : g x S G1 with
  | nx S2 G2 => rw [q] at h1; exact fun as2 H2 σ2 e2 rg2 rs2 _ => h1 as2 H2 σ2 e2 rg2 rs2
  | exn y S2 G2 => rw [q] at h1; exact h1
  | _ => rw [q] at h1; exact h1.elim
theorem ss_asg {tg e : Expr} {d : DE} {ws : List Nat} {g : DG} (he : SndE X ep W e d) (hg : SndW' X ep W ws tg g) (hs : swapsWithSole [tg] e pos.line X.env = pure false := by rfl) (hw : swappedStores [tg] e X.env = pure none := by rfl)
    (h1 : (assignEach [tg] X.env).map (·.2) = [assign tg X.env] := by rfl) : SndS X ep W (.Assign [tg] e pos) (sAsg d g) :=
  (ps_asg he hg hs hw h1).imp fun D σ H h => asg_imp h fun Q q => q
/-- a, b = x, y with plain local names -/
theorem RVs.three {C : RC} {as : List Addr} {H : Hp} {x y z : VV} {vs : List V} (h : RVs C as H [x, y, z] vs) : ∃ v u w, vs = [v, u, w] ∧ RV C as H x v ∧ RV C as H y u ∧ RV C as H z w := by
  obtain ⟨v, zs, rfl, r, t⟩ := (by rw [RVs] at h; exact h : ∃ y' zs, vs = y' :: zs ∧ RV C as H x y' ∧ RVs C as H [y, z] zs)
  obtain ⟨u, w, rfl, ru, rw'⟩ := RVs.two t
  exact ⟨v, u, w, rfl, r, ru, rw'⟩
theorem ss_par2 {i j : Nat} {x y : Str} {a b : Expr} {da : DA} {px py pt : Pos} {kt k2 pt2} (hc : X.calm = true) (ha : SndA X ep W [a, b] da) (hN : X.N.Nodup) (hi : X.N[i]? = some x) (hj : X.N[j]? = some y) (hij : i ≠ j)
    (hx : X.env.scope.names.lookup x = some .local) (hy : X.env.scope.names.lookup y = some .local)
    (hw : swappedStores [.Tuple [.Name x px, .Name y py] kt pt] (.Tuple [a, b] k2 pt2) X.env = pure (some [x, y]))
    (hs : swapsWithSole [.Tuple [.Name x px, .Name y py] kt pt] (.Tuple [a, b] k2 pt2) pos.line X.env = pure false) :
    SndS X ep W (.Assign [.Tuple [.Name x px, .Name y py] kt pt] (.Tuple [a, b] k2 pt2) pos) (sAsg (dTup da) (gTup [gName i, gName j])) :=
  (ps_par hc hN hi hj hij hx hy ha hw hs).imp fun D σ H ⟨as, G, S, rg, rs, h⟩ => by
    unfold sAsg dTup at h
    refine tD.st (D := D) (f := fun vs G1 => if vs.length ≤ LIM then gRun (gTup [gName i, gName j] (.tup vs) S G1) O.nx else .bad) rg rs ?_ fun vs G1 as1 H1 vs' e1 rg1 rs1 rv h1 => ?_
    · cases e : da S G with
      | ok vs G1 =>
        rw [e] at h
        simp only [R.bind_ok] at h
        show tO _ _ (if vs.length ≤ LIM then _ else _) _ _ _
        split at h
        · rename_i hl
          rw [if_pos hl]
          exact h
        · exact h.elim
      | exn y G1 => rw [e] at h; exact h
      | bad => rw [e] at h; exact h
    · split at h1
      · match vs, rv, h1 with
        | [p, q], rv, h1 =>
          obtain ⟨v, w, rfl, r1, r2⟩ := rv.two
          exact ⟨v, w, rfl, h1 as1 H1 _ .refl rg1 ((rs1.set i r1).set j r2)⟩
        | [], _, h1 => exact h1.elim
        | [_], _, h1 => exact h1.elim
        | _ :: _ :: _ :: _, _, h1 => exact (by simpa [gTup, gRun, sBad, tO] using h1 : False).elim
      · exact h1.elim
theorem ss_par3 {i j l : Nat} {x y z : Str} {a b c : Expr} {da : DA} {px py pz pt : Pos} {kt k2 pt2} (hc : X.calm = true) (ha : SndA X ep W [a, b, c] da) (hN : X.N.Nodup) (hi : X.N[i]? = some x) (hj : X.N[j]? = some y) (hl : X.N[l]? = some z) (hij : i ≠ j) (hil : i ≠ l) (hjl : j ≠ l)
    (hx : X.env.scope.names.lookup x = some .local) (hy : X.env.scope.names.lookup y = some .local) (hz : X.env.scope.names.lookup z = some .local)
    (hw : swappedStores [.Tuple [.Name x px, .Name y py, .Name z pz] kt pt] (.Tuple [a, b, c] k2 pt2) X.env = pure (some [x, y, z]))
    (hs : swapsWithSole [.Tuple [.Name x px, .Name y py, .Name z pz] kt pt] (.Tuple [a, b, c] k2 pt2) pos.line X.env = pure false) :
    SndS X ep W (.Assign [.Tuple [.Name x px, .Name y py, .Name z pz] kt pt] (.Tuple [a, b, c] k2 pt2) pos) (sAsg (dTup da) (gTup [gName i, gName j, gName l])) :=
  (L2.ps_par3 hc hN hi hj hl hij hil hjl hx hy hz ha hw hs).imp fun D σ H ⟨as, G, S, rg, rs, h⟩ => by
    unfold sAsg dTup at h
    refine tD.st (D := D) (f := fun vs G1 => if vs.length ≤ LIM then gRun (gTup [gName i, gName j, gName l] (.tup vs) S G1) O.nx else .bad) rg rs ?_ fun vs G1 as1 H1 vs' e1 rg1 rs1 rv h1 => ?_
    · cases e : da S G with
      | ok vs G1 =>
        rw [e] at h
        simp only [R.bind_ok] at h
        show tO _ _ (if vs.length ≤ LIM then _ else _) _ _ _
        split at h
        · rename_i hl
          rw [if_pos hl]
          exact h
        · exact h.elim
      | exn y G1 => rw [e] at h; exact h
      | bad => rw [e] at h; exact h
    · split at h1
      · match vs, rv, h1 with
        | [p, q, o], rv, h1 =>
          obtain ⟨v, w, u, rfl, r1, r2, r3⟩ := rv.three
          exact ⟨v, w, u, rfl, h1 as1 H1 _ .refl rg1 (((rs1.set i r1).set j r2).set l r3)⟩
        | [], _, h1 => exact h1.elim
        | [_], _, h1 => exact h1.elim
        | [_, _], _, h1 => exact h1.elim
        | _ :: _ :: _ :: _ :: _, _, h1 => exact (by simpa [gTup, gRun, sBad, tO] using h1 : False).elim
      · exact h1.elim
/-- a step of += by values -/
abbrev SndIp (X : Cx) (ep : List (Addr × Obj)) (op : Operator) (f : VV → VV → Hv → Option (VV × Hv)) : Prop :=
  PIp X op fun x' y' H Q => ∃ as G x y z G1, RelG (rc X ep) as G H ∧ RV (rc X ep) as H x x' ∧ RV (rc X ep) as H y y' ∧ f x y G = some (z, G1) ∧ ∀ as1 H1 z', Ext as H as1 H1 → RelG (rc X ep) as1 G1 H1 → RV (rc X ep) as1 H1 z z' → Q z' H1
theorem pip_imp {op : Operator} {t t' : TIp} (h : PIp X op t) (i : ∀ x y H Q, t' x y H Q → t x y H Q) : PIp X op t' := fun pins s σ H x y v u Q I r1 r2 q => h pins s σ H x y v u Q I r1 r2 (i x y H Q q)
theorem sp_aAdd : SndIp X ep .Add aAdd := pip_imp ip_add fun x' y' H Q ⟨as, G, x, y, z, G1, rg, rx, ry, e, k⟩ => by
  unfold aAdd at e
  split at e
  · rename_i i j
    cases e
    exact ⟨i, j, rx.int, ry.int, k as H _ .refl rg .mkInt⟩
  · cases e
theorem sp_aSub : SndIp X ep .Sub aSub := pip_imp ip_sub fun x' y' H Q ⟨as, G, x, y, z, G1, rg, rx, ry, e, k⟩ => by
  unfold aSub at e
  split at e
  · rename_i i j
    cases e
    exact ⟨i, j, rx.int, ry.int, k as H _ .refl rg .mkInt⟩
  · cases e
theorem ss_aug (i : Nat) {x : Str} {e : Expr} {d : DE} {op : Operator} {f : VV → VV → Hv → Option (VV × Hv)} {pos' : Pos} (ho : SndIp X ep op f) (he : SndE X ep W e d) (hN : X.N.Nodup := by assumption) (hi : X.N[i]? = some x := by rfl) (hx : Loc X.env.scope x := by first | exact .inl rfl | exact .inr rfl) (hf : X.fn x = true ∨ X.env.scope.names.lookup x = some .local := by first | exact .inr rfl | exact .inl rfl) :
    SndS X ep W (.AugAssign (.Name x pos') op e pos) (sAug f i d) :=
  (ps_aug hN hi hx he ho hf).imp fun D σ H ⟨as, G, S, rg, rs, h⟩ => by
    unfold sAug dVar at h
    cases e : S[i]? with
    | none => rw [e] at h; exact h.elim
    | some o =>
      cases o with
      | none => rw [e] at h; exact h.elim
      | some x =>
        rw [e] at h
        obtain ⟨v, h1, rv⟩ := rs.2 i x e
        refine ⟨v, h1, tD.st rg rs h fun y G1 as1 H1 y' e1 rg1 rs1 ry h1 => ?_⟩
        cases q : f x y G1 with
        | none => rw [q] at h1; exact h1.elim
        | some r =>
          obtain ⟨z, G2⟩ := r
          rw [q] at h1
          exact ⟨as1, G1, x, y, z, G2, rg1, rv.mono e1, ry, q, fun as2 H2 z' e2 rg2 rz => h1 as2 H2 _ e2 rg2 ((rs1.mono e2).set i rz)⟩
/-! ### loops -/
theorem ss_while {c : Expr} {body : List Stmt} {t : DT} {b : DS} {N : Nat} (hc : SndT X ep W c t) (hb : SndSs X ep W body b) (hp : PassesOwn (model X.prog X.w) X.A X.env X.xe) : SndS X ep W (.While c body [] pos) (whileN t b N) :=
  (ps_while hp hc hb).imp fun D σ H h => by
    refine ⟨fun m σ H => tDS (rc X ep) W (whileN t b m) D σ H, ⟨N, h⟩, fun m σ H ⟨as, G, S, rg, rs, h⟩ => ?_⟩
    cases m with
    | zero => exact h.elim
    | succ m =>
      refine tD.st rg rs h fun x G1 as1 H1 x' e1 rg1 rs1 rx h1 => ?_
      obtain rfl : x = x' := rx
      cases x with
      | false => exact h1 as1 H1 σ .refl rg1 rs1
      | true =>
        refine ⟨fun σ' H' => tDS (rc X ep) W (whileN t b m) D σ' H', fun σ' H' n => ⟨m, Nat.lt_succ_self m, n⟩, as1, G1, S, rg1, rs1, ?_⟩
        have h1 : tO _ _ (match b S G1 with
          | .nx S2 G2 => whileN t b m S2 G2
          | .ct S2 G2 => whileN t b m S2 G2
          | .bk S2 G2 => .nx S2 G2
          | o => o) as1 H1 D := h1
        cases q : b S G1 with
        | nx S2 G2 => rw [q] at h1; exact fun as2 H2 σ2 e2 rg2 rs2 => ⟨as2, G2, S2, rg2, rs2, tO.step e2 h1⟩
        | ct S2 G2 => rw [q] at h1; exact fun as2 H2 σ2 e2 rg2 rs2 => ⟨as2, G2, S2, rg2, rs2, tO.step e2 h1⟩
        | bk S2 G2 => rw [q] at h1; exact h1
        | rt v G2 => rw [q] at h1; exact h1
        | exn y S2 G2 => rw [q] at h1; exact h1
        | bad => rw [q] at h1; exact h1
theorem ss_for {tg iter : Expr} {body : List Stmt} {di : DI} {ws : List Nat} {g : DG} {b : DS} (hi : SndI X ep W tg iter di) (hg : SndW' X ep W ws tg g) (hb : SndSs X ep W body b) (hc : X.calm = true) (hp : PassesOwn (model X.prog X.w) X.A X.env X.xe) (hs : ∀ x, foldedSetIterable iter X.env x = pure x := by intro _; rfl) :
    SndS X ep W (.For tg iter body [] pos) (sFor di g b) :=
  (ps_for hp hc hi hg hb hs).imp fun D σ H ⟨as, G, S, rg, rs, h⟩ => tD.st rg rs h fun p G1 as1 H1 J e1 rg1 rs1 hJ h1 => by
    obtain ⟨xs, chk⟩ := p
    refine ⟨fun i m σ H => m = xs.length - i ∧ i ≤ xs.length ∧ ∃ as2 G2 S2, Ext as1 H1 as2 H ∧ RelG (rc X ep) as2 G2 H ∧ RS (rc X ep) as2 H S2 σ ∧ tO (rc X ep) W (forL chk g b (xs.drop i) S2 G2) as2 H D, ⟨_, rfl, Nat.zero_le _, as1, G1, S, .refl, rg1, rs1, h1⟩, ?_⟩
    rintro i m σ2 H2 ⟨rfl, hle, as2, G2, S2, e2, rg2, rs2, h2⟩
    have sv := hJ i as2 G2 H2 e2 rg2
    by_cases hlt : i < xs.length
    · have hx : xs[i]? = some xs[i] := List.getElem?_eq_getElem hlt
      rw [List.drop_eq_getElem_cons hlt] at h2
      simp only [forL] at h2
      split at h2
      · rename_i hst
        have sv := sv hst hle
        rw [hx] at sv
        obtain ⟨hgo, hyl⟩ := sv
        refine .inr ⟨hgo, fun σ' H' => ∃ as3 G3 S3, Ext as1 H1 as3 H' ∧ RelG (rc X ep) as3 G3 H' ∧ RS (rc X ep) as3 H' S3 σ' ∧ tO (rc X ep) W (forL chk g b (xs.drop (i + 1)) S3 G3) as3 H' D, fun σ' H' n => ⟨xs.length - (i + 1), by omega, rfl, hlt, n⟩, fun v H' y => ?_⟩
        obtain ⟨e3, rg3, rv⟩ := hyl v H' y
        refine ⟨as2, G2, S2, xs[i], rg3, rs2.mono e3, rv, ?_⟩
        have h3 := tO.step e3 h2
        unfold gRun at h3
        cases q : g xs[i] S2 G2 with
        | nx S4 G4 =>
          rw [q] at h3
          refine fun as4 H4 σ4 e4 rg4 rs4 _ => ⟨as4, G4, S4, rg4, rs4, ?_⟩
          have h4 := tO.step e4 h3
          simp only at h4
          cases q2 : b S4 G4 with
          | nx S5 G5 => rw [q2] at h4; exact fun as5 H5 σ5 e5 rg5 rs5 => ⟨as5, G5, S5, e2.trans (e3.trans (e4.trans e5)), rg5, rs5, tO.step e5 h4⟩
          | ct S5 G5 => rw [q2] at h4; exact fun as5 H5 σ5 e5 rg5 rs5 => ⟨as5, G5, S5, e2.trans (e3.trans (e4.trans e5)), rg5, rs5, tO.step e5 h4⟩
          | bk S5 G5 => rw [q2] at h4; exact h4
          | rt v5 G5 => rw [q2] at h4; exact h4
          | exn y5 S5 G5 => rw [q2] at h4; exact h4
          | bad => rw [q2] at h4; exact h4
        | exn y4 S4 G4 => rw [q] at h3; exact h3
        | _ => rw [q] at h3; exact h3.elim
      · exact h2.elim
    · have hi' : i = xs.length := by omega
      subst hi'
      rw [List.drop_length] at h2
      unfold forL at h2
      split at h2
      · rename_i hst
        have sv := sv hst (Nat.le_refl _)
        rw [List.getElem?_eq_none (Nat.le_refl _)] at sv
        exact .inl ⟨sv, h2 as2 H2 σ2 .refl rg2 rs2⟩
      · exact h2.elim
/-! ### try, where nothing is raised -/
abbrev W0 : WX := fun _ _ _ _ => False
theorem ss_thru {body : List Stmt} {h₀ : ExceptHandler} {hs : List ExceptHandler} {b : DS} (hb : SndSs X.nox ep W0 body b) : SndS X ep W (.Try body (h₀ :: hs) [] [] pos) (sThru b) :=
  (ps_try_thru0 hb).imp fun D σ H ⟨as, G, S, rg, rs, h⟩ => by
    refine ⟨as, G, S, rg, rs, ?_⟩
    unfold sThru at h
    cases e : b S G with
    | exn x S1 G1 => rw [e] at h; exact h.elim
    | nx _ _ => rw [e] at h; exact h
    | rt _ _ => rw [e] at h; exact h
    | bk _ _ => rw [e] at h; exact h
    | ct _ _ => rw [e] at h; exact h
    | bad => rw [e] at h; exact h
/-! ### list comprehensions -/
theorem wipe_get : ∀ (vs : List Nat) (σ : St) (j : Nat), (L2.wipe σ vs)[j]? = if j ∈ vs then σ[j]?.map (fun _ => none) else σ[j]?
  | [], σ, j => by simp [L2.wipe]
  | v :: vs, σ, j => by
    unfold L2.wipe
    by_cases hj : v = j
    · subst hj
      rw [List.getElem?_set_self', wipe_get vs σ v]
      simp only [List.mem_cons_self, if_true]
      by_cases hm : v ∈ vs
      · rw [if_pos hm]; cases σ[v]? <;> rfl
      · rw [if_neg hm]; cases σ[v]? <;> rfl
    · rw [List.getElem?_set_ne hj, wipe_get vs σ j]
      have : (j ∈ v :: vs) = (j ∈ vs) := by simp [Ne.symm hj]
      simp only [this]
theorem wipe_same {vs : List Nat} {σ σ2 : St} (h : Same vs (L2.wipe σ vs) σ2) : L2.wipe σ2 vs = L2.wipe σ vs := by
  refine List.ext_getElem? fun j => ?_
  rw [wipe_get]
  by_cases hj : j ∈ vs
  · rw [if_pos hj, wipe_get, if_pos hj]
    have h1 : (σ2[j]?).isSome = (σ[j]?).isSome := by
      have hl := h.1
      rw [wipe_length] at hl
      rw [Bool.eq_iff_iff]
      simp [hl]
    cases e : σ2[j]? <;> cases e' : σ[j]? <;> rw [e, e'] at h1 <;> first | rfl | cases h1
  · rw [if_neg hj, h.2 j hj]
theorem rs_wipe {C : RC} {as : List Addr} {H : Hp} {S : Env} {σ : St} (h : RS C as H S σ) : ∀ vs : List Nat, RS C as H (DL.wipe S vs) (L2.wipe σ vs)
  | [] => h
  | v :: vs => (rs_wipe h vs).none v none
abbrev SndTs (X : Cx) (ep : List (Addr × Obj)) (W : WX) (es : List Expr) (d : DT) : Prop := PTs X es (tDT (rc X ep) W d)
theorem sts_nil : SndTs X ep W [] DL.tYes := ⟨fun pins s σ H Q I ⟨as, G, S, rg, rs, h⟩ => pts_nil.run pins s σ H Q I (h as H true .refl rg rfl)⟩
theorem sts_one {c : Expr} {t : DT} (h : SndT X ep W c t) : SndTs X ep W [c] t := pts_one h
theorem lc_imp {C : RC} {vs : List Nat} {di : DI} {g : DG} {t : DT} {e : DE} {σ : St} {H : Hp} {Q : VK} (h : tDE C W (dLc vs di g t e) σ H Q) :
    tLc (tD C W (RI C) di) (tDw C W0 vs g) (tDT C W0 t) (tDE C W0 e) vs σ H Q := by
  obtain ⟨as, G, S, rg, rs, h⟩ := h
  refine tD.bind rg rs h fun p G1 as1 H1 J e1 rg1 rs1 hJ h1 => fun D hD => ?_
  obtain ⟨xs, chk⟩ := p
  have eD : Ext as1 H1 (as1 ++ [D]) (L2.upd H1 D (.lst [])) := Ext.new hD
  have rgD : RelG C (as1 ++ [D]) (G1 ++ [.lst []]) (L2.upd H1 D (.lst [])) := rg1.new hD ⟨[], rfl, .nil⟩
  refine ⟨fun i m H => m = xs.length - i ∧ i ≤ xs.length ∧ ∃ as2 G2, Ext (as1 ++ [D]) (L2.upd H1 D (.lst [])) as2 H ∧ RelG C as2 G2 H ∧ tR C W (RV C) (lcL chk g t e vs (DL.wipe S vs) G1.length (xs.drop i) G2) as2 H σ Q, ⟨_, rfl, Nat.zero_le _, _, _, .refl, rgD, tR.step eD h1⟩, ?_⟩
  rintro i m H2 ⟨rfl, hle, as2, G2, e2, rg2, h2⟩
  have rD : RV C as2 H2 (.ref G1.length) (.ref D) := .mkRef (e2.at rg1.newAt)
  have sv := hJ i as2 G2 H2 (eD.trans e2) rg2
  have rs2 : RS C as2 H2 (DL.wipe S vs) (L2.wipe σ vs) := rs_wipe (rs1.mono (eD.trans e2)) vs
  by_cases hlt : i < xs.length
  · have hx : xs[i]? = some xs[i] := List.getElem?_eq_getElem hlt
    rw [List.drop_eq_getElem_cons hlt] at h2
    simp only [lcL] at h2
    split at h2
    · rename_i hst
      have sv := sv hst hle
      rw [hx] at sv
      obtain ⟨hgo, hyl⟩ := sv
      refine .inr ⟨hgo, fun H' => ∃ as3 G3, Ext (as1 ++ [D]) (L2.upd H1 D (.lst [])) as3 H' ∧ RelG C as3 G3 H' ∧ tR C W (RV C) (lcL chk g t e vs (DL.wipe S vs) G1.length (xs.drop (i + 1)) G3) as3 H' σ Q, fun H' n => ⟨xs.length - (i + 1), by omega, rfl, hlt, n⟩, fun v H' y => ?_⟩
      obtain ⟨e3, rg3, rv⟩ := hyl v H' y
      refine ⟨as2, G2, DL.wipe S vs, xs[i], rg3, rs2.mono e3, rv, ?_⟩
      have h3 := tR.step e3 h2
      cases q : g xs[i] (DL.wipe S vs) G2 with
      | nx S4 G4 =>
        rw [q] at h3
        refine fun as4 H4 σ4 e4 rg4 rs4 sm => ⟨wipe_same sm, as4, G4, S4, rg4, rs4, ?_⟩
        have h4 := tR.step e4 h3
        simp only at h4
        cases q2 : t S4 G4 with
        | ok b G5 =>
          rw [q2] at h4
          intro as5 H5 b' e5 rg5 rb
          obtain rfl : b = b' := rb
          have h5 := tR.step e5 h4
          cases b with
          | false =>
            rw [if_neg Bool.false_ne_true]
            exact ⟨as5, G5, e2.trans (e3.trans (e4.trans e5)), rg5, h5⟩
          | true =>
            rw [if_pos rfl]
            refine ⟨as5, G5, S4, rg5, rs4.mono e5, ?_⟩
            simp only at h5
            cases q3 : e S4 G5 with
            | ok y G6 =>
              rw [q3] at h5
              intro as6 H6 y' e6 rg6 ry
              have h6 := tR.step e6 h5
              simp only at h6
              cases q4 : G6[G1.length]? with
              | none => rw [q4] at h6; exact h6.elim
              | some o =>
                rw [q4] at h6
                cases o with
                | lst acc =>
                  simp only at h6
                  split at h6
                  · rename_i hacc
                    have hD6 := (rD.mono (e3.trans (e4.trans (e5.trans e6))))
                    obtain ⟨p, ys, hp, hv, hH, hr⟩ := RV.lst rg6 hD6 q4
                    cases hv
                    refine ⟨ys, hH, ?_, as6, _, (e2.trans (e3.trans (e4.trans (e5.trans e6)))).trans (Ext.wr (fun ws => by rw [hH]; simp) (.inl (List.mem_of_getElem? hp))), rg6.write (o := .lst (acc ++ [y])) hp (fun ws => by rw [hH]; simp) ⟨_, rfl, hr.append (.cons ry .nil)⟩, tR.step (Ext.wr (fun ws => by rw [hH]; simp) (.inl (List.mem_of_getElem? hp))) h6⟩
                    rw [← hr.length]
                    exact hacc
                  · exact h6.elim
                | _ => exact h6.elim
            | exn _ _ => rw [q3] at h5; exact h5.elim
            | bad => rw [q3] at h5; exact h5.elim
        | exn _ _ => rw [q2] at h4; exact h4.elim
        | bad => rw [q2] at h4; exact h4.elim
      | _ => rw [q] at h3; exact h3.elim
    · exact h2.elim
  · have hi' : i = xs.length := by omega
    subst hi'
    rw [List.drop_length] at h2
    unfold lcL at h2
    split at h2
    · rename_i hst
      have sv := sv hst (Nat.le_refl _)
      rw [List.getElem?_eq_none (Nat.le_refl _)] at sv
      exact .inl ⟨sv, h2 as2 H2 _ .refl rg2 rD⟩
    · exact h2.elim
theorem se_lc {elt tg iter : Expr} {ifs : List Expr} {scope : Scope} (own : List (Str × Nat)) {vs : List Nat} {di : DI} {g : DG} {t : DT} {d : DE} (hc : X.calm = true) (hN : X.N.Nodup) (hi : SndI X ep W tg iter di)
    (hg : ∀ (s : Shared) (H : Hp) (C : Addr) (cl : List (Str × Addr)) (fp : List Addr), SndW' (X.blk s H scope (compEnvC scope cl C X.env) fp) ep W0 vs tg g) (ht : ∀ (s : Shared) (H : Hp) (C : Addr) (cl : List (Str × Addr)) (fp : List Addr), SndTs (X.blk s H scope (compEnvC scope cl C X.env) fp) ep W0 ifs t)
    (he : ∀ (s : Shared) (H : Hp) (C : Addr) (cl : List (Str × Addr)) (fp : List Addr), SndE (X.blk s H scope (compEnvC scope cl C X.env) fp) ep W0 elt d) (ok : BlkOk X.N X.env.scope scope own) (hv : own.map (·.2) = vs := by rfl) (hs : ∀ x, foldedSetIterable iter X.env x = pure x := by intro _; rfl) :
    SndE X ep W (.ListComp elt [⟨tg, iter, ifs, 0⟩] scope pos) (dLc vs di g t d) := by
  subst hv
  exact (pe_lc hc hN hi ok hg ht he hs).imp fun σ H Q h => lc_imp h
theorem ss_setLc (i : Nat) {y : Str} {py spos : Pos} {elt tg iter : Expr} {ifs : List Expr} {scope : Scope} (own : List (Str × Nat)) {vs : List Nat} {di : DI} {g : DG} {t : DT} {d : DE} (hc : X.calm = true) (hN : X.N.Nodup) (hi : SndI X ep W tg iter di)
    (hg : ∀ (s : Shared) (H : Hp) (C : Addr) (cl : List (Str × Addr)) (fp : List Addr), SndW' (X.blk s H scope (compEnvC scope cl C X.env) fp) ep W0 vs tg g) (ht : ∀ (s : Shared) (H : Hp) (C : Addr) (cl : List (Str × Addr)) (fp : List Addr), SndTs (X.blk s H scope (compEnvC scope cl C X.env) fp) ep W0 ifs t)
    (he : ∀ (s : Shared) (H : Hp) (C : Addr) (cl : List (Str × Addr)) (fp : List Addr), SndE (X.blk s H scope (compEnvC scope cl C X.env) fp) ep W0 elt d) (ok : BlkOk X.N X.env.scope scope own) (hv : own.map (·.2) = vs := by rfl) (hs : ∀ x, foldedSetIterable iter X.env x = pure x := by intro _; rfl)
    (hy : X.N[i]? = some y := by rfl) (hyl : X.env.scope.names.lookup y = some .local := by rfl) (hsw : swapsWith (.ListComp elt [⟨tg, iter, ifs, 0⟩] scope pos) (some (.Name y py)) spos.line X.env = pure true := by rfl) :
    SndS X ep W (.Assign [.Name y py] (.ListComp elt [⟨tg, iter, ifs, 0⟩] scope pos) spos) (sAsg (dLc vs di g t d) (gName i)) := by
  subst hv
  refine (ps_setLc (g := tDw (rc X ep) W0 _ g) (tt := tDT (rc X ep) W0 t) (te := tDE (rc X ep) W0 d) hc hN hy hyl hsw hi ok hg ht he hs).imp fun D σ H h => ?_
  have q := asg_imp (te := tDE (rc X ep) W (dLc (own.map (·.2)) di g t d)) (ws := [i]) h fun Q q => q
  have z : tDE (rc X ep) W (dLc (own.map (·.2)) di g t d) σ H fun x H1 => L2.gName i x σ H1 D.nx := by
    obtain ⟨as, G, S, rg, rs, h⟩ := h
    exact tD.st rg rs h fun x G1 as1 H1 x' e1 rg1 rs1 rx h1 => h1 as1 H1 _ .refl rg1 (rs1.set i rx)
  exact lc_imp z
end
end DL
end S_Rules7
section S_Rules8
set_option Elab.async false
set_option linter.all false
set_option maxRecDepth 100000
set_option maxHeartbeats 2000000
/-! Rules8: more expressions: constants of the module, keywords, class methods, tables, texts; a def's body. -/
namespace DL
open PySem PySem.Spec PyProof.Rows L2
variable [tbs : TabsT] [TC : TabsC]
theorem DefOk.mono {P : Program} {w : World} {K : PySem.W.Frag} {mg : Str → Option Value} {base : Heap} {j k : Nat} {f : Addr} {ps : List Str} {fn : Fn} (F : DefOk P w K mg base j f ps fn) (h : j ≤ k) : DefOk P w K mg base k f ps fn :=
  ⟨let ⟨fd, a, b, c⟩ := F.ex; ⟨fd, a.mono h, b, c⟩, F.kp, F.ar⟩
/-- values that ask nothing of the heap -/
def RVc (K : PySem.W.Frag) (mg : Str → Option Value) (c : VV) (v : V) : Prop := ∀ ep as H, RV ⟨K, mg, ep⟩ as H c v
structure GlobV (K : PySem.W.Frag) (mg : Str → Option Value) (x : Str) (c : VV) : Prop where
  ex : ∃ u v, mg x = some u ∧ RelV v u ∧ RVc K mg c v
section
variable {X : Cx} {ep : List (Addr × Obj)} {W : WX} {pos p apos : Pos} {x : Str}
theorem se_glob {c : VV} (T : GlobV X.K X.mg x c) (hg : Gl X x) (hd : (x == ("__debug__" : Str)) = false := by decide) : SndE X ep W (.Name x pos) (dC c) := by
  obtain ⟨u, v, hm, r, rv⟩ := T.ex
  exact (pe_glob hg hm r hd).imp fun σ H Q ⟨as, G, S, rg, rs, h⟩ => h as H v .refl rg (rv _ _ _)
theorem se_cls {c : Nat} {Ca : Addr} (T : ClsOk X.K X.mg c Ca) (hx : nameOf c = x) (hg : Gl X x) (hd : (x == ("__debug__" : Str)) = false := by decide) : SndE X ep W (.Name x pos) (dCls c) := by
  subst hx
  exact (pe_glob (v := .ref Ca) hg T.mg rfl hd).imp fun σ H Q ⟨as, G, S, rg, rs, h⟩ => h as H (.ref Ca) .refl rg (by rw [RV]; exact ⟨Ca, T.mg, rfl⟩)
/-! ### keywords -/
abbrev SndK (X : Cx) (ep : List (Addr × Obj)) (W : WX) (es : List Keyword) (d : DA) : Prop := PK X es (tDA (rc X ep) W d)
theorem _root_.L2.PK.imp {X : Cx} {e : List Keyword} {t t' : TA} (h : PK X e t) (i : ∀ σ H Q, t' σ H Q → t σ H Q) : PK X e t' := ⟨fun p pins s σ H Q I q => h.run p pins s σ H Q I (i σ H Q q)⟩
theorem sk_nil : SndK X ep W [] aNil := pk_nil.imp fun σ H Q ⟨as, G, S, rg, rs, h⟩ => h as H [] .refl rg .nil
theorem sk_cons {nm : Option Str} {e : Expr} {kpos : Pos} {kws : List Keyword} {d : DE} {r : DA} (ha : SndE X ep W e d) (hr : SndK X ep W kws r) : SndK X ep W (⟨nm, e, kpos⟩ :: kws) (aCons d r) :=
  (pk_cons ha hr).imp fun σ H Q ⟨as, G, S, rg, rs, h⟩ => tD.bind rg rs h fun x G1 as1 H1 x' e1 rg1 rs1 rx h1 => tD.bind rg1 rs1 h1 fun xs G2 as2 H2 xs' e2 rg2 rs2 rxs h2 => h2 as2 H2 _ .refl rg2 (.cons (rx.mono e2) rxs)
/-- how keywords alone bind -/
structure KwOk (K : PySem.W.Frag) (g : Addr) (ps ks : List Str) (ix : List Nat) : Prop where
  ex : ∃ fd, FdAt K g fd ∧ ∀ (s : Shared) (ws us : List Value), ws.length = ks.length → mapO (fun i => ws[i]?) ix = some us → BindsTo s fd ⟨[], ks.zip ws⟩ (ps.zip us)
theorem FdAt.inj {K : PySem.W.Frag} {g : Addr} {a b : FuncData} (h : FdAt K g a) (k : FdAt K g b) : a = b := by
  obtain ⟨_, _, _, e⟩ := h
  obtain ⟨_, _, _, e'⟩ := k
  rw [e] at e'
  cases e'; rfl
theorem RVs.pick {C : RC} {as : List Addr} {H : Hp} {xs : List VV} {vs : List V} (r : RVs C as H xs vs) : ∀ {ix : List Nat} {ys : List VV}, mapO (fun i => xs[i]?) ix = some ys → ∃ ws, mapO (fun i => vs[i]?) ix = some ws ∧ RVs C as H ys ws
  | [], ys, e => by cases e; exact ⟨[], rfl, .nil⟩
  | i :: ix, ys, e => by
    simp only [mapO] at e
    cases h : xs[i]? with
    | none => rw [h] at e; cases e
    | some x =>
      rw [h] at e
      simp only at e
      cases h2 : mapO (fun i => xs[i]?) ix with
      | none => rw [h2] at e; cases e
      | some zs =>
        rw [h2] at e
        cases e
        obtain ⟨v, hv, rv⟩ := r.get h
        obtain ⟨ws, hw, rw'⟩ := RVs.pick r h2
        exact ⟨v :: ws, by simp only [mapO, hv, hw], .cons rv rw'⟩
theorem Vals_pick {vs : List V} {us : List Value} (r : Vals vs us) : ∀ {ix : List Nat} {ws : List V}, mapO (fun i => vs[i]?) ix = some ws → ∃ zs, mapO (fun i => us[i]?) ix = some zs ∧ Vals ws zs
  | [], ys, e => by cases e; exact ⟨[], rfl, .nil⟩
  | i :: ix, ys, e => by
    simp only [mapO] at e
    cases h : vs[i]? with
    | none => rw [h] at e; cases e
    | some x =>
      rw [h] at e
      simp only at e
      cases h2 : mapO (fun i => vs[i]?) ix with
      | none => rw [h2] at e; cases e
      | some zs =>
        rw [h2] at e
        cases e
        obtain ⟨v, hv, rv⟩ := r.get h
        obtain ⟨ws, hw, rw'⟩ := Vals_pick r h2
        exact ⟨v :: ws, by simp only [mapO, hv, hw], .cons rv rw'⟩
variable {k : Nat} {g : Addr} {ps ks : List Str} {fn : Fn} {es : List Expr} {dr : DA} {e : Expr} {kws : List Keyword} {ix : List Nat} {c : Nat} {Ca : Addr}
/-- a def's promise, run -/
theorem run_any {pins : List (Addr × Obj)} {σ : St} {H : Hp} {s : Shared} {Q : VK} {fd : FuncData} {args : Args} {us : List Value} {vs : List V} {sp : Sp} {E : XK} (F : FnOk X.prog X.w X.K X.mg X.base (L2.CX X.prog X.w) k g fd ps sp) (hr : Room k X.A)
    (hx : PassesAt (L2.CX X.prog X.w) X σ E) (I : Inv X pins σ H s) (hb : BindsTo s fd args (ps.zip us)) (r : Vals vs us) (h : sp vs H Q E) :
    codeAny (model X.prog X.w) X.A (.call (.ref g) args) (fun r s' => match r with | .ok (.ret v) => EP X pins σ Q v s' | .ok _ => False | .error e => X.xe e s') s := by
  refine codeAny_mono (F.run X.A X.stack s H args us vs Q E hr I.env0 hb r h) fun r s' hq => ?_
  match r, hq with
  | .error e, hq => exact hx pins H s e s' I hq
  | .ok (.ret u), hq => exact I.after hq
theorem se_callK (F : DefOk X.prog X.w X.K X.mg X.base k g ps fn) (kw : KwOk X.K g ps ks ix) (ha : SndK X [] W kws dr) (hg : Gl X x) (hm : X.mg x = some (.ref g)) (hr : Room k X.A) (tk : Takes X W)
    (hall : (backToKw pos (keywordEach kws X.env)).all (·.1.isSome) = true := by rfl) (hks : (backToKw pos (keywordEach kws X.env)).filterMap (·.1) = ks := by rfl) (hln : ks.length = kws.length := by rfl)
    (hdb : (x == ("__debug__" : Str)) = false := by decide) (hpl : ((backTo pos (starEach [] X.env)).any (·.1) || (backToKw pos (keywordEach kws X.env)).any (·.1.isNone)) = false := by rfl)
    (hlw : ∀ S G xs G1, dr S G = .ok xs G1 → xs.length = kws.length) :
    SndE X [] W (.Call (.Name x p) [] kws pos) (dCallK fn ix dr) := by
  obtain ⟨⟨fd, F1, F2, F3⟩, kp, ar⟩ := F
  obtain ⟨fd', F4, hb⟩ := kw.ex
  obtain rfl := F3.inj F4
  refine ⟨fun pins s σ H Q I h => ?_⟩
  obtain ⟨as, G, S, rg, rs, h⟩ := h
  refine wpAny_Call_Name_kw (ld_glob I hg hm ?_ hdb)
  refine PySem.W.callWith_KW0 (h₀ := X.base) I.ok.mod.kin kp hall ?_ hpl
  have hd : tDA (rc X []) W dr σ H fun vs H1 => ∃ ws, vs.length = kws.length ∧ mapO (fun i => vs[i]?) ix = some ws ∧ spD X.K X.mg ps.length fn ws H1 Q (fun cls d H' => W cls d σ H') := by
    refine ⟨as, G, S, rg, rs, ?_⟩
    unfold dCallK at h
    cases q : dr S G with
    | bad => rw [q] at h; exact h
    | exn y G1 => rw [q] at h; exact h
    | ok xs G1 =>
      rw [q] at h
      intro as1 H1 vs e1 rg1 rxs
      have h1 := tR.step e1 h
      simp only [R.bind_ok] at h1
      cases z : mapO (fun k => xs[k]?) ix with
      | none => rw [z] at h1; exact h1.elim
      | some ys =>
        rw [z] at h1
        obtain ⟨ws, hw, rw'⟩ := RVs.pick rxs z
        exact ⟨ws, by rw [← RVs.length rxs]; exact hlw _ _ _ _ q, hw, spD_of ar rg1 rw' (tF_of h1)⟩
  refine thn (ha.run pos pins s σ H _ I hd) fun us s1 ⟨vs, H1, I1, r, ws, hl, hw, q⟩ => ⟨I1.kIn, ?_⟩
  rw [hks]
  obtain ⟨zs, hz, rz⟩ := Vals_pick r hw
  exact wpAny_call (run_any F1 hr (L2.passAt tk σ) I1 (hb s1 us zs (by rw [hln, ← r.length]; exact hl) hz) rz q)
theorem alen_nil : ∀ S G xs G1, aNil S G = .ok xs G1 → xs.length = 0 := fun S G xs G1 h => by cases h; rfl
theorem alen_cons {d : DE} {r : DA} {n : Nat} (hr : ∀ S G xs G1, r S G = .ok xs G1 → xs.length = n) : ∀ S G xs G1, aCons d r S G = .ok xs G1 → xs.length = n + 1 := fun S G xs G1 h => by
  unfold aCons at h
  cases q : d S G with
  | ok y G2 =>
    rw [q] at h
    simp only [R.bind_ok] at h
    cases q2 : r S G2 with
    | ok ys G3 =>
      rw [q2] at h
      cases h
      rw [List.length_cons, hr _ _ _ _ q2]
    | exn _ _ => rw [q2] at h; cases h
    | bad => rw [q2] at h; cases h
  | exn _ _ => rw [q] at h; cases h
  | bad => rw [q] at h; cases h
/-! ### class methods -/
structure CmOk (K : PySem.W.Frag) (mg : Str → Option Value) (c : Nat) (Ca : Addr) (m : Str) (g : Addr) : Prop where
  mg : mg (nameOf c) = some (.ref Ca)
  rd : ClX.CRead K Ca (.type "type")
  me : ∃ p, ClX.CMet K Ca (.type "type") m p g
theorem se_callC {y m : Str} {pl : Sem Bool} (F : DefOk X.prog X.w X.K X.mg X.base k g ps fn) (T : CmOk X.K X.mg c Ca m g) (ha : SndA X [] W (e :: es) dr) (hx : nameOf c = y) (hg : Gl X y) (hr : Room k X.A) (tk : Takes X W) (hd : (y == ("__debug__" : Str)) = false := by decide)
    (hst : starEach (e :: es) X.env = (false, eval e X.env) :: starEach es X.env := by rfl) (hpl : (backTo pos (starEach es X.env)).any (·.1) = false := by rfl)
    (ht : eval (.Call (.Attribute (.Name y p) m apos) (e :: es) [] pos) X.env = (do
      let ov ← eval (.Name y p) X.env
      standAt apos.atName
      let (f, first) ← holding [ov] (getMethod ov m pl)
      callWith pos f first (backTo pos (starEach (e :: es) X.env)) (backToKw pos (keywordEach [] X.env))) := by rfl) :
    SndE X [] W (.Call (.Attribute (.Name y p) m apos) (e :: es) [] pos) (dCallC fn c dr) := by
  subst hx
  obtain ⟨⟨fd, F1, F2, F3⟩, kp, ar⟩ := F
  obtain ⟨pm, cm⟩ := T.me
  refine ⟨fun pins s σ H Q I h => ?_⟩
  obtain ⟨as, G, S, rg, rs, h⟩ := h
  have hargs : tDA (rc X []) W dr σ H fun vs H1 => spD X.K X.mg ps.length fn (.ref Ca :: vs) H1 Q fun cls d H' => W cls d σ H' := tD.bind rg rs h fun xs G1 as1 H1 vs e1 rg1 rs1 rxs h1 =>
    spD_of ar rg1 (.cons (by rw [RV]; exact ⟨Ca, T.mg, rfl⟩) rxs) (tF_of h1)
  refine PySem.W.methodCall_KW (pl := pl) (ld_glob I hg T.mg ?_ hd) ht
  refine ClX.getmethcm_ok I T.rd cm fun s2 I2 => ?_
  refine ClX.callwith_cm I2 (ClX.base_none I (Nat.le_refl _)) cm.fi (thn (ha.run pos _ s2 σ H _ I2 hargs) fun us s3 ⟨vs, H2, I3, rv, q2⟩ => ⟨⟨ClX.pin_at I3, I3.kIn⟩, ?_⟩) hst hpl
  have r2 : Vals (.ref Ca :: vs) (Value.ref Ca :: us) := .cons rfl rv
  have hl : ((Value.ref Ca :: us) ++ []).length = ps.length := by rw [List.append_nil, ← r2.length]; exact F1.len _ _ _ _ q2
  have b := F2 s3 (.ref Ca :: us) I3.kIn hl
  rw [List.append_nil] at b
  exact thn (wpAny_call (PySem.W.method_call (ClX.pin_at I3) (run_any F1 hr (L2.passAt tk σ) I3 b r2 q2))) fun _ _ z => ClX.unpinE z
/-- cls(..), cls a local name -/
theorem se_makeV (i : Nat) (F : DefOk X.prog X.w X.K X.mg X.base k g ps fn) (T : ClsOk X.K X.mg c Ca) (M : Mk X.K Ca g) (ha : SndA X [] W (e :: es) dr) (hr : Room (k + 1) X.A) (hN : X.N[i]? = some x := by rfl) (hv : Vis X.env.scope x := by first | exact .inl rfl | exact .inr (.inl rfl) | exact .inr (.inr rfl))
    (hdb : (x == ("__debug__" : Str)) = false := by decide) (hcd : (x == ("__classdict__" : Str)) = false := by decide)
    (he : starEach (e :: es) X.env = (false, eval e X.env) :: starEach es X.env := by rfl) (hpl : (backTo pos (starEach es X.env)).any (·.1) = false := by rfl) :
    SndE X [] W (.Call (.Name x p) (e :: es) [] pos) (dMakeV c fn (dVar i) dr) := by
  obtain ⟨⟨fd, F1, F2, _⟩, kp, ar⟩ := F
  refine ⟨fun pins s σ H Q I h => ?_⟩
  obtain ⟨as, G, S, rg, rs, h⟩ := h
  have h0 : tVar i σ H fun v H1 => v = .ref Ca ∧ H1 = H := by
    unfold dMakeV dVar at h
    cases q : S[i]? with
    | none => rw [q] at h; exact h.elim
    | some o =>
      cases o with
      | none => rw [q] at h; exact h.elim
      | some u =>
        rw [q] at h
        simp only [R.bind_ok] at h
        split at h
        · rename_i hu
          obtain ⟨v, hv2, rv⟩ := rs.2 i u q
          rw [hu, RV] at rv
          obtain ⟨a, ha2, hva⟩ := rv
          have : a = Ca := T.same ha2
          exact ⟨v, hv2, by rw [hva, this], rfl⟩
        · exact h.elim
  have h1 : tDA (rc X []) W dr σ H fun vs H1 => ∀ x dx, H1 x = none → H1 dx = none → dx ≠ x → spD X.K X.mg ps.length fn (.ref x :: (vs ++ [])) (upd (upd H1 dx (.own x)) x (.ins Ca dx [])) (fun v H2 => v = .non ∧ Q (.ref x) H2) E0 := by
    have h2 : tR (rc X []) W (RV (rc X [])) (dMake c fn dr S G) as H σ Q := by
      unfold dMakeV dVar at h
      cases q : S[i]? with
      | none => rw [q] at h; exact h.elim
      | some o =>
        cases o with
        | none => rw [q] at h; exact h.elim
        | some u =>
          rw [q] at h
          simp only [R.bind_ok] at h
          split at h
          · exact h
          · exact h.elim
    exact tD.bind rg rs h2 fun xs G1 as1 H1 vs e1 rg1 rs1 rxs h1 => make_go T ar rg1 rxs h1
  refine wpAny_Call_Name_kw (thn ((pe_var (pos := p) hN hv hdb hcd).run pins s σ H _ I h0) fun u s1 ⟨v, H1, I1, r1, q1⟩ => ?_)
  obtain ⟨rfl, rfl⟩ := q1
  cases r1
  refine PySem.W.callWith_K (h₀ := X.base) I.ok.mod.kin M.kp (thn (ha.run pos pins s1 σ _ _ I1 h1) fun us s2 ⟨vs, H2, I2, r, q⟩ => ⟨I2.kIn, ?_⟩) he hpl
  exact run_make M F1 hr F2 (.nil : Vals [] []) passL I2 r q
/-! ### texts -/
theorem se_fmt {lit : List Nat} {l : Str} {d : DE} {j : Nat} {p1 p2 : Pos} (he : SndE X ep W e d) (hl : l = mkS lit := by first | rfl | decide +kernel) (ok : sOk lit = true := by decide +kernel) (hsz : lit.length ≤ LIM := by decide) :
    SndE X ep W (.JoinedStr [.Constant (.str l) j p1, .FormattedValue e (-1) none p2] pos) (dFmt lit d) := by
  subst hl
  refine (pe_joined (.cons pe_str (.cons (pe_fmt he) .nil))).imp fun σ H Q ⟨as, G, S, rg, rs, h⟩ => ?_
  have z0 : (Str.empty ++ mkS lit) = mkS lit := by show Str.mk _ = _; simp [Str.empty]
  refine ⟨mkS lit, rfl, by rw [z0]; exact hsz, tD.bind rg rs h fun x G1 as1 H1 x' e1 rg1 rs1 rx h1 => ?_⟩
  cases x with
  | str s =>
    simp only at h1
    split at h1
    · rename_i hsz2
      have hs := rx.str
      have hok := rx.sok
      have z1 : (Str.empty ++ mkS lit ++ mkS s) = mkS (lit ++ s) := by rw [z0]; show Str.mk _ = _; simp
      have hle : (mkS s).length ≤ sizeLine := by
        show (mkS s).cps.size ≤ 16777216
        have : lit.length + s.length ≤ 16777216 := hsz2
        simp
        omega
      refine .inl ⟨mkS s, hs, hle, mkS s, rfl, ?_, ?_⟩
      · rw [z1]
        show (mkS (lit ++ s)).cps.size ≤ 16777216
        simp
        exact hsz2
      · show Q _ _
        rw [z1]
        exact h1 as1 H1 _ .refl rg1 (.mkStr (by unfold sOk at ok hok ⊢; rw [List.all_append, ok, hok]; rfl))
    · exact h1.elim
  | _ => exact h1.elim
/-! ### list(range(n)) -/
theorem rv_upTo {C : RC} {as : List Addr} {H : Hp} : ∀ (n : Nat) (lo : Int), RVs C as H (upTo lo n) ((List.range n).map fun i => V.int (lo + (i : Nat)))
  | 0, lo => .nil
  | n + 1, lo => by
    rw [List.range_succ_eq_map, List.map_cons, List.map_map, upTo]
    refine .cons (by rw [RV]; simp) ?_
    have q := rv_upTo (C := C) (as := as) (H := H) n (lo + 1)
    have e : ((fun i : Nat => V.int (lo + (i : Nat))) ∘ Nat.succ) = fun i : Nat => V.int (lo + 1 + (i : Nat)) := by
      funext i
      show V.int _ = V.int _
      congr 1
      push_cast
      omega
    rw [e]
    exact q
theorem se_listRg {a : Expr} {d : DE} {p2 pos2 : Pos} (ha : SndE X ep W a d) (hc : X.calm = true) (hg : Gl X "list") (hm : X.mg "list" = none) (hg2 : Gl X "range") (hm2 : X.mg "range" = none) (na : starEach [a] X.env = (false, eval a X.env) :: starEach [] X.env := by rfl)
    (nb : starEach [.Call (.Name "range" p2) [a] [] pos2] X.env = (false, eval (.Call (.Name "range" p2) [a] [] pos2) X.env) :: starEach [] X.env := by rfl) :
    SndE X ep W (.Call (.Name "list" p) [.Call (.Name "range" p2) [a] [] pos2] [] pos) (dListRg d) := by
  refine (pe_listRg hc hg hm (prg_1 hg2 hm2 ha na) nb).imp fun σ H Q ⟨as, G, S, rg, rs, h⟩ => tD.bind rg rs h fun x G1 as1 H1 x' e1 rg1 rs1 rx h1 => ?_
  cases x with
  | int n =>
    simp only at h1
    split at h1
    · rename_i hn
      have hn' := Nat.le_of_ble_eq_true hn
      refine ⟨n, rx.int, ⟨by decide, by decide, by omega, by omega, by omega⟩, fun q hq => ?_⟩
      have ho : RO (rc X ep) as1 H1 (.lst (upTo 0 n.toNat)) (.lst (rgV 0 n)) := ⟨_, rfl, by
        have q := rv_upTo (C := rc X ep) (as := as1) (H := H1) n.toNat 0
        unfold rgV
        rw [Int.sub_zero]
        exact q⟩
      exact h1 _ _ _ (Ext.new hq) (rg1.new hq ho) (.mkRef rg1.newAt)
    · exact h1.elim
  | _ => exact h1.elim
/-! ### a table of the module -/
/-- at x: a written dict with text keys -/
structure TabOk (K : PySem.W.Frag) (w : World) (mg : Str → Option Value) (x : Str) (tb : List (List Nat × VV)) : Prop where
  ex : ∃ d es n, mg x = some (.ref d) ∧ KDict K w d es n ∧ ∀ s, match tblGet s tb with
    | some c => ∃ u v, PySem.W.nsIn K d (mkS s) = some (some u) ∧ RelV v u ∧ RVc K mg c v
    | none => PySem.W.nsIn K d (mkS s) = some none
theorem se_getC {f : Expr} {tb : List (List Nat × VV)} {da df : DE} (T : TabOk X.K X.w X.mg x tb) (ha : SndE X ep W e da) (hf : SndE X ep W f df) (hg : Gl X x) (m : M2 X (.Name x p) "get" apos e f pos := by exact ⟨by rfl, by rfl, by rfl, by rfl⟩) (hd : (x == ("__debug__" : Str)) = false := by decide) :
    SndE X ep W (.Call (.Attribute (.Name x p) "get" apos) [e, f] [] pos) (dGetC tb da df) := by
  obtain ⟨d, es, n, hm, D, hk⟩ := T.ex
  refine ⟨fun pins s σ H Q I h => ?_⟩
  obtain ⟨as, G, S, rg, rs, h⟩ := h
  have hargs : tDE (rc X ep) W da σ H fun y H1 => tDE (rc X ep) W df σ H1 fun z H2 => ∃ t, y = .str (mkS t) ∧ (match tblGet t tb with
      | some c => ∃ u v, PySem.W.nsIn X.K d (mkS t) = some (some u) ∧ RelV v u ∧ Q v H2
      | none => PySem.W.nsIn X.K d (mkS t) = some none ∧ Q z H2) :=
    tD.bind rg rs h fun y G1 as1 H1 y' e1 rg1 rs1 ry h1 => tD.bind rg1 rs1 h1 fun z G2 as2 H2 z' e2 rg2 rs2 rz h2 => by
      cases y with
      | str t =>
        have q := hk t
        refine ⟨t, ry.str, ?_⟩
        simp only at h2
        cases c : tblGet t tb with
        | none =>
          rw [c] at h2 q
          exact ⟨q, h2 as2 H2 _ .refl rg2 rz⟩
        | some v0 =>
          rw [c] at h2 q
          obtain ⟨u, v, q1, q2, q3⟩ := q
          exact ⟨u, v, q1, q2, h2 as2 H2 _ .refl rg2 (q3 _ _ _)⟩
      | _ => exact h2.elim
  have typ : ∀ {s : Shared} {σ : St} {H : Hp} {pins : List (Addr × Obj)}, Inv X pins σ H s → s.TypeIs (.ref d) "dict" ∧ (∀ b, Value.ref d = .ref b → ∃ ob, s.heap.get? b = some ob ∧ ob.dict = none) := fun I => by
    refine ⟨kd_type D I, fun b q => ?_⟩
    cases q
    exact ⟨_, I.kIn d _ D.at_, rfl⟩
  refine wpAny_Call_method m.base m.few m.line PySem.F.plainAttrs_dict PySem.F.slot_dict_get PySem.F.type_dict_get (ld_glob I hg hm ⟨(typ I).1, (typ I).2, ?_⟩ hd)
  rw [m.trees]
  refine Calls.callWith_builtin rfl (Calls.evalArgs_plain (Calls.spliced_cons (thn (ha.run pins s σ H _ I hargs) fun iv s2 ⟨y, H2, I2, ry, q2⟩ =>
    Calls.spliced_cons (thn (hf.run pins s2 σ H2 _ I2 q2) fun fv s3 ⟨z, H3, I3, rz, t, ey, q3⟩ => Calls.spliced_nil ?_))))
  subst ey
  obtain ⟨tk, rfl⟩ := ry
  refine call_meetsIn PySem.F.slot_dict_get (typ I3).1 PySem.F.entry_dict_get (PySem.F.args_dict_get_3 _ _ _) (meets_dict_get_default (strKind X.prog X.w) d (strKind_is X.prog X.w (mkS t) tk) D.low fv) ⟨_, PySem.W.mapOf_K (prog := X.prog) (w := X.w) I3.kIn D.at_ D.lit, ?_⟩
  cases c : tblGet t tb with
  | none =>
    rw [c] at q3
    rw [PySem.W.find_K D.at_ q3.1]
    exact ⟨z, H3, I3.tok _, rz, q3.2⟩
  | some v0 =>
    rw [c] at q3
    obtain ⟨u, v, q4, q5, q6⟩ := q3
    rw [PySem.W.find_K D.at_ q4]
    exact ⟨v, H3, I3.tok _, q5, q6⟩
end
end DL
end S_Rules8
section S_Rules9
set_option Elab.async false
set_option linter.all false
set_option maxRecDepth 100000
set_option maxHeartbeats 2000000
/-! Rules9: a def's body keeps the promise of its denotation. -/
namespace DL
open PySem PySem.Spec PyProof.Rows L2
variable [tbs : TabsT] [TC : TabsC]
section
variable {C : RC} {as bs : List Addr} {H H' : Hp}
mutual
theorem RV.closed : ∀ {x : VV} {v : V}, RV C as H x v → closedV as.length x = true
  | .non, _, _ => by rw [closedV]; all_goals simp
  | .bl _, _, _ => by rw [closedV]; all_goals simp
  | .int _, _, _ => by rw [closedV]; all_goals simp
  | .str _, _, _ => by rw [closedV]; all_goals simp
  | .ref i, _, h => by
    obtain ⟨a, ha, _⟩ := h.ref
    rw [closedV]
    exact decide_eq_true (List.getElem?_eq_some_iff.mp ha).1
  | .tup xs, _, h => by
    obtain ⟨a, ys, _, _, r⟩ := h.tup
    rw [closedV]
    exact RVs.closed r
  | .exc _ _, _, h => by rw [RV] at h; exact h.elim
  | .clo n xs, _, h => by
    rw [RV] at h
    obtain ⟨a, ws, _, _, r⟩ := h
    rw [closedV]
    exact RVs.closed r
  | .cls _, _, _ => by rw [closedV]; all_goals simp
theorem RVs.closed : ∀ {x : List VV} {v : List V}, RVs C as H x v → closedL as.length x = true
  | [], _, _ => by rw [closedL]
  | x :: xs, _, h => by
    rw [RVs] at h
    obtain ⟨y, zs, _, h1, h2⟩ := h
    rw [closedL, RV.closed h1, RVs.closed h2]
    rfl
end
theorem RFs.closed : ∀ {x : List (Nat × VV)} {v : List (Str × V)}, RFs C as H x v → closedF as.length x = true
  | [], _, _ => by rw [closedF]
  | (n, x) :: xs, _, h => by
    obtain ⟨y, zs, _, h1, h2⟩ := h
    rw [closedF, RV.closed h1, RFs.closed h2]
    rfl
theorem RKs.closed : ∀ {x : List (VV × VV)} {v : List (Key × V)}, RKs C as H x v → closedK as.length x = true
  | [], _, _ => by rw [closedK]
  | (n, x) :: xs, _, h => by
    obtain ⟨k, y, zs, _, hk, h1, h2⟩ := h
    have e : closedV as.length n = true := by
      cases n with
      | int i => rw [closedV] <;> simp
      | str s => rw [closedV] <;> simp
      | _ => exact hk.elim
    rw [closedK, RV.closed h1, RKs.closed h2, e]
    rfl
theorem RNs.closed : ∀ {x : List VV} {v : List (NestedKey × Addr × Value)}, RNs C as H x v → closedL as.length x = true
  | [], _, _ => by rw [closedL]
  | x :: xs, _, h => by
    obtain ⟨k, b, zs, _, _, _, h4, h5⟩ := h
    rw [closedL, h4.closed, RNs.closed h5]
    rfl
theorem RO.closed : ∀ {o : VO} {h : HO}, RO C as H o h → closedO as.length o = true
  | .lst _, _, h => by obtain ⟨ys, _, r⟩ := h; exact r.closed
  | .flst _, _, h => by obtain ⟨ys, _, r⟩ := h; exact r.closed
  | .dic _, _, h => by obtain ⟨ys, _, r⟩ := h; exact r.closed
  | .ins _ _, _, h => by obtain ⟨Ca, dx, ys, _, _, r⟩ := h; exact r.closed
  | .nset i ks, _, h => by
    obtain ⟨a, ys, h1, _, _, _, _, r⟩ := h
    show (decide (i < as.length) && closedL as.length ks) = true
    rw [r.closed, decide_eq_true (List.getElem?_eq_some_iff.mp h1).1]
    rfl
mutual
theorem RV.chop : ∀ {x : VV} {v : V}, closedV as.length x = true → RV C (as ++ bs) H x v → RV C as H x v
  | .non, _, _, h => by rw [RV] at h ⊢; exact h
  | .bl _, _, _, h => by rw [RV] at h ⊢; exact h
  | .int _, _, _, h => by rw [RV] at h ⊢; exact h
  | .str _, _, _, h => by rw [RV] at h ⊢; exact h
  | .ref i, _, c, h => by
    obtain ⟨a, ha, hv⟩ := h.ref
    rw [closedV] at c
    rw [List.getElem?_append_left (of_decide_eq_true c)] at ha
    rw [hv]
    exact .mkRef ha
  | .tup xs, _, c, h => by
    obtain ⟨a, ys, hv, ht, r⟩ := h.tup
    rw [closedV] at c
    rw [hv]
    exact .mkTup ht (RVs.chop c r)
  | .exc _ _, _, _, h => by rw [RV] at h; exact h.elim
  | .clo n xs, _, c, h => by
    rw [RV] at h ⊢
    obtain ⟨a, ws, h1, h2, r⟩ := h
    rw [closedV] at c
    exact ⟨a, ws, h1, h2, RVs.chop c r⟩
  | .cls _, _, _, h => by rw [RV] at h ⊢; exact h
theorem RVs.chop : ∀ {x : List VV} {v : List V}, closedL as.length x = true → RVs C (as ++ bs) H x v → RVs C as H x v
  | [], _, _, h => by rw [RVs] at h ⊢; exact h
  | x :: xs, _, c, h => by
    rw [RVs] at h ⊢
    rw [closedL, Bool.and_eq_true] at c
    obtain ⟨y, zs, e, h1, h2⟩ := h
    exact ⟨y, zs, e, RV.chop c.1 h1, RVs.chop c.2 h2⟩
end
theorem RFs.chop : ∀ {x : List (Nat × VV)} {v : List (Str × V)}, closedF as.length x = true → RFs C (as ++ bs) H x v → RFs C as H x v
  | [], _, _, h => h
  | (n, x) :: xs, _, c, h => by
    rw [closedF, Bool.and_eq_true] at c
    obtain ⟨y, zs, e, h1, h2⟩ := h
    exact ⟨y, zs, e, RV.chop c.1 h1, RFs.chop c.2 h2⟩
theorem RKs.chop : ∀ {x : List (VV × VV)} {v : List (Key × V)}, closedK as.length x = true → RKs C (as ++ bs) H x v → RKs C as H x v
  | [], _, _, h => h
  | (n, x) :: xs, _, c, h => by
    rw [closedK, Bool.and_eq_true, Bool.and_eq_true] at c
    obtain ⟨k, y, zs, e, hk, h1, h2⟩ := h
    exact ⟨k, y, zs, e, hk, RV.chop c.2.1 h1, RKs.chop c.2.2 h2⟩
theorem RNs.chop : ∀ {x : List VV} {v : List (NestedKey × Addr × Value)}, closedL as.length x = true → RNs C (as ++ bs) H x v → RNs C as H x v
  | [], _, _, h => h
  | x :: xs, _, c, h => by
    obtain ⟨k, b, zs, h1, h2, h3, h4, h5⟩ := h
    rw [closedL, Bool.and_eq_true] at c
    exact ⟨k, b, zs, h1, h2, h3, h4.chop c.1, RNs.chop c.2 h5⟩
theorem RO.chop : ∀ {o : VO} {h : HO}, closedO as.length o = true → RO C (as ++ bs) H o h → RO C as H o h
  | .lst _, _, c, h => by obtain ⟨ys, e, r⟩ := h; exact ⟨ys, e, r.chop c⟩
  | .flst _, _, c, h => by obtain ⟨ys, e, r⟩ := h; exact ⟨ys, e, r.chop c⟩
  | .dic _, _, c, h => by obtain ⟨ys, e, r⟩ := h; exact ⟨ys, e, r.chop c⟩
  | .ins _ _, _, c, h => by obtain ⟨Ca, dx, ys, e1, e, r⟩ := h; exact ⟨Ca, dx, ys, e1, e, r.chop c⟩
  | .nset i ks, _, c, h => by
    obtain ⟨a, ys, h1, h2, h3, h4, h5, r⟩ := h
    have c : (decide (i < as.length) && closedL as.length ks) = true := c
    rw [Bool.and_eq_true, decide_eq_true_eq] at c
    rw [List.getElem?_append_left c.1] at h1
    exact ⟨a, ys, h1, h2, h3, h4, h5, r.chop c.2⟩
theorem closedG_at {n : Nat} : ∀ {G G1 : Hv} {i : Nat} {o : VO}, closedG n G G1 = true → G1[i]? = some o → G[i]? = some o ∨ closedO n o = true
  | [], [], i, o, _, h => by simp at h
  | [], _ :: _, _, _, c, _ => by simp [closedG] at c
  | _ :: _, [], _, _, c, _ => by simp [closedG] at c
  | a :: G, b :: G1, 0, o, c, h => by
    simp at h
    subst h
    simp only [closedG, Bool.and_eq_true, Bool.or_eq_true, decide_eq_true_eq] at c
    rcases c.1 with e | e
    · exact .inl (by simp [e])
    · exact .inr e
  | a :: G, b :: G1, i + 1, o, c, h => by
    simp only [closedG, Bool.and_eq_true] at c
    have := closedG_at (i := i) (o := o) c.2 (by simpa using h)
    simpa using this
/-- what is no longer reached is dropped -/
theorem tF_gc {G : Hv} {r : R VV} {Q : VK} {E : XK} (rg : RelG C as G H) (h : tF C (gcR G r) as H Q E) : tF C r as H Q E := by
  cases r with
  | ok v G1 =>
    unfold gcR at h
    simp only at h
    split at h
    · rename_i hc
      rw [Bool.and_eq_true] at hc
      intro as' H1 v' e1 rg1 rv
      obtain ⟨⟨cs, rfl⟩, ht, hfr, hnw⟩ := e1
      have hlen : as.length = G.length := rg.len
      have hle : G.length ≤ G1.length := by rw [← rg1.len, List.length_append, hlen]; exact Nat.le_add_right _ _
      have lt : (G1.take G.length).length = G.length := by rw [List.length_take]; omega
      have e0 : Ext as H as H1 := ⟨⟨[], by simp⟩, ht, hfr, fun a h => .inl h⟩
      refine h as H1 v' e0 ⟨rg1.tb, by rw [lt]; exact hlen, rg.nd, fun i o hi => ?_⟩ (RV.chop (by rw [hlen]; exact hc.1) rv)
      have hi2 : i < G.length := by
        have := (List.getElem?_eq_some_iff.mp hi).1
        rw [lt] at this
        exact this
      have hi3 : G1[i]? = some o := by rw [List.getElem?_take_of_lt hi2] at hi; exact hi
      obtain ⟨a, ho, h1, h2, h3⟩ := rg1.ob i o hi3
      rw [List.getElem?_append_left (by omega)] at h1
      refine ⟨a, ho, h1, h2, RO.chop ?_ h3⟩
      rcases closedG_at hc.2 hi with hg | hg
      · obtain ⟨b, hb, _, _, h5⟩ := rg.ob i o hg
        exact h5.closed
      · rw [hlen]; exact hg
    · exact h
  | exn _ _ => exact h
  | bad => exact h
theorem rs_start {n : Nat} {N : List Str} (hN : N.length = n) : ∀ {xs : List VV} {vs : List V}, RVs C as H xs vs → xs.length ≤ n → RS C as H (DL.start n xs) (L2.start N vs) := fun {xs vs} r hl => by
  refine ⟨?_, fun i x hi => ?_⟩
  · unfold DL.start L2.start
    simp [r.length, hN]
  · unfold DL.start at hi
    unfold L2.start
    by_cases h : i < xs.length
    · rw [List.getElem?_append_left (by simpa using h)] at hi
      rw [List.getElem?_map, List.getElem?_eq_getElem h] at hi
      simp at hi
      obtain ⟨u, hu, ru⟩ := r.get (List.getElem?_eq_getElem h)
      rw [List.getElem?_append_left (by rw [List.length_map, ← r.length]; exact h), List.getElem?_map, hu]
      exact ⟨u, rfl, hi ▸ ru⟩
    · rw [List.getElem?_append_right (by simpa using h)] at hi
      rw [List.getElem?_replicate] at hi
      split at hi <;> cases hi
end
section
variable {C : RC} {as bs : List Addr} {H : Hp}
mutual
theorem RV.shift : ∀ {x : VV} {v : V}, RV C bs H x v → RV C (as ++ bs) H (shV as.length x) v
  | .non, _, h => by rw [shV]; all_goals first | (rw [RV] at h ⊢; exact h) | simp
  | .bl _, _, h => by rw [shV]; all_goals first | (rw [RV] at h ⊢; exact h) | simp
  | .int _, _, h => by rw [shV]; all_goals first | (rw [RV] at h ⊢; exact h) | simp
  | .str _, _, h => by rw [shV]; all_goals first | (rw [RV] at h ⊢; exact h) | simp
  | .ref i, _, h => by
    obtain ⟨a, ha, hv⟩ := h.ref
    rw [shV, hv]
    exact .mkRef (by rw [List.getElem?_append_right (Nat.le_add_right _ _), Nat.add_sub_cancel_left]; exact ha)
  | .tup xs, _, h => by
    obtain ⟨a, ys, hv, ht, r⟩ := h.tup
    rw [shV, hv]
    exact .mkTup ht (RVs.shift r)
  | .exc _ _, _, h => by rw [RV] at h; exact h.elim
  | .clo n xs, _, h => by
    rw [RV] at h
    obtain ⟨a, ws, h1, h2, r⟩ := h
    rw [shV, RV]
    exact ⟨a, ws, h1, h2, RVs.shift r⟩
  | .cls _, _, h => by rw [shV]; all_goals first | (rw [RV] at h ⊢; exact h) | simp
theorem RVs.shift : ∀ {x : List VV} {v : List V}, RVs C bs H x v → RVs C (as ++ bs) H (shL as.length x) v
  | [], _, h => by rw [shL]; rw [RVs] at h ⊢; exact h
  | x :: xs, _, h => by
    rw [shL]
    rw [RVs] at h ⊢
    obtain ⟨y, zs, e, h1, h2⟩ := h
    exact ⟨y, zs, e, RV.shift h1, RVs.shift h2⟩
end
theorem RFs.shift : ∀ {x : List (Nat × VV)} {v : List (Str × V)}, RFs C bs H x v → RFs C (as ++ bs) H (shF as.length x) v
  | [], _, h => by rw [shF]; exact h
  | (n, x) :: xs, _, h => by
    obtain ⟨y, zs, e, h1, h2⟩ := h
    rw [shF]
    exact ⟨y, zs, e, RV.shift h1, RFs.shift h2⟩
theorem RKs.shift : ∀ {x : List (VV × VV)} {v : List (Key × V)}, RKs C bs H x v → RKs C (as ++ bs) H (shK as.length x) v
  | [], _, h => h
  | (n, x) :: xs, _, h => by
    obtain ⟨k, y, zs, e, hk, h1, h2⟩ := h
    exact ⟨k, y, zs, e, hk, RV.shift h1, RKs.shift h2⟩
mutual
theorem norm_sh (n : Nat) : ∀ {x k : VV}, normV x = some k → shV n x = x
  | .non, _, _ => by rw [shV]; all_goals simp
  | .bl _, _, _ => by rw [shV]; all_goals simp
  | .int _, _, _ => by rw [shV]; all_goals simp
  | .str _, _, _ => by rw [shV]; all_goals simp
  | .ref _, _, h => by rw [normV] at h; cases h; all_goals simp
  | .tup xs, _, h => by
    rw [normV] at h
    cases q : normL xs with
    | none => rw [q] at h; cases h
    | some ys => rw [shV, norm_shL n q]
  | .exc _ _, _, h => by rw [normV] at h; cases h; all_goals simp
  | .clo _ _, _, h => by rw [normV] at h; cases h; all_goals simp
  | .cls _, _, h => by rw [normV] at h; cases h; all_goals simp
theorem norm_shL (n : Nat) : ∀ {x k : List VV}, normL x = some k → shL n x = x
  | [], _, _ => by rw [shL]
  | x :: xs, _, h => by
    rw [normL] at h
    cases q : normV x with
    | none => rw [q] at h; cases h
    | some y =>
      rw [q] at h
      simp only at h
      cases q2 : normL xs with
      | none => rw [q2] at h; cases h
      | some ys => rw [shL, norm_sh n q, norm_shL n q2]
end
theorem RNs.shift : ∀ {x : List VV} {v : List (NestedKey × Addr × Value)}, RNs C bs H x v → RNs C (as ++ bs) H (shL as.length x) v
  | [], _, h => by rw [shL]; exact h
  | x :: xs, _, h => by
    obtain ⟨k, b, zs, h1, h2, h3, h4, h5⟩ := h
    rw [shL]
    exact ⟨k, b, zs, h1, by rw [norm_sh _ h2]; exact h2, h3, RV.shift h4, RNs.shift h5⟩
theorem RO.shift : ∀ {o : VO} {h : HO}, RO C bs H o h → RO C (as ++ bs) H (shO as.length o) h
  | .lst _, _, h => by obtain ⟨ys, e, r⟩ := h; exact ⟨ys, e, r.shift⟩
  | .flst _, _, h => by obtain ⟨ys, e, r⟩ := h; exact ⟨ys, e, r.shift⟩
  | .dic _, _, h => by obtain ⟨ys, e, r⟩ := h; exact ⟨ys, e, r.shift⟩
  | .ins _ _, _, h => by obtain ⟨Ca, dx, ys, e1, e, r⟩ := h; exact ⟨Ca, dx, ys, e1, e, r.shift⟩
  | .nset i ks, _, h => by
    obtain ⟨a, ys, h1, h2, h3, h4, h5, r⟩ := h
    exact ⟨a, ys, by rw [List.getElem?_append_right (Nat.le_add_right _ _), Nat.add_sub_cancel_left]; exact h1, h2, h3, h4, h5, r.shift⟩
theorem RX.shift : ∀ {x : VV} {c : Value} {d : Option Addr}, RX C bs H x c d → RX C (as ++ bs) H (shV as.length x) c d
  | .exc c fs, _, _, h => by
    obtain ⟨Ca, h1, h2, h3⟩ := h
    rw [shV]
    refine ⟨Ca, h1, h2, ?_⟩
    rcases h3 with ⟨e, e'⟩ | ⟨dd, ys, e1, e2, r⟩
    · exact .inl ⟨by rw [e, shF], e'⟩
    · exact .inr ⟨dd, ys, e1, e2, r.shift⟩
theorem Ext.behind {as bs : List Addr} {H H' : Hp} (e : Ext [] H bs H') : Ext as H (as ++ bs) H' :=
  ⟨⟨bs, rfl⟩, e.tup, fun a o h _ => e.fr a o h (by simp), fun a h => (List.mem_append.mp h).imp id fun m => ((e.nw a m).resolve_left (by simp))⟩
theorem RelG.behind {G G1 : Hv} {H' : Hp} (rg : RelG C as G H) (e : Ext [] H bs H') (r1 : RelG C bs G1 H') : RelG C (as ++ bs) (G ++ G1.map (shO G.length)) H' := by
  have hl := rg.len
  have hm : ∀ a ∈ as, ∃ o, H a = some o := fun a m => by
    obtain ⟨i, hi⟩ := List.getElem?_of_mem m
    have hlt : i < G.length := by rw [← hl]; exact (List.getElem?_eq_some_iff.mp hi).1
    obtain ⟨b, h, h1, h2, _⟩ := rg.ob i G[i] (List.getElem?_eq_getElem hlt)
    rw [hi] at h1
    cases h1
    exact ⟨h, h2⟩
  refine ⟨r1.tb, by simp [hl, r1.len], ?_, fun i o hi => ?_⟩
  · rw [List.nodup_append]
    refine ⟨rg.nd, r1.nd, fun a ha b hb => ?_⟩
    rintro rfl
    obtain ⟨o, ho⟩ := hm a ha
    have := (e.nw a hb).resolve_left (by simp)
    rw [this] at ho
    cases ho
  · by_cases h : i < G.length
    · rw [List.getElem?_append_left h] at hi
      obtain ⟨a, ho, h1, h2, h3⟩ := rg.ob i o hi
      exact ⟨a, ho, by rw [List.getElem?_append_left (by omega)]; exact h1, (e.fr a ho h2 (by simp)).resolve_right (fun z => h3.noX (.inl z.1)), h3.mono e.behind⟩
    · rw [List.getElem?_append_right (by omega), List.getElem?_map] at hi
      cases q : G1[i - G.length]? with
      | none => rw [q] at hi; cases hi
      | some o1 =>
        rw [q] at hi
        cases hi
        obtain ⟨a, ho, h1, h2, h3⟩ := r1.ob _ o1 q
        refine ⟨a, ho, ?_, h2, hl ▸ h3.shift⟩
        rw [List.getElem?_append_right (by omega), hl]
        exact h1
theorem tF_behind {G : Hv} {r : R VV} {Q : VK} {E : XK} (rg : RelG C as G H) (h : tF C (reloc G r) as H Q E) : tF C r [] H Q E := by
  have hl := rg.len
  cases r with
  | ok v G1 => exact fun bs H1 v' e1 rg1 rv => h (as ++ bs) H1 v' e1.behind (rg.behind e1 rg1) (hl ▸ rv.shift)
  | exn x G1 => exact fun bs H1 cls d e1 rg1 rx => h (as ++ bs) H1 cls d e1.behind (rg.behind e1 rg1) (hl ▸ rx.shift)
  | bad => exact h
theorem RelG.none {H : Hp} (t : TabI H) : RelG C [] [] H := ⟨t, rfl, by simp, fun i o h => by simp at h⟩
end
/-- a def's body, read at its entry -/
theorem body_read {K : PySem.W.Frag} {mg : Str → Option Value} {n : Nat} {N ps : List Str} {b : DS} (hN : N.length = n) (hp : ps.length ≤ n) {vs : List V} {H : Hp} {Q : VK} {E : XK} (h : spD K mg ps.length (dDef ps.length n b) vs H Q E) :
    tDS ⟨K, mg, []⟩ (fun cls d _ H => E cls d H) b { nx := fun _ H' => Q .non H', rt := Q } (L2.start N vs) H := by
  obtain ⟨hl, as, G, xs, rg, r, h⟩ := h
  have hx : xs.length = ps.length := by rw [r.length]; exact hl
  unfold dDef at h
  rw [if_pos hx] at h
  obtain ⟨as, G, rg, r, h⟩ : ∃ as G, RelG ⟨K, mg, []⟩ as G H ∧ RVs ⟨K, mg, []⟩ as H xs vs ∧ tF ⟨K, mg, []⟩ (outR (b (DL.start n xs) G)) as H Q E := by
    split at h
    · rename_i hc
      exact ⟨[], [], RelG.none rg.tb, RVs.chop (as := []) (bs := as) hc r, tF_gc (RelG.none rg.tb) (tF_behind rg h)⟩
    · exact ⟨as, G, rg, r, tF_gc rg h⟩
  refine ⟨as, G, DL.start n xs, rg, rs_start hN r (by omega), ?_⟩
  cases q : b (DL.start n xs) G with
  | nx S1 G1 => rw [q] at h; exact fun as' H' σ' e rg' rs' => h as' H' .non e rg' .mkNon
  | rt v G1 => rw [q] at h; exact h
  | exn x S1 G1 => rw [q] at h; exact fun as' H' σ' cls d e rg' rs' rx => h as' H' cls d e rg' rx
  | bk _ _ => rw [q] at h; exact h.elim
  | ct _ _ => rw [q] at h; exact h.elim
  | bad => rw [q] at h; exact h.elim
/-- THE RULE for a def -/
theorem def_ok {P : Program} {w : World} {K : PySem.W.Frag} {mg : Str → Option Value} {base : Heap} {x qual : Str} {params : Arguments} {body : List Stmt} {scope : Scope} {f : Addr} {fd : FuncData} {N ps : List Str} {k n : Nat} {b : DS}
    (F : FunD K x qual params body scope [] [] f fd) (S : FnScope N ps scope) (hN : N.length = n) (hp : ps.length ≤ n)
    (hb : ∀ (kV doc pm : Value) (an : Option Addr) (cdv ct : Value) (us : List Value), us.length = ps.length → bindArgs (PySem.W.fnOf x qual params body scope .none kV doc pm an cdv ct) ⟨us, []⟩ = pure (ps.zip us))
    (hbody : ∀ (cdv : Value) (A : Around) (outer : List PySem.Env) (s : Shared) (H : Hp) (E : XK), Room k (A.deeper (envOfC qual scope s.heap.objs.size f cdv)) → SndSs (cxOf (L2.CX P w) P w K mg base N qual scope f cdv A outer s H E) [] (fun cls d _ H => E cls d H) body b) :
    DefOk P w K mg base (k + 1) f ps (dDef ps.length n b) := by
  refine ⟨⟨fd, F.ok S (fun vs H Q E h => h.1) (fun cdv A outer s H vs Q E hr h => ⟨_, hbody cdv A outer s H E hr, body_read hN hp h⟩), F.bindsN hb, ?_⟩, F.kp, fun vs G h => ?_⟩
  · obtain ⟨oc, od, dV, kV, doc, pm, an, cdv, ct, osl, rfl, lk, _⟩ := F.ex
    exact ⟨oc, od, osl, lk⟩
  · unfold dDef
    rw [if_neg h]
/-- keywords, from the def -/
theorem kw_of {K : PySem.W.Frag} {x qual : Str} {params : Arguments} {body : List Stmt} {scope : Scope} {f : Addr} {ps ks : List Str} {ix : List Nat} (F : ∃ fd, FunD K x qual params body scope [] [] f fd)
    (h : ∀ (kV doc pm : Value) (an : Option Addr) (cdv ct : Value) (ws us : List Value), ws.length = ks.length → mapO (fun i => ws[i]?) ix = some us → bindArgs (PySem.W.fnOf x qual params body scope .none kV doc pm an cdv ct) ⟨[], ks.zip ws⟩ = pure (ps.zip us)) : KwOk K f ps ks ix := by
  obtain ⟨fd, F⟩ := F
  obtain ⟨oc, od, dV, kV, doc, pm, an, cdv, ct, osl, rfl, lk, hcd, hD, hK⟩ := F.ex
  rcases hD with ⟨_, rfl⟩ | ⟨e, _⟩
  · exact ⟨_, ⟨oc, od, osl, lk⟩, fun s ws us hl hu => .of_eq (h kV doc pm an cdv ct ws us hl hu)⟩
  · exact absurd rfl e
/-- how the law's value meets the promise -/
theorem law_read {K : PySem.W.Frag} {mg : Str → Option Value} {fn : Fn} {H : Hp} {a : Addr} {ns : List Int} {G : Hv} (t : TabI H) (hH : H a = some (.lst (ns.map V.int)) ∨ ∃ ob, H a = some (.frz ob (.lst (ns.map V.int)))) (h : fn [.ref 0] [.flst (ns.map VV.int)] = .ok (.bl true) G) :
    spD K mg 1 fn [.ref a] H (fun v _ => v = .bl true) fun _ _ _ => False := by
  have rints : ∀ l : List Int, RVs ⟨K, mg, []⟩ [a] H (l.map VV.int) (l.map V.int) := fun l => by
    induction l with
    | nil => exact .nil
    | cons i l ih => exact .cons .mkInt ih
  refine ⟨rfl, [a], [.flst (ns.map VV.int)], [.ref 0], ⟨t, rfl, by simp, fun i o hi => ?_⟩, .cons (.mkRef rfl) .nil, ?_⟩
  · cases i with
    | zero =>
      simp at hi
      subst hi
      rcases hH with hH | ⟨ob, hH⟩
      · exact ⟨a, _, rfl, hH, _, .inl rfl, rints ns⟩
      · exact ⟨a, _, rfl, hH, _, .inr ⟨ob, rfl⟩, rints ns⟩
    | succ i => simp at hi
  · rw [h]
    exact fun as' H' v' _ _ rv => rv.bl
end DL
end S_Rules9
section S_Rules10
set_option Elab.async false
set_option linter.all false
set_option maxRecDepth 100000
set_option maxHeartbeats 2000000
/-! Rules10: what the top has laid: the Hook, its facts; the law's end; short forms. -/
namespace DL
open PySem PySem.Spec PyProof.Rows L2 He
section VA
variable [tbs : TabsT] [TC : TabsC]
/-! ### constants -/
mutual
def relC (K : PySem.W.Frag) : VV → Value → Bool
  | .non, .none => true
  | .bl b, .bool c => b == c
  | .int i, .int j _ => decide (j = i)
  | .str s, .str y _ => decide (y = mkS s) && sOk s
  | .tup xs, .ref T => (match K.lookup T with
    | some ⟨.type c, _, .seq its _, _⟩ => decide (c = "tuple") && (decide (its.size ≤ sizeLine) && relCs K xs its.toList)
    | _ => false)
  | _, _ => false
def relCs (K : PySem.W.Frag) : List VV → List Value → Bool
  | [], [] => true
  | x :: xs, u :: us => relC K x u && relCs K xs us
  | _, _ => false
end
mutual
theorem relC_ok {K : PySem.W.Frag} {mg : Str → Option Value} : ∀ {c : VV} {u : Value}, relC K c u = true → ∃ v, RelV v u ∧ RVc K mg c v
  | .non, u, h => by
    cases u <;> first | (rw [relC] at h; cases h; done) | skip
    all_goals first | exact ⟨.non, rfl, fun _ _ _ => .mkNon⟩ | (simp [relC] at h)
  | .bl b, u, h => by
    cases u with
    | bool c =>
      rw [relC] at h
      obtain rfl : b = c := eq_of_beq h
      exact ⟨.bl b, rfl, fun _ _ _ => .mkBl⟩
    | _ => simp [relC] at h
  | .int i, u, h => by
    cases u with
    | int j t =>
      rw [relC] at h
      obtain rfl : j = i := of_decide_eq_true h
      exact ⟨.int j, ⟨t, rfl⟩, fun _ _ _ => .mkInt⟩
    | _ => simp [relC] at h
  | .str s, u, h => by
    cases u with
    | str y t =>
      rw [relC] at h
      obtain ⟨h1, h2⟩ := ba h
      obtain rfl : y = mkS s := of_decide_eq_true h1
      exact ⟨.str (mkS s), ⟨t, rfl⟩, fun _ _ _ => .mkStr h2⟩
    | _ => simp [relC] at h
  | .tup xs, u, h => by
    cases u with
    | ref T =>
      rw [relC] at h
      cases q : K.lookup T with
      | none => rw [q] at h; cases h
      | some o =>
        obtain ⟨oc, od, dt, osl⟩ := o
        rw [q] at h
        cases oc with
        | type c =>
          cases dt with
          | seq its n =>
            obtain ⟨h1, h2⟩ := ba (show (decide (c = "tuple") && (decide (its.size ≤ sizeLine) && relCs K xs its.toList)) = true from h)
            obtain ⟨h3, h4⟩ := ba h2
            obtain ⟨ys, h5, h6⟩ := relCs_ok (mg := mg) h4
            refine ⟨.ref T, rfl, fun ep as H => .mkTup (.inr ⟨_, its, n, q, congrArg Value.type (of_decide_eq_true h1), rfl, of_decide_eq_true h3, h5⟩) (h6 ep as H)⟩
          | _ => cases h
        | _ => cases dt <;> cases h
    | _ => simp [relC] at h
  | .ref _, u, h => by cases u <;> simp [relC] at h
  | .exc _ _, u, h => by cases u <;> simp [relC] at h
  | .clo _ _, u, h => by cases u <;> simp [relC] at h
  | .cls _, u, h => by cases u <;> simp [relC] at h
theorem relCs_ok {K : PySem.W.Frag} {mg : Str → Option Value} : ∀ {cs : List VV} {us : List Value}, relCs K cs us = true → ∃ vs, Vals vs us ∧ ∀ ep as H, RVs ⟨K, mg, ep⟩ as H cs vs
  | [], [], _ => ⟨[], .nil, fun _ _ _ => .nil⟩
  | [], _ :: _, h => by simp [relCs] at h
  | _ :: _, [], h => by simp [relCs] at h
  | c :: cs, u :: us, h => by
    rw [relCs] at h
    obtain ⟨h1, h2⟩ := ba h
    obtain ⟨v, r1, r2⟩ := relC_ok (mg := mg) h1
    obtain ⟨vs, r3, r4⟩ := relCs_ok (mg := mg) h2
    exact ⟨v :: vs, .cons r1 r3, fun ep as H => .cons (r2 ep as H) (r4 ep as H)⟩
end
def conB (K : PySem.W.Frag) (x : Str) (c : VV) : Bool := match PySem.W.nsIn K mainGlobals x with
  | some (some u) => relC K c u
  | _ => false
/-! ### more facts -/
inductive Fb where
  | prop (C f : Str) | cm (C m : Str) | con (x : Str) (c : VV) | tab (x : Str) (tb : List (List Nat × VV)) | isc (C : Str) | exc (C f : Str)
def propB (K : PySem.W.Frag) (C : Addr) (f : Str) : Bool := eqO (PySem.W.findIn K (.ref C) f) (some (some (.ref (ma K C f)))) && (eqO (PySem.W.specialIn K (.ref (ma K C f)) "__get__") (some (some (.builtin "property.__get__"))) &&
  (decide (PySem.W.takesIn K (.ref (ma K C f)) = some true) && (match PySem.W.recIn K (ma K C f) "property" with
    | some (.ref _ :: _) => true
    | _ => false)))
theorem propB_ok {K : PySem.W.Frag} {C : Addr} {f : Str} (h : propB K C f = true) : PropOf K C f (ma K C f) (He5.wf K C "property" f) := by
  obtain ⟨h1, h⟩ := ba h
  obtain ⟨h2, h⟩ := ba h
  obtain ⟨h3, h4⟩ := ba h
  refine ⟨eqO_ok h1, eqO_ok h2, of_decide_eq_true h3, ?_⟩
  unfold He5.wf
  split at h4
  · rename_i g r e
    exact ⟨r, by rw [e]⟩
  · cases h4
def cmB (K : PySem.W.Frag) (C : Addr) (m : Str) : Bool := PySem.W.readsIn K C (.type "type") && (eqO (PySem.W.specialIn K (.ref C) "__getattribute__") (some (some (.builtin "type.__getattribute__"))) &&
  (He5.wrapB K C "classmethod" "classmethod.__get__" m && PySem.W.fnIn K (He5.wf K C "classmethod" m)))
def tabB (K : PySem.W.Frag) (x : Str) (tb : List (List Nat × VV)) : Bool := tb.all fun q => match PySem.W.nsIn K (ga K x) (mkS q.1) with
  | some (some u) => relC K q.2 u
  | _ => false
def iscB (K : PySem.W.Frag) (C : Addr) : Bool := eqO (PySem.W.findIn K (.ref C) "__class__") (some (some (.builtin "object.__class__"))) && (eqO (PySem.W.specialIn K (.builtin "object.__class__") "__get__") (some (some (.builtin "getset_descriptor.__get__"))) &&
  (decide (PySem.W.takesIn K (.builtin "object.__class__") = some true) && (decide (PySem.W.mroIn K C (.type "object") = some true) && decide (PySem.W.kitOne K (.ref C) (.ref C) = some true))))
theorem iscB_ok {K : PySem.W.Frag} {C : Addr} (c : Cls K C) (h : iscB K C = true) : C8.InsC K C := by
  obtain ⟨h1, h⟩ := ba h
  obtain ⟨h2, h⟩ := ba h
  obtain ⟨h3, h⟩ := ba h
  obtain ⟨h4, h5⟩ := ba h
  exact ⟨c, eqO_ok h1, eqO_ok h2, of_decide_eq_true h3, of_decide_eq_true h4, of_decide_eq_true h5⟩
/-- an own exception class over ValueError with an own __init__ that keeps its argument in the field f -/
def oexB (K : PySem.W.Frag) (C : Addr) : Bool := match K.lookup C with
  | some ⟨.type "type", _, .cls cd, sl⟩ => (match cd.mro, sl.toList with
    | .ref C' :: bm, [_, _, _, _, some (.builtin n), _] => C' == C && (n == "ValueError.__new__" && (!cd.hasDel && (cd.hasDict && PySem.HandSPX.refsVE bm)))
    | _, _ => false)
  | _ => false
def excB (K : PySem.W.Frag) (C : Addr) (f : Str) : Bool := oexB K C && (eqO (PySem.W.findIn K (.ref C) "__setattr__") (some (some (.builtin "object.__setattr__"))) && (decide (PySem.W.subIn K (.ref C) (.type "BaseException") = some true) &&
  (decide (PySem.W.typeIn K (.ref C) = some (.type "type")) && (PySem.W.keepIn K (.ref C) && (eqO (PySem.W.findIn K (.ref C) "__init__") (some (some (.ref (ma K C "__init__")))) && (decide (PySem.W.typeIn K (.ref (ma K C "__init__")) = some (.type "function")) &&
  (eqO (PySem.W.findIn K (.ref C) f) (some none) && decide (PySem.W.exmOne K (.ref C) (.ref C) = some true))))))))
def Fb.ok (K : PySem.W.Frag) : Fb → Bool
  | .exc C f => excB K (ga K C) f
  | .isc C => iscB K (ga K C)
  | .prop C f => propB K (ga K C) f
  | .cm C m => cmB K (ga K C) m
  | .con x c => conB K x c
  | .tab x tb => tabB K x tb
section
variable {K : PySem.W.Frag} {h : Heap} {mg : Str → Option Value}
theorem con_ok (X : K.In h) (G : h.Ns mainGlobals mg) {x : Str} {c : VV} (q : (Fb.con x c).ok K = true) : GlobV K mg x c := by
  have q2 : conB K x c = true := q
  unfold conB at q2
  split at q2
  · rename_i u e
    obtain ⟨v, r1, r2⟩ := relC_ok (mg := mg) q2
    exact ⟨u, v, PySem.W.mg_of X G e, r1, r2⟩
  · cases q2
theorem cm_ok (X : K.In h) (G : h.Ns mainGlobals mg) {c : Nat} {C m : Str} (hc : nameOf c = C) (q0 : (Fa.glo C).ok K = true) (q : (Fb.cm C m).ok K = true) : CmOk K mg c (ga K C) m (He5.wf K (ga K C) "classmethod" m) := by
  subst hc
  obtain ⟨h1, q⟩ := ba (show cmB K _ m = true from q)
  obtain ⟨h2, q⟩ := ba q
  obtain ⟨h3, h4⟩ := ba q
  exact ⟨glo_ok X G q0, ⟨h1, eqO_ok h2⟩, _, He5.cmet_of h3 h4⟩
theorem clsOk (X : K.In h) (G : h.Ns mainGlobals mg) {c : Nat} {C : Str} (hc : nameOf c = C) (q0 : (Fa.glo C).ok K = true) (q : (Fa.cls C).ok K = true) : ClsOk K mg c (ga K C) := ⟨by rw [hc]; exact glo_ok X G q0, He.cls_ok q⟩
theorem nsIn_out {a : Addr} {P : Params} {ks : List Str} (hd : dicW K a = some (keysIn P ks)) {z : Str} (hz : z ∉ ks) : PySem.W.nsIn K a z = some none := by
  unfold dicW at hd
  cases q : K.lookup a with
  | none => rw [q] at hd; cases hd
  | some o =>
    obtain ⟨oc, od, dt, osl⟩ := o
    rw [q] at hd
    have es : ∃ (es : Array DictEntry) (n : Nat), dt = .dict es n ∧ es.toList.map He.keyOf = keysIn P ks := by
      cases oc with
      | type c =>
        cases od with
        | none =>
          cases dt with
          | dict es n =>
            refine ⟨es, n, rfl, ?_⟩
            have h1 : (match decide (c = "dict") && (osl.isEmpty && !(a == sysModules)) with
              | true => some (es.toList.map He.keyOf)
              | false => none) = some (keysIn P ks) := hd
            split at h1
            · exact Option.some.inj h1
            · cases h1
          | _ => cases hd
        | some b => cases dt <;> cases hd
      | _ => cases od <;> cases dt <;> cases hd
    obtain ⟨es, n, rfl, he⟩ := es
    unfold PySem.W.nsIn
    rw [q]
    have key : ∀ (l : List DictEntry) (ks : List Str), l.map He.keyOf = keysIn P ks → z ∉ ks → l.find? (fun e => e.key.isStr z) = none ∧ l.any (fun e => e.refKey) = false := fun l => by
      induction l with
      | nil => exact fun _ _ _ => ⟨rfl, rfl⟩
      | cons e r ih =>
        intro ks h hz
        cases ks with
        | nil => cases h
        | cons k ks =>
          have h1 : He.keyOf e :: r.map He.keyOf = some (k, PyData.keyHash P k) :: keysIn P ks := h
          injection h1 with h2 h3
          obtain ⟨i1, i2⟩ := ih ks h3 (fun m => hz (List.mem_cons_of_mem _ m))
          unfold He.keyOf at h2
          split at h2
          · rename_i x t ek
            have hx : x = k := (Prod.mk.inj (Option.some.inj h2)).1
            have ne : z ≠ x := fun e => hz (by rw [e, hx]; exact List.mem_cons_self ..)
            refine ⟨?_, ?_⟩
            · rw [List.find?_cons]
              have : e.key.isStr z = false := by
                rw [ek]
                show (x == z) = false
                exact beq_eq_false_iff_ne.mpr (Ne.symm ne)
              rw [this]
              exact i1
            · rw [List.any_cons, i2, Bool.or_false]
              unfold DictEntry.refKey
              rw [ek]
          · cases h2
    obtain ⟨k1, k2⟩ := key es.toList ks he hz
    show (match es.toList.find? (·.key.isStr z) with
      | some e => some (some e.val)
      | none => if es.toList.any (·.refKey) then none else some none) = some none
    rw [k1]
    show (if es.toList.any (fun e => e.refKey) = true then none else some none) = some none
    rw [k2]
    rfl
theorem tab_ok {w : World} (X : K.In h) (G : h.Ns mainGlobals mg) {x : Str} {tb : List (List Nat × VV)} (q0 : (Fa.glo x).ok K = true) (q : (Fb.tab x tb).ok K = true) (hd : dicW K (ga K x) = some (keysIn w.params (tb.map fun q => mkS q.1))) : TabOk K w mg x tb := by
  obtain ⟨es, n, kd⟩ := dicW_ok hd
  refine ⟨ga K x, es, n, glo_ok X G q0, kd, fun s => ?_⟩
  have hall : ∀ q ∈ tb, ∃ u, PySem.W.nsIn K (ga K x) (mkS q.1) = some (some u) ∧ relC K q.2 u = true := fun p hp => by
    have h2 := List.all_eq_true.mp (show tabB K x tb = true from q) p hp
    split at h2
    · rename_i u e
      exact ⟨u, e, h2⟩
    · cases h2
  have go : ∀ l : List (List Nat × VV), (∀ q ∈ l, q ∈ tb) → match tblGet s l with
      | some c => ∃ u v, PySem.W.nsIn K (ga K x) (mkS s) = some (some u) ∧ RelV v u ∧ RVc K mg c v
      | none => ∀ q ∈ l, q.1 ≠ s := fun l => by
    induction l with
    | nil => exact fun _ q hq => nomatch hq
    | cons p r ih =>
      intro hl
      obtain ⟨k, c⟩ := p
      unfold tblGet
      by_cases e : s = k
      · rw [if_pos e]
        obtain ⟨u, h1, h2⟩ := hall (k, c) (hl _ (List.mem_cons_self ..))
        obtain ⟨v, r1, r2⟩ := relC_ok (mg := mg) h2
        exact ⟨u, v, by rw [e]; exact h1, r1, r2⟩
      · rw [if_neg e]
        have ih2 := ih fun q hq => hl q (List.mem_cons_of_mem _ hq)
        split
        · rename_i c' hc'
          rw [hc'] at ih2
          exact ih2
        · rename_i hc'
          rw [hc'] at ih2
          intro q hq
          rcases List.mem_cons.mp hq with hq | hq
          · rw [hq]; exact Ne.symm e
          · exact ih2 q hq
  have g := go tb fun q hq => hq
  cases c : tblGet s tb with
  | some c => rw [c] at g; exact g
  | none =>
    rw [c] at g
    refine nsIn_out hd fun hm => ?_
    obtain ⟨p, hp, e⟩ := List.mem_map.mp hm
    exact g p hp (mkS_inj e)
end
end VA
/-! ### the Hook -/
def isTab (o : Obj) : Bool := match o with
  | ⟨.none, none, .fields vs, sl⟩ => vs.size == 0 && sl.size == 0
  | _ => false
theorem isTab_eq {o : Obj} (h : isTab o = true) : o = { cls := .none, data := .fields #[] } := by
  unfold isTab at h
  split at h
  · rename_i vs sl
    rw [Bool.and_eq_true, beq_iff_eq, beq_iff_eq] at h
    rw [Array.eq_empty_of_size_eq_zero h.1, Array.eq_empty_of_size_eq_zero h.2]
  · cases h
def notL (o : Obj) : Bool := (match o.cls with
  | .type c => !(c == "list")
  | _ => true) && !isTab o
/-- nothing in K is a list -/
def NoL (K : PySem.W.Frag) : Prop := ∀ a o, K.lookup a = some o → notL o = true
def frM (g : Addr → Option Obj) (as : List Addr) : PySem.W.Frag := (frG g as).filter fun p => notL p.2
theorem lookup_filter {p : Addr × Obj → Bool} : ∀ {l : List (Addr × Obj)} {a : Addr} {o : Obj}, (l.filter p).lookup a = some o → (a, o) ∈ l ∧ p (a, o) = true := fun {l} => by
  induction l with
  | nil => intro a o h; cases h
  | cons q r ih =>
    intro a o h
    rw [List.filter_cons] at h
    by_cases e : p q = true
    · rw [if_pos e] at h
      obtain ⟨b, ob⟩ := q
      rw [List.lookup_cons] at h
      by_cases hb : a == b
      · rw [hb] at h
        cases h
        obtain rfl : a = b := eq_of_beq hb
        exact ⟨List.mem_cons_self .., e⟩
      · have hb' : (a == b) = false := by simpa using hb
        rw [hb'] at h
        obtain ⟨h1, h2⟩ := ih h
        exact ⟨List.mem_cons_of_mem _ h1, h2⟩
    · rw [if_neg e] at h
      obtain ⟨h1, h2⟩ := ih h
      exact ⟨List.mem_cons_of_mem _ h1, h2⟩
theorem frG_memM {g : Addr → Option Obj} {as : List Addr} {a : Addr} {o : Obj} (h : (a, o) ∈ frG g as) : g a = some o := by
  unfold frG at h
  obtain ⟨b, _, hb⟩ := List.mem_filterMap.mp h
  cases q : g b with
  | none => rw [q] at hb; cases hb
  | some o' =>
    rw [q] at hb
    cases hb
    exact q
theorem frM_in {as : List Addr} {h : Heap} : (frM h.get? as).In h := fun a o e => frG_memM (lookup_filter e).1
theorem frM_noL {g : Addr → Option Obj} {as : List Addr} : NoL (frM g as) := fun a o e => (lookup_filter e).2
abbrev AlM : Type := AlD × List (Option (List (Option (Str × Int))))
def obsM (fa : List Fa) (fb : List Fb) (fn : List He5.DefA) (ts : List Tab) (K : PySem.W.Frag) : AlM := (((fa.all fun f => f.ok K) && ((fb.all fun f => f.ok K) && fn.all fun d => d.ok K), fn.map fun d => He5.fnA K (d.at_ K)), ts.map fun t => dicW K (t.1 K))
def valM (fn : List He5.DefA) (ts : List Tab) (w : World) : AlM := ((true, fn.map He5.DefA.val), ts.map fun t => some (keysIn w.params t.2))
def SaysM (fa : List Fa) (fb : List Fb) (fn : List He5.DefA) (ts : List Tab) (w : World) (K : PySem.W.Frag) : Prop := obsM fa fb fn ts K = valM fn ts w
/-! what some names of the module reach: each address once, by a mask -/
def seenB (m a : Nat) : Bool := Nat.beq (Nat.land (Nat.shiftRight m a) 1) 1
def newA : Nat → List Addr → List Addr
  | _, [] => []
  | m, a :: r => match seenB m a with
    | true => newA m r
    | false => a :: newA (Nat.lor m (Nat.shiftLeft 1 a)) r
def maskA : Nat → List Addr → Nat
  | m, [] => m
  | m, a :: r => maskA (Nat.lor m (Nat.shiftLeft 1 a)) r
def refsA (g : Addr → Option Obj) : List Addr → List Addr
  | [] => []
  | a :: r => (match g a with
    | some o => He.refsD o
    | none => []) ++ refsA g r
def walkA (g : Addr → Option Obj) : Nat → Nat → List Addr → List Addr
  | 0, _, fr => fr
  | n + 1, m, fr => fr ++ walkA g n (maskA m (newA m (refsA g fr))) (newA m (refsA g fr))
def rootsA (g : Addr → Option Obj) (xs : List Str) : List Addr := xs.map (ga (frG g [mainGlobals]))
def asM (g : Addr → Option Obj) (n : Nat) (xs : List Str) : List Addr := mainGlobals :: cStatics :: walkA g n (maskA 0 (mainGlobals :: cStatics :: newA 0 (rootsA g xs))) (newA 0 (rootsA g xs))
def obsMG (n : Nat) (xs : List Str) (fa : List Fa) (fb : List Fb) (fn : List He5.DefA) (ts : List Tab) (g : Addr → Option Obj) : AlM := obsM fa fb fn ts (frM g (asM g n xs))
def hookM (n : Nat) (xs : List Str) (fa : List Fa) (fb : List Fb) (fn : List He5.DefA) (ts : List Tab) : PySem.W.Hook where
  α := AlM
  obs := fun s => obsMG n xs fa fb fn ts s.heap.get?
  val := fun w => valM fn ts w
  says := fun w h => ∃ K : PySem.W.Frag, K.In h ∧ NoL K ∧ SaysM fa fb fn ts w K
  of := fun _ _ e => ⟨_, frM_in, frM_noL, e⟩
  keeps := fun _ _ _ ⟨K, hK, c⟩ k => ⟨K, PySem.W.Frag.In.keeps hK k, c⟩
theorem obsMG_eq {n : Nat} {xs : List Str} {fa : List Fa} {fb : List Fb} {fn : List He5.DefA} {ts : List Tab} {g : Addr → Option Obj} {s : Shared} (h : ∀ a, g a = s.heap.get? a) : obsMG n xs fa fb fn ts g = (hookM n xs fa fb fn ts).obs s := by
  have e : g = s.heap.get? := funext h
  rw [e] <;> rfl
section
variable {fa : List Fa} {fb : List Fb} {fn : List He5.DefA} {ts : List Tab} {w : World} {K : PySem.W.Frag}
theorem SaysM.all (c : SaysM fa fb fn ts w K) : ((fa.all fun f => f.ok K) && ((fb.all fun f => f.ok K) && fn.all fun d => d.ok K)) = true := congrArg (fun z : AlM => z.1.1) c
theorem SaysM.fact (c : SaysM fa fb fn ts w K) (i : Nat) {f : Fa} (h : fa[i]? = some f) : f.ok K = true := List.all_eq_true.mp (ba c.all).1 f (List.mem_of_getElem? h)
theorem SaysM.more (c : SaysM fa fb fn ts w K) (i : Nat) {f : Fb} (h : fb[i]? = some f) : f.ok K = true := List.all_eq_true.mp (ba (ba c.all).2).1 f (List.mem_of_getElem? h)
theorem SaysM.def_ (c : SaysM fa fb fn ts w K) (i : Nat) {d : He5.DefA} (h : fn[i]? = some d) : ∃ fd, FunD K d.name d.qual d.params d.body d.scope (d.dvs K) (d.kws K) (d.at_ K) fd := by
  have c2 := List.all_eq_true.mp (ba (ba c.all).2).2
  have e : fn.map (fun d => He5.fnA K (d.at_ K)) = fn.map He5.DefA.val := congrArg (fun z : AlM => z.1.2) c
  have e2 : (fn.map fun d => He5.fnA K (d.at_ K))[i]? = (fn.map He5.DefA.val)[i]? := by rw [e]
  rw [List.getElem?_map, List.getElem?_map, h] at e2
  exact He5.DefA.funD (Option.some.inj e2) (c2 d (List.mem_of_getElem? h))
theorem SaysM.tab (c : SaysM fa fb fn ts w K) (i : Nat) {t : Tab} (h : ts[i]? = some t) : dicW K (t.1 K) = some (keysIn w.params t.2) := by
  have e : ts.map (fun t => dicW K (t.1 K)) = ts.map fun t => some (keysIn w.params t.2) := congrArg (fun z : AlM => z.2) c
  have e2 : (ts.map fun t => dicW K (t.1 K))[i]? = (ts.map fun t => some (keysIn w.params t.2))[i]? := by rw [e]
  rw [List.getElem?_map, List.getElem?_map, h] at e2
  exact Option.some.inj e2
end
section VB
variable [tbs : TabsT] [TC : TabsC]
/-! ### the end -/
omit tbs TC in
theorem frz_of {K : PySem.W.Frag} {H : Hp} {a : Addr} {xs : List V} (n : NoL K) (hS : SqL K H a xs) : H a = some (.lst xs) ∨ ∃ ob, H a = some (.frz ob (.lst xs)) := by
  rcases hS with (h | h) | ⟨o, its, m, hk, hc, _⟩
  · exact .inl h
  · exact .inr h
  · have := n a o hk
    unfold notL at this
    rw [hc] at this
    simp at this
omit tbs TC in
/-- the tables at the law's beginning -/
abbrev tabsT (P : Program) (w : World) (cs : List (Addr × Addr)) (nm : Nat → Nat → Str) : TabsT := ⟨cs.map fun p => (p.2, nm), P, w⟩
omit tbs TC in
abbrev tabs0 : TabsC := ⟨[], (fun _ hq => nomatch hq), (fun _ hq => nomatch hq), fun _ => none⟩
omit tbs TC in
theorem tabs0_ok {P : Program} {w : World} {cs : List (Addr × Addr)} {nm : Nat → Nat → Str} {H : Hp} (h : ∀ p ∈ cs, H p.2 = some (.tbl #[])) : TabI (tbs := tabsT P w cs nm) (TC := tabs0) H := by
  refine ⟨fun p hp => ?_, fun _ hq => nomatch hq⟩
  obtain ⟨q, hq, rfl⟩ := List.mem_map.mp hp
  exact NdefX.TabN.nil (h q hq)
omit tbs TC in
theorem walk_dl {l : PySem.W.OpenLaw} {n k : Nat} {q : Program} {loose : List Str} {XP : (Str → Option Value) → Heap → Prop} {YP : World → Heap → Prop} {d : DefRec} {x : Str} {fn : Fn} (nm : Nat → Nat → Str)
    (hn : l.most = some n) (hn2 : n ≤ sizeLine) (hdf : d.params.defaults = []) (hr : Room k callerA)
    (hlaw : ∀ ns : List Int, ns.length ≤ n → (∀ z ∈ ns, Builtin.Int.intBits z ≤ 1048576) → ∃ G, fn [.ref 0] [.flst (ns.map VV.int)] = .ok (.bl true) G)
    (F : ∀ (w : World) (mg : Str → Option Value) (fa : Addr) (h : Heap), YP w h → h.Ns mainGlobals mg → mg d.name = some (.ref fa) →
      ∃ (K : PySem.W.Frag) (fd : FuncData) (cs : List (Addr × Addr)), K.In h ∧ NoL K ∧ (∀ (s : Shared) (u : Value), BindsTo s fd ⟨[u], []⟩ [(x, u)]) ∧
        (∀ p ∈ cs, h.get? p.2 = some { cls := .none, data := .fields #[] }) ∧ (∀ p ∈ cs, K.lookup p.2 = none) ∧ (∀ p ∈ cs, PySem.W.CodeHd h p.1 p.2) ∧
        ∀ base : Heap, K.In base → base.Ns mainGlobals mg → (∀ p ∈ cs, LamX.TabB base mg p.1 p.2) → FnOk l.prog w K mg base (L2.CX l.prog w) k fa fd [x] (spD (tbs := tabsT l.prog w cs nm) (TC := tabs0) K mg 1 fn)) :
    PySem.W.WalkO q loose XP YP l.row.toRowW d [] (fun f vs => PySem.call f vs) := by
  refine Att.attach_callB hn hdf fun w s₀ s₁ mg mb fa o pm cd doc a vs ns G Y ho hd hcd hmg hobj hints hlen hbits hg => ?_
  obtain ⟨K, fd, cs, KX, nl, hb, hT, nT, C, hF⟩ := F w mg fa _ Y G.T.g hmg
  refine LamX.law_callTs KX G.T.g G.T.b G.T.builtins G.T.nolimit hg hT nT C G.T.bmain hobj hints (Nat.le_trans hlen hn2) hr hF hb (fun H hH hS => ?_) fun H e s' z => ?_
  · obtain ⟨G', e⟩ := hlaw ns hlen hbits
    exact law_read (tbs := tabsT l.prog w cs nm) (TC := tabs0) (tabs0_ok hH) (frz_of nl hS) e
  · obtain ⟨_, _, _, _, _, _, _, _, _, _, _, _, z⟩ := z
    exact z.elim
end VB
end DL
end S_Rules10
section S_Rules11
set_option Elab.async false
set_option linter.all false
set_option maxRecDepth 100000
set_option maxHeartbeats 2000000
/-! Rules11: bits, counts, isinstance of an own class, defaults, two clauses. -/
namespace DL
open PySem PySem.Spec PyProof.Rows L2
variable [tbs : TabsT] [TC : TabsC]
section
variable {X : Cx} {ep : List (Addr × Obj)} {W : WX} {a b c : Expr} {da db dc : DE} {pos p apos : Pos}
theorem so_oShl : OpR X (binaryOp .LShift) (rD (rc X ep) oShl) := by
  intro pins s σ H x' y' v u Q I rx ry ⟨as, G, x, y, rg, hx, hy, h⟩
  unfold oShl at h
  split at h
  · rename_i i j
    split at h
    · rename_i hl
      have h3 := Nat.le_of_ble_eq_true hl.2.2
      have hb : Builtin.Int.intBits i ≤ i.natAbs.log2 + 1 := by
        unfold Builtin.Int.intBits
        split <;> omega
      have e : (2 : Int) ^ 27 = 134217728 := by decide
      refine op_shlW pins s σ H _ _ v u Q I rx ry ⟨_, _, hx.int, hy.int, ⟨hl.2.1, ?_⟩, h _ _ _ .refl rg .mkInt⟩
      rw [e]
      omega
    · exact h.elim
  · exact h.elim
theorem so_oShr : OpR X (binaryOp .RShift) (rD (rc X ep) oShr) := by
  intro pins s σ H x' y' v u Q I rx ry ⟨as, G, x, y, rg, hx, hy, h⟩
  unfold oShr at h
  split at h
  · split at h
    · rename_i hl
      exact op_shr pins s σ H _ _ v u Q I rx ry ⟨_, _, hx.int, hy.int, hl, h _ _ _ .refl rg .mkInt⟩
    · exact h.elim
  · exact h.elim
theorem so_oBand : OpR X (binaryOp .BitAnd) (rD (rc X ep) oBand) := by
  intro pins s σ H x' y' v u Q I rx ry ⟨as, G, x, y, rg, hx, hy, h⟩
  unfold oBand at h
  split at h
  · split at h
    · rename_i hl
      refine op_and pins s σ H _ _ v u Q I rx ry ⟨_, _, hx.int, hy.int, ?_⟩
      show Q (.int (Builtin.bitAnd _ _)) H
      rw [bitAnd_pp hl.1 hl.2]
      exact h _ _ _ .refl rg .mkInt
    · exact h.elim
  · exact h.elim
theorem so_oBor : OpR X (binaryOp .BitOr) (rD (rc X ep) oBor) := by
  intro pins s σ H x' y' v u Q I rx ry ⟨as, G, x, y, rg, hx, hy, h⟩
  unfold oBor at h
  split at h
  · split at h
    · rename_i hl
      refine op_or pins s σ H _ _ v u Q I rx ry ⟨_, _, hx.int, hy.int, ?_⟩
      show Q (.int (Builtin.bitOr _ _)) H
      rw [bitOr_nn hl.1 hl.2]
      exact h _ _ _ .refl rg .mkInt
    · exact h.elim
  · exact h.elim
theorem so_oBxor : OpR X (binaryOp .BitXor) (rD (rc X ep) oBxor) := by
  intro pins s σ H x' y' v u Q I rx ry ⟨as, G, x, y, rg, hx, hy, h⟩
  unfold oBxor at h
  split at h
  · split at h
    · rename_i hl
      refine op_xor pins s σ H _ _ v u Q I rx ry ⟨_, _, hx.int, hy.int, ?_⟩
      show Q (.int (Builtin.bitXor _ _)) H
      rw [Bits.bitXor_pp hl.1 hl.2]
      exact h _ _ _ .refl rg .mkInt
    · exact h.elim
  · exact h.elim
theorem sm_count : MtR X "list.count" (rM (rc X ep) mCount) := by
  intro pins s σ H x' vs' v us Q I rx rv ⟨as, G, x, vs, rg, hx, hv, h⟩
  unfold mCount at h
  split at h
  · rename_i k
    split at h
    · rename_i xs q
      cases q2 : asInts xs with
      | none => rw [q2] at h; exact h.elim
      | some is =>
        rw [q2] at h
        obtain ⟨w, rfl, ry⟩ := hv.one
        cases x with
        | ref i =>
          unfold asList at q
          simp only at q
          cases q3 : G[i]? with
          | none => rw [q3] at q; cases q
          | some o =>
            rw [q3] at q
            cases o with
            | lst zs =>
              cases q
              obtain ⟨a, ys, ha, rfl, h1, r1⟩ := RV.lst rg hx q3
              have e := r1.ints q2
              subst e
              exact mt_lcount pins s σ H _ _ v us Q I rx rv ⟨a, is, k, rfl, by rw [ry.int], SqL.of h1, h _ _ _ .refl rg .mkInt⟩
            | _ => cases q
        | _ => cases q
    · exact h.elim
  · exact h.elim
theorem se_isC {c : Nat} {Ca : Addr} {x : Str} {p2 : Pos} (T : ClsOk X.K X.mg c Ca) (hx : nameOf c = x) (ic : C8.InsC X.K Ca) (hmi : X.mg "isinstance" = none) (hgi : Gl X "isinstance") (hgt : Gl X x) (ha : SndE X ep W a da) (hn : x ≠ "__name__" := by decide) (hdb : (x == ("__debug__" : Str)) = false := by decide)
    (he : starEach [a, .Name x p2] X.env = (false, eval a X.env) :: starEach [.Name x p2] X.env := by rfl) (he2 : starEach [.Name x p2] X.env = (false, eval (.Name x p2) X.env) :: starEach [] X.env := by rfl) (hpl : (backTo pos (starEach [.Name x p2] X.env)).any (·.1) = false := by rfl) :
    SndE X ep W (.Call (.Name "isinstance" p) [a, .Name x p2] [] pos) (dIsC c da) := by
  subst hx
  refine (pe_callB (C8.call_isC ic) hgi hmi (by decide +kernel) (pa_cons ha (pa_cons (pe_glob (v := .ref Ca) hgt T.mg rfl hdb) pa_nil he2) he) (by decide) (by decide) he hpl).imp fun σ H Q ⟨as, G, S, rg, rs, h⟩ => tD.bind rg rs h fun x G1 as1 H1 x' e1 rg1 rs1 rx h1 => ?_
  split at h1
  · rename_i hi
    unfold isC at hi
    split at hi
    · rename_i i
      split at hi
      · rename_i d fs q
        have hd : c = d := of_decide_eq_true hi
        subst hd
        obtain ⟨a0, ha0, rfl⟩ := rx.ref
        obtain ⟨ho, h2, Ca', dx, ys, hm, rfl, _⟩ := rg1.at q ha0
        have : Ca' = Ca := by
          have e2 := T.mg.symm.trans hm
          cases e2
          rfl
        subst this
        exact ⟨a0, dx, ys, rfl, h2, h1 _ _ _ .refl rg1 .mkBl⟩
      · cases hi
    · cases hi
  · exact h1.elim
end
/-! ### two clauses -/
theorem lc2_imp {C : RC} {W : WX} {vs vs1 : List Nat} {di di1 : DI} {g g1 : DG} {t t1 : DT} {e : DE} {σ : St} {H : Hp} {Q : VK} (h : tDE C W (dLc2 vs vs1 di g t di1 g1 t1 e) σ H Q) :
    tLc2 (tD C W (RI C) di) (tDw C W0 vs g) (tDT C W0 t) (tD C W0 (RI C) di1) (tDw C W0 vs1 g1) (tDT C W0 t1) (tDE C W0 e) vs vs1 σ H Q := by
  obtain ⟨as, G, S, rg, rs, h⟩ := h
  refine tD.bind rg rs h fun p G1 as1 H1 J e1 rg1 rs1 hJ h1 => fun D hD => ?_
  obtain ⟨xs, chk⟩ := p
  have eD : Ext as1 H1 (as1 ++ [D]) (L2.upd H1 D (.lst [])) := Ext.new hD
  have rgD : RelG C (as1 ++ [D]) (G1 ++ [.lst []]) (L2.upd H1 D (.lst [])) := rg1.new hD ⟨[], rfl, .nil⟩
  refine ⟨fun i m H => m = xs.length - i ∧ i ≤ xs.length ∧ ∃ as2 G2, Ext (as1 ++ [D]) (L2.upd H1 D (.lst [])) as2 H ∧ RelG C as2 G2 H ∧ tR C W (RV C) (lc2L chk g t di1 g1 t1 e vs vs1 (DL.wipe S vs) G1.length (xs.drop i) G2) as2 H σ Q, ⟨_, rfl, Nat.zero_le _, _, _, .refl, rgD, tR.step eD h1⟩, ?_⟩
  rintro i m H2 ⟨rfl, hle, as2, G2, e2, rg2, h2⟩
  have rD : RV C as2 H2 (.ref G1.length) (.ref D) := .mkRef (e2.at rg1.newAt)
  have sv := hJ i as2 G2 H2 (eD.trans e2) rg2
  have rs2 : RS C as2 H2 (DL.wipe S vs) (L2.wipe σ vs) := rs_wipe (rs1.mono (eD.trans e2)) vs
  by_cases hlt : i < xs.length
  · have hx : xs[i]? = some xs[i] := List.getElem?_eq_getElem hlt
    rw [List.drop_eq_getElem_cons hlt] at h2
    simp only [lc2L] at h2
    split at h2
    · rename_i hst
      have sv := sv hst hle
      rw [hx] at sv
      obtain ⟨hgo, hyl⟩ := sv
      refine .inr ⟨hgo, fun H' => ∃ as3 G3, Ext (as1 ++ [D]) (L2.upd H1 D (.lst [])) as3 H' ∧ RelG C as3 G3 H' ∧ tR C W (RV C) (lc2L chk g t di1 g1 t1 e vs vs1 (DL.wipe S vs) G1.length (xs.drop (i + 1)) G3) as3 H' σ Q, fun H' n => ⟨xs.length - (i + 1), by omega, rfl, hlt, n⟩, fun v H' y => ?_⟩
      obtain ⟨e3, rg3, rv⟩ := hyl v H' y
      refine ⟨as2, G2, DL.wipe S vs, xs[i], rg3, rs2.mono e3, rv, ?_⟩
      have h3 := tR.step e3 h2
      cases q : g xs[i] (DL.wipe S vs) G2 with
      | nx S4 G4 =>
        rw [q] at h3
        refine fun as4 H4 σ4 e4 rg4 rs4 sm => ⟨wipe_same sm, as4, G4, S4, rg4, rs4, ?_⟩
        have h4 := tR.step e4 h3
        simp only at h4
        cases q2 : t S4 G4 with
        | ok b G5 =>
          rw [q2] at h4
          intro as5 H5 b' e5 rg5 rb
          obtain rfl : b = b' := rb
          have h5 := tR.step e5 h4
          cases b with
          | false =>
            rw [if_neg Bool.false_ne_true]
            exact ⟨as5, G5, e2.trans (e3.trans (e4.trans e5)), rg5, h5⟩
          | true =>
            rw [if_pos rfl]
            refine ⟨as5, G5, S4, rg5, rs4.mono e5, ?_⟩
            simp only at h5
            cases q3 : di1 S4 G5 with
            | ok p1 G6 =>
              rw [q3] at h5
              obtain ⟨ys, chk1⟩ := p1
              intro as6 H6 J1 e6 rg6 hJ1
              have h6 := tR.step e6 h5
              simp only at h6
              have rs6 : RS C as6 H6 S4 σ4 := (rs4.mono e5).mono e6
              have eb : Ext (as1 ++ [D]) (L2.upd H1 D (.lst [])) as6 H6 := e2.trans (e3.trans (e4.trans (e5.trans e6)))
              -- the second clause's own loop
              refine ⟨fun j k H => k = ys.length - j ∧ j ≤ ys.length ∧ ∃ as7 G7, Ext as6 H6 as7 H ∧ RelG C as7 G7 H ∧ tR C W (RV C) (lcK (lcL chk1 g1 t1 e vs1 (DL.wipe S4 vs1) G1.length (ys.drop j) G7) fun G4 => lc2L chk g t di1 g1 t1 e vs vs1 (DL.wipe S vs) G1.length (xs.drop (i + 1)) G4) as7 H σ Q, ⟨_, rfl, Nat.zero_le _, _, _, .refl, rg6, h6⟩, ?_⟩
              rintro j k H7 ⟨rfl, hle7, as7, G7, e7, rg7, h7⟩
              have rD7 : RV C as7 H7 (.ref G1.length) (.ref D) := .mkRef ((eb.trans e7).at rg1.newAt)
              have sv1 := hJ1 j as7 G7 H7 e7 rg7
              have rs7 : RS C as7 H7 (DL.wipe S4 vs1) (L2.wipe σ4 vs1) := rs_wipe (rs6.mono e7) vs1
              by_cases hlt7 : j < ys.length
              · have hy : ys[j]? = some ys[j] := List.getElem?_eq_getElem hlt7
                rw [List.drop_eq_getElem_cons hlt7] at h7
                simp only [lcL] at h7
                split at h7
                · rename_i hst1
                  have sv1 := sv1 hst1 hle7
                  rw [hy] at sv1
                  obtain ⟨hgo1, hyl1⟩ := sv1
                  refine .inr ⟨hgo1, fun H' => ∃ as8 G8, Ext as6 H6 as8 H' ∧ RelG C as8 G8 H' ∧ tR C W (RV C) (lcK (lcL chk1 g1 t1 e vs1 (DL.wipe S4 vs1) G1.length (ys.drop (j + 1)) G8) fun G4 => lc2L chk g t di1 g1 t1 e vs vs1 (DL.wipe S vs) G1.length (xs.drop (i + 1)) G4) as8 H' σ Q, fun H' n => ⟨ys.length - (j + 1), by omega, rfl, hlt7, n⟩, fun v1 H' y1 => ?_⟩
                  obtain ⟨e8, rg8, rv1⟩ := hyl1 v1 H' y1
                  refine ⟨as7, G7, DL.wipe S4 vs1, ys[j], rg8, rs7.mono e8, rv1, ?_⟩
                  have h8 := tR.step e8 h7
                  cases q5 : g1 ys[j] (DL.wipe S4 vs1) G7 with
                  | nx S9 G9 =>
                    rw [q5] at h8
                    refine fun as9 H9 σ9 e9 rg9 rs9 sm9 => ⟨wipe_same sm9, as9, G9, S9, rg9, rs9, ?_⟩
                    have h9 := tR.step e9 h8
                    simp only at h9
                    cases q6 : t1 S9 G9 with
                    | ok b1 G10 =>
                      rw [q6] at h9
                      intro as10 H10 b1' e10 rg10 rb1
                      obtain rfl : b1 = b1' := rb1
                      have h10 := tR.step e10 h9
                      cases b1 with
                      | false =>
                        rw [if_neg Bool.false_ne_true]
                        exact ⟨as10, G10, e7.trans (e8.trans (e9.trans e10)), rg10, h10⟩
                      | true =>
                        rw [if_pos rfl]
                        refine ⟨as10, G10, S9, rg10, rs9.mono e10, ?_⟩
                        simp only at h10
                        cases q7 : e S9 G10 with
                        | ok z G11 =>
                          rw [q7] at h10
                          intro as11 H11 z' e11 rg11 rz
                          have h11 := tR.step e11 h10
                          simp only at h11
                          cases q8 : G11[G1.length]? with
                          | none => rw [q8] at h11; exact h11.elim
                          | some o =>
                            rw [q8] at h11
                            cases o with
                            | lst acc =>
                              simp only at h11
                              split at h11
                              · rename_i hacc
                                have hD11 := rD7.mono (e8.trans (e9.trans (e10.trans e11)))
                                obtain ⟨pa, zs, hpa, hva, hHa, hra⟩ := RV.lst rg11 hD11 q8
                                cases hva
                                refine ⟨zs, hHa, ?_, as11, _, (e7.trans (e8.trans (e9.trans (e10.trans e11)))).trans (Ext.wr (fun ws => by rw [hHa]; simp) (.inl (List.mem_of_getElem? hpa))), rg11.write (o := .lst (acc ++ [z])) hpa (fun ws => by rw [hHa]; simp) ⟨_, rfl, hra.append (.cons rz .nil)⟩, tR.step (Ext.wr (fun ws => by rw [hHa]; simp) (.inl (List.mem_of_getElem? hpa))) h11⟩
                                rw [← hra.length]
                                exact hacc
                              · exact h11.elim
                            | _ => exact h11.elim
                        | exn _ _ => rw [q7] at h10; exact h10.elim
                        | bad => rw [q7] at h10; exact h10.elim
                    | exn _ _ => rw [q6] at h9; exact h9.elim
                    | bad => rw [q6] at h9; exact h9.elim
                  | _ => rw [q5] at h8; exact h8.elim
                · exact h7.elim
              · have hj' : j = ys.length := by omega
                subst hj'
                rw [List.drop_length] at h7
                unfold lcL at h7
                split at h7
                · rename_i hst1
                  have sv1 := sv1 hst1 (Nat.le_refl _)
                  rw [List.getElem?_eq_none (Nat.le_refl _)] at sv1
                  exact .inl ⟨sv1, as7, G7, eb.trans e7, rg7, h7⟩
                · exact h7.elim
            | exn _ _ => rw [q3] at h5; exact h5.elim
            | bad => rw [q3] at h5; exact h5.elim
        | exn _ _ => rw [q2] at h4; exact h4.elim
        | bad => rw [q2] at h4; exact h4.elim
      | _ => rw [q] at h3; exact h3.elim
    · exact h2.elim
  · have hi' : i = xs.length := by omega
    subst hi'
    rw [List.drop_length] at h2
    unfold lc2L at h2
    split at h2
    · rename_i hst
      have sv := sv hst (Nat.le_refl _)
      rw [List.getElem?_eq_none (Nat.le_refl _)] at sv
      exact .inl ⟨sv, h2 as2 H2 _ .refl rg2 rD⟩
    · exact h2.elim
end DL
end S_Rules11
section S_Rules12
set_option Elab.async false
set_option linter.all false
set_option maxRecDepth 100000
set_option maxHeartbeats 4000000
/-! Rules12: a set made of a list of whole numbers, then sorted. -/
namespace DL
open PySem PySem.Spec PyProof.Rows L2
variable [tbs : TabsT] [TC : TabsC]
section
variable {P : Program} {w : World} {A : Around} {E : Value → Shared → Prop} {s : Shared}
/-- what the set holds behind so many of the numbers -/
def Holds (ks : List Int) (i : Nat) (S : Int → Bool) (m : Nat) : Prop := m ≤ i ∧ ∀ z, S z = true ↔ z ∈ ks.take i
abbrev emptySet (w : World) : Obj := { cls := .type "set", dict := none, data := .set #[] 0 (.fresh 0 0 (!w.params.followText "set-order")) }
theorem Holds.next {ks : List Int} {i m : Nat} {S : Int → Bool} {k : Int} (h : Holds ks i S m) (hk : ks[i]? = some k) : Holds ks (i + 1) (fun j => S j || decide (j = k)) (if S k = true then m else m + 1) := by
  refine ⟨by have := h.1; split <;> omega, fun z => ?_⟩
  rw [List.take_succ, hk, Bool.or_eq_true, decide_eq_true_eq, h.2 z]
  simp
theorem upd_loop {I : Addr} {fp wr : List Addr} {GG : Array GenState → Array GenState → Prop} {n : Nat} {Pv : Nat → Value → Prop} {Stt : Nat → Shared → Prop} {R : Result → Shared → Prop}
    (Wk : WalksS P w A.in1 I fp wr GG n Pv Stt) (B : Addr) (hBf : B ∉ fp) (ks : List Int) (hn : n = ks.length) (hb : n < 4000) (hval : ∀ i v, Pv i v → ∃ k tk, ks[i]? = some k ∧ v = .int k tk)
    (h0 : Heap) (hB0 : h0.get? B = none) (hw0 : ∀ b ∈ wr, h0.get? b = none) : ∀ (d i : Nat) (s : Shared), n - i = d → i ≤ n → Stt i s → (∀ b o, h0.get? b = some o → s.heap.get? b = some o) → (∃ S m, SetR w s.heap B S m ∧ Holds ks i S m) →
      (∀ s' S m, Moved (B :: wr) GG s s' → SetR w s'.heap B S m → Holds ks n S m → (∀ b o, h0.get? b = some o → s'.heap.get? b = some o) → R (.ok (.ret .none)) s') → codeAny (model P w) A (.builtin "set.update.loop" ⟨[.ref B, .ref I], []⟩) R s := by
  have hBw : B ∉ wr := fun h => hBf (Wk.sub _ h)
  have more : ∀ b ∈ wr, b ∈ B :: wr := fun b hb => List.mem_cons_of_mem _ hb
  have stay : ∀ {s s' : Shared}, Moved wr GG s s' → (∀ b o, h0.get? b = some o → s.heap.get? b = some o) → ∀ b o, h0.get? b = some o → s'.heap.get? b = some o := fun hm hk b o e => hm.heap b o (fun z => by rw [hw0 b z] at e; cases e) (hk b o e)
  intro d
  induction d with
  | zero =>
    intro i s hd hi hst hk ⟨S, m, hS, g⟩ hR
    obtain rfl : i = n := by omega
    refine codeAny_builtin F.entry_set_update_loop ?_
    rw [Around.under_plainId F.plain_set_update_loop _]
    show wpAny _ A.in1 (pyNext (.ref I) >>= _) _ _ s
    refine wpAny_bind (Wk.done s _ _ hst fun s' hm => ?_)
    show wpAny _ A.in1 (ret Value.none) _ _ s'
    exact wpAny_pure (hR s' S m (hm.mono more) (hS.at fun o e => hm.heap B o hBw e) g (stay hm hk))
  | succ d ih =>
    intro i s hd hi hst hk ⟨S, m, hS, g⟩ hR
    have hlt : i < n := by omega
    refine codeAny_builtin F.entry_set_update_loop ?_
    rw [Around.under_plainId F.plain_set_update_loop _]
    show wpAny _ A.in1 (pyNext (.ref I) >>= _) _ _ s
    refine wpAny_bind (Wk.item i s _ _ hlt hst fun v s' hP hst' hm => ?_)
    obtain ⟨k, tk, hp, rfl⟩ := hval i v hP
    have hk' := stay hm hk
    have hS' : SetR w s'.heap B S m := hS.at fun o e => hm.heap B o hBw e
    show wpAny _ A.in1 (holding [Value.int k tk] (setAdd B (.int k tk)) >>= _) _ _ s'
    refine wpAny_bind (wpAny_holding ?_)
    unfold setAdd
    refine wpAny_holding ?_
    refine wpAny_bind ((intKind P w).pyHash (intKind_is P w k tk) ?_)
    refine setR_add_hashed (s := { s' with toks := s'.toks + 1 }) hS' (by have := g.1; show _ < 4096; omega) fun h' sb r => ?_
    have hk2 : ∀ b o, h0.get? b = some o → h'.get? b = some o := fun b o e => (sb.2 b (fun z => by rw [z, hB0] at e; cases e)).trans (hk' b o e)
    refine wpAny_pure ⟨plainId_quiet F.plain_set_update_loop _, ih (i + 1) _ (by omega) hlt (Wk.frame _ s' _ _ hst' (Nat.le_add_right _ _) fun b hb o e => ?_) hk2 ⟨_, _, r, g.next hp⟩ fun s'' S2 m2 hm2 hS2 g2 hk3 => ?_⟩
    · rw [sb.2 b (fun z : b = B => hBf (by rw [← z]; exact hb))]
      exact e
    · refine hR s'' S2 m2 (Moved.trans Wk.gtrans ((hm.mono more).then_heap (Nat.le_add_right _ _) fun b o hb e => ?_) hm2) hS2 g2 hk3
      rw [sb.2 b (fun z : b = B => hb (by rw [z]; exact List.mem_cons_self))]
      exact e
theorem call_set_nums {l : Addr} {items : Array Value} (ks : List Int) {Q : Value → Shared → Prop} (hh : A.handled = none) (hl : s.heap.IsList l items) (hit : Vals (ks.map V.int) items.toList) (hb : ks.length < 4000)
    (h : ∀ (h' : Heap) (tk : Nat) (S : Int → Bool) (m : Nat), SetR w h' s.heap.objs.size S m → Holds ks ks.length S m → (∀ b o, s.heap.get? b = some o → h'.get? b = some o) → Q (.ref s.heap.objs.size) { s with heap := h', toks := tk }) :
    wpAny (model P w) A (call (.type "set") [.ref l]) Q E s := by
  have hisz : items.size = ks.length := by
    have q := hit.length
    rw [List.length_map, Array.length_toList] at q
    exact q.symm
  obtain ⟨c, tl, hmro⟩ := F.called_set.mro
  have g1 := F.called_set.made
  have g2 := F.called_set.sub
  refine wpAny_call (codeAny_of_tree ?_)
  show wpAny _ _ (callAny (.type "set") _) _ _ _
  refine wpAny_pure ⟨Code.quiet_builtin _ (by decide +kernel), codeAny_builtin F.entry_type_call ?_⟩
  rw [Around.under_plain (weight_type_call_type "set" [.ref l] []) rfl]
  have g3 := F.called_set.notType
  have g4 := F.called_set.canCreate
  have g5 := F.typeCall_set_1 (.ref l)
  repeat any_goals (first | assumption | wp_step)
  refine codeAny_mono (code_set_led1 (.ref l) (E := E) (Q₁ := fun obj t => obj = .ref s.heap.objs.size ∧ t = { s with heap := s.heap.push (emptySet w) }) ⟨rfl, rfl⟩) fun r t hr => ?_
  cases r with
  | error e => exact hr
  | ok fl =>
    cases fl with
    | ret obj =>
      obtain ⟨rfl, rfl⟩ := hr
      have hS : (s.heap.push (emptySet w)).get? s.heap.objs.size = some (emptySet w) := Heap.get?_push_size _ rfl
      have hT : Shared.TypeIs { s with heap := s.heap.push (emptySet w) } (.ref s.heap.objs.size) "set" := ⟨_, hS, rfl⟩
      have g6 := F.called_set.init.lookup
      have g7 := F.called_set.init.bind (.ref s.heap.objs.size)
      repeat any_goals (first | assumption | wp_step)
      refine codeAny_mono (codeAny_call_builtin (R := wants (fun r t => r = .none ∧ ∃ h' tk S m, t = { s with heap := h', toks := tk } ∧ SetR w h' s.heap.objs.size S m ∧ Holds ks ks.length S m ∧ ∀ b o, s.heap.get? b = some o → h'.get? b = some o) E)
        F.called_set.init.plain F.entry_set_init (check_set_init_1 hT ?_)) fun r2 t2 hr2 => ?_
      · obtain ⟨ol, hol, hcl, nl, hdl⟩ := hl
        obtain ⟨ocls, odict, odata, oslots⟩ := ol
        simp only at hcl hdl
        subst hcl
        subst hdl
        have hol2 : (s.heap.push (emptySet w)).get? l = some { cls := .type "list", dict := odict, data := .seq items nl, slots := oslots } := Heap.get?_push_of_some _ hol
        have g8 := F.sub_list_set
        have g9 := F.sub_list_frozenset
        have g10 : (Value.type "list" == Value.type "dict") = false := by decide
        have hl1 : (s.heap.push (emptySet w)).IsList l items := ⟨_, hol2, rfl, nl, rfl⟩
        unfold Builtin.«set.__init__» noKeywords Builtin.Frozenset.updateFrom
        generalize hPI : pyIter = PI
        wp_walk
        subst hPI
        refine wpAny_pyIter_list hl1 ?_
        refine wpAny_bind (wpAny_runValue ?_)
        have hlS : l < s.heap.objs.size := Heap.lt_size hol
        have hh3 : A.in1.in1.in1.handled = none := by simp [hh]
        have hneI : l ≠ (s.heap.push (emptySet w)).objs.size := by
          rw [Heap.size_push]
          exact fun z => Nat.lt_irrefl _ (Nat.lt_trans hlS (by rw [z]; exact Nat.lt_succ_self _))
        have hSf : s.heap.objs.size ∉ [(s.heap.push (emptySet w)).objs.size, l] := by
          rw [Heap.size_push]
          intro z
          rcases List.mem_cons.mp z with z | z
          · exact Nat.ne_of_lt (Nat.lt_succ_self _) z
          · rw [List.mem_singleton.mp z] at hlS
            exact Nat.lt_irrefl _ hlS
        have hval : ∀ (i : Nat) (v : Value), items[i]? = some v → ∃ k tk, ks[i]? = some k ∧ v = .int k tk := fun i v hv => by
          have q : items.toList[i]? = some v := by rw [Array.getElem?_toList]; exact hv
          have gen : ∀ (ks : List Int) (us : List Value) (i : Nat) (v : Value), Vals (ks.map V.int) us → us[i]? = some v → ∃ k tk, ks[i]? = some k ∧ v = .int k tk := fun ks => by
            induction ks with
            | nil => intro us i v r hv; cases r; simp at hv
            | cons k ks ih =>
              intro us i v r hv
              cases r with
              | cons r1 r2 =>
                cases i with
                | zero =>
                  obtain ⟨tk, rfl⟩ := r1
                  simp at hv
                  exact ⟨k, tk, rfl, hv.symm⟩
                | succ i => exact ih _ i v r2 (by simpa using hv)
          exact gen ks _ i v hit q
        have none_of : ∀ b, s.heap.objs.size ≤ b → s.heap.get? b = none := fun b hb => by
          cases q : s.heap.get? b with
          | none => rfl
          | some o =>
            exact (Nat.not_lt.mpr hb (Heap.lt_size q)).elim
        refine upd_loop ((Walks.list hh3 _ l hneI items).toS) s.heap.objs.size hSf ks hisz (by omega) hval s.heap (none_of _ (Nat.le_refl _)) (fun b hb => none_of b (by
            rw [List.mem_singleton.mp hb, Heap.size_push]
            omega)) (items.size - 0) 0 _ (by omega) (Nat.zero_le _)
          ⟨⟨_, Heap.get?_push_size _ rfl, rfl, rfl⟩, (hl1.push _)⟩ (fun b o e => Heap.get?_push_of_some _ (Heap.get?_push_of_some _ e)) ?hS0 ?hR
        case hS0 =>
          exact ⟨_, 0, (setR_fresh (h := s.heap) w).at fun o e => Heap.get?_push_of_some _ e, Nat.le_refl _, fun z => by simp⟩
        case hR =>
          intro s' S m hm hS2 gg hkp
          obtain ⟨h', g2, d', tk', os'⟩ := s'
          have eg : g2 = s.gens := hm.gens
          have ed : d' = s.drawn := hm.drawn
          have eo : os' = s.os := hm.os
          subst eg ed eo
          show wpAny _ _ _ _ _ _
          refine wpAny_pure ?_
          show wpAny _ _ (ret Value.none) _ _ _
          rw [hisz] at gg
          exact wpAny_pure ⟨rfl, h', tk', S, m, rfl, hS2, gg, hkp⟩
      · cases r2 with
        | error e => exact hr2
        | ok fl2 =>
          cases fl2 with
          | ret r =>
            obtain ⟨rfl, h', tk, S, m, rfl, hS2, gg, hk2⟩ := hr2
            repeat any_goals (first | assumption | wp_step)
            exact h _ _ _ _ hS2 gg hk2
          | _ => exact hr2.elim
    | _ => exact hr.elim
end
/-! ### lists that ascend -/
theorem mem_insI (k z : Int) : ∀ l : List Int, z ∈ insI k l ↔ z = k ∨ z ∈ l
  | [] => by simp [insI]
  | x :: r => by
    unfold insI
    split
    · simp
    · split
      · rename_i h
        subst h
        simp
      · rw [List.mem_cons, mem_insI k z r, List.mem_cons]
        constructor
        · rintro (h | h | h) <;> simp [h]
        · rintro (h | h | h) <;> simp [h]
theorem asc_insI (k : Int) : ∀ l : List Int, l.Pairwise (· < ·) → (insI k l).Pairwise (· < ·)
  | [], _ => by simp [insI]
  | x :: r, h => by
    have h1 := List.pairwise_cons.mp h
    unfold insI
    split
    · rename_i hk
      refine List.pairwise_cons.mpr ⟨fun z hz => ?_, h⟩
      rcases List.mem_cons.mp hz with rfl | hz
      · exact hk
      · have := h1.1 z hz
        omega
    · split
      · exact h
      · refine List.pairwise_cons.mpr ⟨fun z hz => ?_, asc_insI k r h1.2⟩
        rcases (mem_insI k z r).mp hz with rfl | hz
        · omega
        · exact h1.1 z hz
theorem mem_sortU (z : Int) : ∀ l : List Int, z ∈ sortU l ↔ z ∈ l
  | [] => by simp [sortU]
  | x :: r => by rw [sortU, mem_insI, mem_sortU z r, List.mem_cons]
theorem asc_sortU : ∀ l : List Int, (sortU l).Pairwise (· < ·)
  | [] => by simp [sortU]
  | x :: r => by rw [sortU]; exact asc_insI x _ (asc_sortU r)
theorem asc_unique : ∀ {a b : List Int}, a.Pairwise (· < ·) → b.Pairwise (· < ·) → (∀ z, z ∈ a ↔ z ∈ b) → a = b
  | [], [], _, _, _ => rfl
  | [], y :: b, _, _, h => by have := (h y).mpr (by simp); simp at this
  | x :: a, [], _, _, h => by have := (h x).mp (by simp); simp at this
  | x :: a, y :: b, ha, hb, h => by
    have h1 := List.pairwise_cons.mp ha
    have h2 := List.pairwise_cons.mp hb
    have e : x = y := by
      have m1 := (h x).mp (by simp)
      have m2 := (h y).mpr (by simp)
      rcases List.mem_cons.mp m1 with e | m1
      · exact e
      · rcases List.mem_cons.mp m2 with e | m2
        · exact e.symm
        · have := h2.1 x m1
          have := h1.1 y m2
          omega
    subst e
    refine congrArg _ (asc_unique h1.2 h2.2 fun z => ⟨fun m => ?_, fun m => ?_⟩)
    · rcases List.mem_cons.mp ((h z).mp (List.mem_cons_of_mem _ m)) with e | m'
      · have := h1.1 z m
        omega
      · exact m'
    · rcases List.mem_cons.mp ((h z).mpr (List.mem_cons_of_mem _ m)) with e | m'
      · have := h2.1 z m
        omega
      · exact m'
theorem same_len {a b : List Int} (ha : a.Nodup) (hb : b.Nodup) (h : ∀ z, z ∈ a ↔ z ∈ b) : a.length = b.length :=
  ((List.perm_ext_iff_of_nodup ha hb).mpr h).length_eq
theorem asc_nodup {a : List Int} (h : a.Pairwise (· < ·)) : a.Nodup := h.imp fun h e => by omega
section
variable {X : Cx} {ep : List (Addr × Obj)} {W : WX} {a : Expr} {da : DE} {pos p p2 pos2 : Pos}
theorem RVs.ofInts {C : RC} {as : List Addr} {H : Hp} : ∀ is : List Int, RVs C as H (is.map VV.int) (is.map V.int)
  | [] => .nil
  | _ :: is => .cons .mkInt (RVs.ofInts is)
/-- set(xs), xs a list of whole numbers -/
def rSetI (K : PySem.W.Frag) (w : World) : List V → Hp → VK → Prop := fun xs H Q => ∃ (l : Addr) (ks : List Int), xs = [V.ref l] ∧ SqL K H l (ks.map V.int) ∧ ks.length < 4000 ∧
  ∀ (b : Addr) (S : Int → Bool), H b = none → (∀ z, S z = true ↔ z ∈ ks) → Q (.ref b) (upd H b (SetO w b S (sortU ks).length))
theorem cr_setI (hc : X.calm = true) : CallR X (.type "set") (rSetI X.K X.w) := by
  intro pins s σ H xs us Q I r h
  obtain ⟨l, ks, rfl, hl, hb, q⟩ := h
  rw [Vals.ref1 r]
  obtain ⟨its, rv, pl, hz⟩ := I.list hl
  have hn : H s.heap.objs.size = none := I.hok.fresh (Nat.le_refl _)
  refine call_set_nums (P := X.prog) (w := X.w) ks (I.ok.hd hc) pl.isList (by simpa using rv) hb fun h' tk S m R g k => ?_
  have hS : ∀ z, S z = true ↔ z ∈ ks := fun z => by have := g.2 z; rwa [List.take_length] at this
  have hm : m = (sortU ks).length := by
    obtain ⟨o, es, e2, t, _, _, _, _, nd, mem, _, _, sz, _⟩ := R
    rw [← sz, ← Array.length_toList, ← List.length_map (f := keyOf) (as := es.toList)]
    exact same_len nd (asc_nodup (asc_sortU ks)) fun z => by rw [← mem z, hS z, mem_sortU]
  subst hm
  exact ⟨.ref s.heap.objs.size, upd H s.heap.objs.size (SetO X.w s.heap.objs.size S (sortU ks).length), I.laid (t' := tk) k (Nat.le_refl _) (setO_new R), rfl, q _ S hn hS⟩
theorem se_sortSet (hc : X.calm = true) (hms : X.mg "sorted" = none) (hmt : X.mg "set" = none) (hgs : Gl X "sorted") (hgt : Gl X "set") (ha : SndE X ep W a da)
    (he : starEach [a] X.env = (false, eval a X.env) :: starEach [] X.env := by rfl) (hpl : (backTo pos2 (starEach [] X.env)).any (·.1) = false := by rfl)
    (he2 : starEach [.Call (.Name "set" p2) [a] [] pos2] X.env = (false, eval (.Call (.Name "set" p2) [a] [] pos2) X.env) :: starEach [] X.env := by rfl) (hpl2 : (backTo pos (starEach [] X.env)).any (·.1) = false := by rfl) :
    SndE X ep W (.Call (.Name "sorted" p) [.Call (.Name "set" p2) [a] [] pos2] [] pos) (dSortSet da) :=
  (pe_callB (cr_sortedSet hc) hgs hms (by decide +kernel) (pa_cons (pe_callTy (cr_setI hc) hgt hmt (by decide +kernel) (pa_cons ha pa_nil he) (by decide) (by decide) he hpl) pa_nil he2) (by decide) (by decide) he2 hpl2).imp fun σ H Q ⟨as, G, S, rg, rs, h⟩ =>
    tD.bind rg rs h fun x G1 as1 H1 x' e1 rg1 rs1 rx h1 => by
      unfold oSortSet at h1
      cases q : asList G1 x with
      | none => rw [q] at h1; exact h1.elim
      | some xs =>
        rw [q] at h1
        simp only at h1
        cases q2 : asInts xs with
        | none => rw [q2] at h1; exact h1.elim
        | some is =>
          rw [q2] at h1
          simp only at h1
          split at h1
          · rename_i hl
            cases x with
            | ref i =>
              unfold asList at q
              simp only at q
              cases q3 : G1[i]? with
              | none => rw [q3] at q; cases q
              | some o =>
                rw [q3] at q
                cases o with
                | lst zs =>
                  cases q
                  obtain ⟨a0, ys, ha0, rfl, h2, r1⟩ := RV.lst rg1 rx q3
                  have ei := r1.ints q2
                  subst ei
                  refine ⟨a0, is, rfl, SqL.of h2, hl.1, fun b SS hb hSS => ⟨b, SS, _, rfl, upd_same, hl.2, fun ns pp asc mem hlen hp => ?_⟩⟩
                  have en : ns = sortU is := asc_unique asc (asc_sortU is) fun z => by rw [mem z, hSS z, mem_sortU]
                  subst en
                  have e2 : Ext as1 H1 as1 (upd H1 b (SetO X.w b SS (sortU is).length)) := Ext.side hb
                  have rg2 := rg1.side (o := SetO X.w b SS (sortU is).length) hb
                  exact h1 _ _ _ (e2.trans (Ext.new hp)) (rg2.new hp ⟨_, rfl, RVs.ofInts _⟩) (.mkRef rg2.newAt)
                | _ => cases q
            | _ => cases q
          · exact h1.elim
end
end DL
end S_Rules12
section S_Rules13
set_option Elab.async false
set_option linter.all false
set_option maxRecDepth 100000
set_option maxHeartbeats 2000000
/-! Rules13: two clauses in a comprehension; keyword-only parameters with defaults. -/
namespace DL
open PySem PySem.Spec PyProof.Rows L2
variable [tbs : TabsT] [TC : TabsC]
section
variable {X : Cx} {ep : List (Addr × Obj)} {W : WX} {pos p : Pos}
theorem sw_sub {ws vs : List Nat} {e : Expr} {d : DG} (hs : ∀ j ∈ ws, j ∈ vs) (h : SndW' X ep W ws e d) : SndW' X ep W vs e d :=
  h.imp fun v σ H Q ⟨as, G, S, x, rg, rs, rx, q⟩ => by
    refine ⟨as, G, S, x, rg, rs, rx, ?_⟩
    cases r : d x S G with
    | nx S1 G1 =>
      rw [r] at q
      exact fun as' H' σ' e1 rg1 rs1 sm => q as' H' σ' e1 rg1 rs1 (sm.sub hs)
    | rt _ _ => rw [r] at q; exact q
    | bk _ _ => rw [r] at q; exact q
    | ct _ _ => rw [r] at q; exact q
    | exn _ _ _ => rw [r] at q; exact q
    | bad => rw [r] at q; exact q
theorem se_lc2 {elt tg iter tg1 iter1 : Expr} {ifs ifs1 : List Expr} {scope : Scope} (own : List (Str × Nat)) (vs1 : List Nat) {vs : List Nat} {di di1 : DI} {g g1 : DG} {t t1 : DT} {d : DE} (hc : X.calm = true) (hN : X.N.Nodup) (hi : SndI X ep W tg iter di)
    (hg : ∀ (s : Shared) (H : Hp) (C : Addr) (cl : List (Str × Addr)) (fp : List Addr), SndW' (X.blk s H scope (compEnvC scope cl C X.env) fp) ep W0 vs tg g)
    (ht : ∀ (s : Shared) (H : Hp) (C : Addr) (cl : List (Str × Addr)) (fp : List Addr), SndTs (X.blk s H scope (compEnvC scope cl C X.env) fp) ep W0 ifs t)
    (hi1 : ∀ (s : Shared) (H : Hp) (C : Addr) (cl : List (Str × Addr)) (fp : List Addr), SndI (X.blk s H scope (compEnvC scope cl C X.env) fp) ep W0 tg1 iter1 di1)
    (hg1 : ∀ (s : Shared) (H : Hp) (C : Addr) (cl : List (Str × Addr)) (fp : List Addr), SndW' (X.blk s H scope (compEnvC scope cl C X.env) fp) ep W0 vs1 tg1 g1)
    (ht1 : ∀ (s : Shared) (H : Hp) (C : Addr) (cl : List (Str × Addr)) (fp : List Addr), SndTs (X.blk s H scope (compEnvC scope cl C X.env) fp) ep W0 ifs1 t1)
    (he : ∀ (s : Shared) (H : Hp) (C : Addr) (cl : List (Str × Addr)) (fp : List Addr), SndE (X.blk s H scope (compEnvC scope cl C X.env) fp) ep W0 elt d)
    (ok : BlkOk X.N X.env.scope scope own) (hv1 : ∀ i ∈ vs1, i ∈ own.map (·.2) := by decide) (hv : own.map (·.2) = vs := by rfl) (hs : ∀ x, foldedSetIterable iter X.env x = pure x := by intro _; rfl) (hs1 : ∀ env x, foldedSetIterable iter1 env x = pure x := by intro _ _; rfl) :
    SndE X ep W (.ListComp elt [⟨tg, iter, ifs, 0⟩, ⟨tg1, iter1, ifs1, 0⟩] scope pos) (dLc2 vs vs1 di g t di1 g1 t1 d) := by
  subst hv
  exact (pe_lc2 hc hN hi ok hv1 hg ht hi1 hg1 ht1 he hs hs1).imp fun σ H Q h => lc2_imp h
end
theorem fold_rep (c : Nat) : ∀ (m : Nat) (acc : Array Nat), (List.replicate m #[c]).foldl (· ++ ·) acc = acc ++ (List.replicate m c).toArray
  | 0, acc => by simp
  | m + 1, acc => by
    rw [List.replicate_succ, List.foldl_cons, fold_rep c m, List.replicate_succ]
    apply Array.ext'
    simp
theorem mul_one_sign (c : Nat) (k : Int) : Txt.mul (mkS [c]) k = mkS (List.replicate k.toNat c) := by
  unfold Txt.mul
  by_cases h : k < 1
  · rw [if_pos h]
    have : k.toNat = 0 := by omega
    rw [this]
    rfl
  · rw [if_neg h]
    by_cases h1 : k = 1
    · subst h1
      rfl
    · have e : (k == 1 || (mkS [c]).length == 0) = false := by
        have : (k == 1) = false := by simpa using h1
        rw [this]
        rfl
      rw [e]
      simp only [Bool.false_eq_true, if_false]
      show (⟨_⟩ : Str) = ⟨_⟩
      congr 1
      have := fold_rep c k.toNat #[]
      show List.foldl (fun x1 x2 => x1 ++ x2) #[] (List.replicate k.toNat #[c]) = _
      refine this.trans ?_
      simp
theorem so_oMulS {X : Cx} {ep : List (Addr × Obj)} : OpR X (binaryOp .Mult) (rD (rc X ep) oMulS) := by
  intro pins s σ H x' y' v u Q I rx ry ⟨as, G, x, y, rg, hx, hy, h⟩
  unfold oMulS at h
  split at h
  · rename_i c k
    split at h
    · rename_i hl
      have hk := Nat.le_of_ble_eq_true hl
      have hs := hx.sok
      have e1 := hx.str
      have e2 := hy.int
      subst e1 e2
      obtain ⟨t, rfl⟩ := rx
      obtain ⟨t', rfl⟩ := ry
      have ok : sOk (List.replicate k.toNat c) = true := by
        unfold sOk at hs ⊢
        rw [List.all_eq_true] at hs ⊢
        intro z hz
        exact hs z (by rw [(List.mem_replicate.mp hz).2]; simp)
      have mo : PySem.MulOk (mkS [c]) k := by
        have hl1 : (mkS [c]).length = 1 := rfl
        refine ⟨?_, fun h1 _ => ?_, fun h1 _ => ?_⟩
        · rw [Bool.or_eq_false_iff, decide_eq_false_iff_not, decide_eq_false_iff_not]
          omega
        · rw [hl1]
          have : (1000 : Int) ≤ (2 ^ 63 - 1) / k := by
            rw [Int.le_ediv_iff_mul_le (by omega)]
            omega
          omega
        · rw [hl1]
          unfold Builtin.Str.tooLong
          rw [decide_eq_false_iff_not, sizeLine_eq]
          omega
      refine SB.mul mo fun t'' k' => ⟨.str (mkS (List.replicate k.toNat c)), H, I.tok _, ⟨_, by rw [mul_one_sign]⟩, h _ _ _ .refl rg (.mkStr ok)⟩
    · exact h.elim
  · exact h.elim
/-- a def whose keyword-only parameters stand at their defaults (whole numbers) -/
structure DefOkD (P : Program) (w : World) (K : PySem.W.Frag) (mg : Str → Option Value) (base : Heap) (k : Nat) (f : Addr) (ps : List Str) (ds : List Int) (fn : Fn) : Prop where
  ex : ∃ fd us, FnD P w K mg base k f fd ps fn ∧ Vals (ds.map V.int) us ∧ Binds K fd ps us
  kp : PySem.W.keepIn K (.ref f) = true
  ar : ∀ vs G, vs.length ≠ ps.length → fn vs G = .bad
theorem DefOkD.mono {P : Program} {w : World} {K : PySem.W.Frag} {mg : Str → Option Value} {base : Heap} {k k' : Nat} {f : Addr} {ps : List Str} {ds : List Int} {fn : Fn} (h : DefOkD P w K mg base k f ps ds fn) (hk : k ≤ k') : DefOkD P w K mg base k' f ps ds fn := by
  obtain ⟨⟨fd, us, F1, F3, F2⟩, kp, ar⟩ := h
  exact ⟨⟨fd, us, F1.mono hk, F3, F2⟩, kp, ar⟩
theorem def_okD {P : Program} {w : World} {K : PySem.W.Frag} {mg : Str → Option Value} {base : Heap} {x qual : Str} {params : Arguments} {body : List Stmt} {scope : Scope} {f : Addr} {fd : FuncData} {N ps : List Str} {k n : Nat} {b : DS} {kws : List (Str × V)} {ds : List Int}
    (F : FunD K x qual params body scope [] kws f fd) (hkw : kws.map (·.2) = ds.map V.int) (hbd : ∃ us, Vals (kws.map (·.2)) us ∧ Binds K fd ps us) (S : FnScope N ps scope) (hN : N.length = n) (hp : ps.length ≤ n)
    (hbody : ∀ (cdv : Value) (A : Around) (outer : List PySem.Env) (s : Shared) (H : Hp) (E : XK), Room k (A.deeper (envOfC qual scope s.heap.objs.size f cdv)) → SndSs (cxOf (L2.CX P w) P w K mg base N qual scope f cdv A outer s H E) [] (fun cls d _ H => E cls d H) body b) :
    DefOkD P w K mg base (k + 1) f ps ds (dDef ps.length n b) := by
  obtain ⟨us, hv, hb⟩ := hbd
  rw [hkw] at hv
  refine ⟨⟨fd, us, F.ok S (fun vs H Q E h => h.1) (fun cdv A outer s H vs Q E hr h => ⟨_, hbody cdv A outer s H E hr, body_read hN hp h⟩), hv, hb⟩, F.kp, fun vs G h => ?_⟩
  unfold dDef
  rw [if_neg h]
section
variable {X : Cx} {W : WX} {pos p : Pos} {k : Nat} {g : Addr} {ps : List Str} {fn : Fn} {e : Expr} {es : List Expr} {dr : DA}
theorem se_callD {x : Str} {ds : List Int} {vv : List VV} (F : DefOkD X.prog X.w X.K X.mg X.base k g ps ds fn) (hvv : ds.map VV.int = vv) (hg : Gl X x) (hm : X.mg x = some (.ref g)) (hr : Room k X.A) (tk : Takes X W) (ha : SndA X [] W (e :: es) dr) (hdb : (x == ("__debug__" : Str)) = false := by decide)
    (he : starEach (e :: es) X.env = (false, eval e X.env) :: starEach es X.env := by rfl) (hpl : (backTo pos (starEach es X.env)).any (·.1) = false := by rfl) :
    SndE X [] W (.Call (.Name x p) (e :: es) [] pos) (dCallD fn vv dr) := by
  subst hvv
  obtain ⟨⟨fd, us, F1, F3, F2⟩, kp, ar⟩ := F
  refine (pe_callSD (E := fun σ cls d H' => W cls d σ H') F1 hr hg hm kp F2 F3 (fun σ => L2.passAt tk σ) ha hdb he hpl).imp fun σ H Q ⟨as, G, S, rg, rs, h⟩ => ?_
  refine tD.bind rg rs h fun xs G1 as1 H1 vs e1 rg1 rs1 rxs h1 => ?_
  exact spD_of ar rg1 (rxs.append (RVs.ofInts ds)) (tF_of h1)
end
end DL
end S_Rules13
section S_Rules14
set_option Elab.async false
set_option linter.all false
set_option maxRecDepth 100000
set_option maxHeartbeats 2000000
/-! Rules14: defs within a def. -/
namespace DL
open PySem PySem.Spec PyProof.Rows L2 NdefX LamX
variable [tbs : TabsT] [TC : TabsC]
/-- what is promised of a function made in a body -/
def spC (K : PySem.W.Frag) (mg : Str → Option Value) (np : Nat) (fn : Clo) : List (Option V) → Sp := fun ws' vs H Q E => vs.length = np ∧ ∃ as G xs cs ws, ws' = ws.map some ∧ RelG ⟨K, mg, []⟩ as G H ∧ RVs ⟨K, mg, []⟩ as H xs vs ∧ RVs ⟨K, mg, []⟩ as H cs ws ∧ tF ⟨K, mg, []⟩ (fn cs xs G) as H Q E
theorem spC_of {K : PySem.W.Frag} {mg : Str → Option Value} {np n : Nat} {b : DS} {as : List Addr} {G : Hv} {H : Hp} {xs cs : List VV} {vs ws : List V} {Q : VK} {E : XK} (rg : RelG ⟨K, mg, []⟩ as G H) (r : RVs ⟨K, mg, []⟩ as H xs vs) (rc : RVs ⟨K, mg, []⟩ as H cs ws)
    {fn : Clo} (ar : ∀ cs vs G, vs.length ≠ np → fn cs vs G = .bad) (h : tF ⟨K, mg, []⟩ (fn cs xs G) as H Q E) : spC K mg np fn (ws.map some) vs H Q E := by
  refine ⟨r.length_eq ?_, as, G, xs, cs, ws, rfl, rg, r, rc, h⟩
  by_cases e : xs.length = np
  · exact e
  · rw [ar cs xs G e] at h
    exact h.elim
theorem rs_startC {C : RC} {as : List Addr} {H : Hp} {n : Nat} {N : List Str} (hN : N.length = n) {xs cs : List VV} {vs ws : List V} (r : RVs C as H xs vs) (rc : RVs C as H cs ws) : RS C as H (xs.map some ++ (cs.map some ++ List.replicate (n - xs.length - cs.length) none)) (startF N vs (ws.map some)) := by
  have l1 := r.length
  have l2 := rc.length
  unfold startF
  refine ⟨by simp [l1, l2, hN], fun i x hi => ?_⟩
  by_cases h : i < xs.length
  · rw [List.getElem?_append_left (by simpa using h), List.getElem?_map, List.getElem?_eq_getElem h] at hi
    simp at hi
    obtain ⟨u, hu, ru⟩ := r.get (List.getElem?_eq_getElem h)
    rw [List.getElem?_append_left (by rw [List.length_map]; omega), List.getElem?_map, hu]
    exact ⟨u, rfl, hi ▸ ru⟩
  · rw [List.getElem?_append_right (by simpa using h), List.length_map] at hi
    rw [List.getElem?_append_right (by rw [List.length_map]; omega)]
    simp only [List.length_map]
    rw [← l1]
    by_cases h2 : i - xs.length < cs.length
    · rw [List.getElem?_append_left (by simpa using h2), List.getElem?_map, List.getElem?_eq_getElem h2] at hi
      simp at hi
      obtain ⟨u, hu, ru⟩ := rc.get (List.getElem?_eq_getElem h2)
      rw [List.getElem?_append_left (by rw [List.length_map]; omega), List.getElem?_map, hu]
      exact ⟨u, rfl, hi ▸ ru⟩
    · rw [List.getElem?_append_right (by simpa using h2), List.getElem?_replicate] at hi
      split at hi <;> cases hi
/-- THE RULE for a def within a def -/
theorem clo_ok {P : Program} {w : World} {K : PySem.W.Frag} {mg : Str → Option Value} {base : Heap} {N ps fr : List Str} {F : NF} {f : Addr} {k n : Nat} {b : DS} (S : NScope N ps fr F.scope) (hN : N.length = n)
    (hb : ∀ (doc pm ctv : Value) (us : List Value), us.length = ps.length → bindArgs (F.fd doc pm ctv) ⟨us, []⟩ = pure (ps.zip us))
    (hbody : ∀ (A : Around) (outer : List PySem.Env) (s : Shared) (H : Hp) (E : XK), Room k (A.deeper (envF F f s.heap.objs.size)) → SndSs (ncx (L2.CX P w) P w K mg base N F f A outer s H E) [] (fun cls d _ H => E cls d H) F.body b) :
    NOk P w K mg base (L2.CX P w) (k + 1) f F ps fr (spC K mg ps.length (cloFn ps.length n b)) := by
  refine nok_of S hb (fun _ _ _ _ _ h => h.1) fun A outer s H vs ws' Q E hr _ _ _ h => ⟨_, hbody A outer s H E hr, ?_⟩
  obtain ⟨hl, as, G, xs, cs, ws, rfl, rg, r, rc, h⟩ := h
  unfold cloFn at h
  rw [if_pos (by rw [r.length]; exact hl)] at h
  have h := tF_gc rg h
  refine ⟨as, G, _, rg, rs_startC hN r rc, ?_⟩
  cases q : b (xs.map some ++ (cs.map some ++ List.replicate (n - xs.length - cs.length) none)) G with
  | nx S1 G1 => rw [q] at h; exact fun as' H' σ' e rg' rs' => h as' H' .non e rg' .mkNon
  | rt v G1 => rw [q] at h; exact h
  | exn x S1 G1 => rw [q] at h; exact fun as' H' σ' cls d e rg' rs' rx => h as' H' cls d e rg' rx
  | bk _ _ => rw [q] at h; exact h.elim
  | ct _ _ => rw [q] at h; exact h.elim
  | bad => rw [q] at h; exact h.elim
/-- a function that is held here -/
structure CloAt (X : Cx) (k : Nat) (a : Addr) (ws : List V) (fn : Clo) : Prop where
  ex : ∃ F ps fr, NOk X.prog X.w X.K X.mg X.base (L2.CX X.prog X.w) k a F ps fr (spC X.K X.mg ps.length fn) ∧ (a, FnO a F) ∈ TC.pin ∧ (F.c, CodeO F.c F.qual) ∈ TC.pin ∧ CellsAt F.cl fr (ws.map some) X.s_0.heap X.H_0 ∧ ∀ cs vs G, vs.length ≠ ps.length → fn cs vs G = .bad
/-- all of them -/
def Clos (X : Cx) (k : Nat) (T : Nat → Option Clo) : Prop := ∀ n a ws, TC.clo n = some (a, ws) → ∃ fn, T n = some fn ∧ CloAt X k a ws fn
/-- what the cells held at the beginning they hold still -/
theorem cells_later {X : Cx} {pins : List (Addr × Obj)} {σ : St} {H : Hp} {s : Shared} {cl : List (Str × Addr)} {fr : List Str} {ws : List (Option V)} (hex : X.ex = []) (I : Inv X pins σ H s) (C : CellsAt cl fr ws X.s_0.heap X.H_0) : CellsAt cl fr ws s.heap H := by
  have nx : ∀ c, c ∉ X.ex := fun c => by rw [hex]; simp
  have kp : ∀ y c, cl.lookup y = some c → ∀ v, X.s_0.heap.IsCell c v → s.heap.IsCell c v := fun y c e v ⟨o, ho, hd⟩ => by
    obtain ⟨sl, q⟩ := I.base.any ho (C.all y c e).1 (nx c)
    exact ⟨_, q, hd⟩
  refine ⟨C.len, fun y c e => ?_, C.inj, fun i y e => ?_⟩
  · obtain ⟨n, v, z⟩ := C.all y c e
    refine ⟨?_, v, kp y c e v z⟩
    obtain ⟨o, ho, _⟩ := z
    exact I.base.free c o ho n (nx c)
  · obtain ⟨c, hc, hv⟩ := C.has i y e
    refine ⟨c, hc, fun v ev => ?_⟩
    obtain ⟨u, r, z⟩ := hv v ev
    exact ⟨u, r, kp y c hc _ z⟩
section
variable {X : Cx} {W : WX} {k i : Nat} {T : Nat → Option Clo} {x : Str} {p pos : Pos} {e : Expr} {es : List Expr} {dr : DA}
theorem se_callF (CL : Clos X k T) (hex : X.ex = []) (hr : Room k X.A) (tk : Takes X W) (ha : SndA X [] W (e :: es) dr) (hN : X.N[i]? = some x := by rfl) (hv : Vis X.env.scope x := by first | exact .inl rfl | exact .inr (.inl rfl) | exact .inr (.inr rfl))
    (hd : (x == ("__debug__" : Str)) = false := by decide) (hcd : (x == ("__classdict__" : Str)) = false := by decide)
    (he : starEach (e :: es) X.env = (false, eval e X.env) :: starEach es X.env := by rfl) (hpl : (backTo pos (starEach es X.env)).any (·.1) = false := by rfl) :
    SndE X [] W (.Call (.Name x p) (e :: es) [] pos) (dCallF i T dr) := by
  refine ⟨fun pins s σ H Q I h => ?_⟩
  obtain ⟨as, G, S, rg, rs, h⟩ := h
  unfold dCallF at h
  split at h
  · rename_i n cs hs
    split at h
    · rename_i fn hT
      obtain ⟨v, hv1, rv⟩ := rs.2 i _ hs
      rw [RV] at rv
      obtain ⟨a, ws, hcl, rfl, rws⟩ := rv
      obtain ⟨fn', hT', ⟨F, ps, fr, Fn, p1, p2, C, ar⟩⟩ := CL n a ws hcl
      rw [hT] at hT'
      cases hT'
      refine wpAny_Call_Name_kw (thn ((pe_var (pos := p) hN hv hd hcd).run pins s σ H (fun v H1 => v = .ref a ∧ H1 = H) I ⟨.ref a, hv1, rfl, rfl⟩) fun u s1 ⟨v, H1, I1, r1, q1⟩ => ?_)
      obtain ⟨ev, eH⟩ := q1
      subst ev
      rw [eH] at I1
      obtain rfl : u = Value.ref a := r1
      have ht : tDA (rc X []) W dr σ H fun vs H2 => H2 a = some (FnO a F) ∧ H2 F.c = some (CodeO F.c F.qual) ∧ spC X.K X.mg ps.length fn (ws.map some) vs H2 Q fun cls d H' => W cls d σ H' :=
        tD.bind rg rs h fun xs G1 as1 H1 vs e1 rg1 rs1 rxs h1 => ⟨rg1.tb.2 _ p1, rg1.tb.2 _ p2, spC_of (n := 0) (b := dNext) rg1 rxs (rws.mono e1) ar (tF_of h1)⟩
      refine PySem.W.callWith_F (first := []) (fnAt_of I1 (rg.tb.2 _ p1)) (thn (ha.run pos pins s1 σ H _ I1 ht) fun us s2 ⟨vs, H2, I2, r, h1, h2, q⟩ => ⟨fnAt_of I2 h1, ?_⟩) he hpl
      show wpAny _ _ (call (.ref a) us) _ _ _
      refine wpAny_call (codeAny_mono (Fn.run X.A X.stack s2 H2 us vs _ Q _ hr I2.env0 h1 h2 (cells_later hex I2 C) r q) fun r s' hq => ?_)
      cases r with
      | error e => exact L2.passAt tk σ pins H2 s2 e s' I2 hq
      | ok fl =>
        cases fl with
        | ret u => exact I2.after hq
        | next => exact False.elim hq
        | brk => exact False.elim hq
        | cont => exact False.elim hq
    · exact h.elim
  · exact h.elim
end
end DL
end S_Rules14
section S_Rules15
set_option Elab.async false
set_option linter.all false
set_option maxRecDepth 100000
set_option maxHeartbeats 2000000
/-! Rules15: two defs of a body are handed to a def. -/
namespace DL
open PySem PySem.Spec PyProof.Rows L2 NdefX LamX
section
variable {T : TabsC} {C : RC} {as : List Addr} {H : Hp} {v : V}
theorem RV.non_iff : RV (TC := T) C as H .non v ↔ v = .non := by rw [RV]
theorem RV.bl_iff {b : Bool} : RV (TC := T) C as H (.bl b) v ↔ v = .bl b := by rw [RV]
theorem RV.int_iff {b : Int} : RV (TC := T) C as H (.int b) v ↔ v = .int b := by rw [RV]
theorem RV.str_iff {s : List Nat} : RV (TC := T) C as H (.str s) v ↔ (v = .str (mkS s) ∧ sOk s = true) := by rw [RV]
theorem RV.ref_iff {i : Nat} : RV (TC := T) C as H (.ref i) v ↔ ∃ a, as[i]? = some a ∧ v = .ref a := by rw [RV]
theorem RV.tup_iff {xs : List VV} : RV (TC := T) C as H (.tup xs) v ↔ ∃ a ys, v = .ref a ∧ TupAt C.K H a ys ∧ RVs (TC := T) C as H xs ys := by rw [RV]
theorem RV.exc_iff {c : Nat} {fs : List (Nat × VV)} : RV (TC := T) C as H (.exc c fs) v ↔ False := by rw [RV]
theorem RV.clo_iff {n : Nat} {xs : List VV} : RV (TC := T) C as H (.clo n xs) v ↔ ∃ a ws, T.clo n = some (a, ws) ∧ v = .ref a ∧ RVs (TC := T) C as H xs ws := by rw [RV]
theorem RV.cls_iff {c : Nat} : RV (TC := T) C as H (.cls c) v ↔ ∃ a, C.mg (nameOf c) = some (.ref a) ∧ v = .ref a := by rw [RV]
theorem RVs.nil_iff {ys : List V} : RVs (TC := T) C as H [] ys ↔ ys = [] := by rw [RVs]
theorem RVs.cons_iff {x : VV} {xs : List VV} {ys : List V} : RVs (TC := T) C as H (x :: xs) ys ↔ ∃ y zs, ys = y :: zs ∧ RV (TC := T) C as H x y ∧ RVs (TC := T) C as H xs zs := by rw [RVs]
end
/-- (kept out of the way of the instances) -/
structure TabsW where
  t : TabsC
section
variable [tbs : TabsT] {T1 T2 : TabsW} {C : RC}
mutual
theorem RV.up (n1 : ∀ n, T1.t.clo n = Option.none) {as : List Addr} {H : Hp} : ∀ {x : VV} {v : V}, RV (TC := T1.t) C as H x v → RV (TC := T2.t) C as H x v
  | .non, _, h => RV.non_iff.mpr (RV.non_iff.mp h)
  | .bl _, _, h => RV.bl_iff.mpr (RV.bl_iff.mp h)
  | .int _, _, h => RV.int_iff.mpr (RV.int_iff.mp h)
  | .str _, _, h => RV.str_iff.mpr (RV.str_iff.mp h)
  | .ref i, _, h => RV.ref_iff.mpr (RV.ref_iff.mp h)
  | .tup xs, _, h => let ⟨a, ys, h1, h2, h3⟩ := RV.tup_iff.mp h; RV.tup_iff.mpr ⟨a, ys, h1, h2, RVs.up n1 h3⟩
  | .exc _ _, _, h => (RV.exc_iff.mp h).elim
  | .clo n xs, _, h => by
    obtain ⟨a, ws, h1, h2, h3⟩ := RV.clo_iff.mp h
    rw [n1] at h1
    cases h1
  | .cls _, _, h => RV.cls_iff.mpr (RV.cls_iff.mp h)
theorem RVs.up (n1 : ∀ n, T1.t.clo n = Option.none) {as : List Addr} {H : Hp} : ∀ {x : List VV} {v : List V}, RVs (TC := T1.t) C as H x v → RVs (TC := T2.t) C as H x v
  | [], _, h => RVs.nil_iff.mpr (RVs.nil_iff.mp h)
  | x :: xs, _, h => let ⟨y, zs, h1, h2, h3⟩ := RVs.cons_iff.mp h; RVs.cons_iff.mpr ⟨y, zs, h1, RV.up n1 h2, RVs.up n1 h3⟩
end
theorem RFs.up (n1 : ∀ n, T1.t.clo n = Option.none) {as : List Addr} {H : Hp} : ∀ {x : List (Nat × VV)} {v : List (Str × V)}, RFs (TC := T1.t) C as H x v → RFs (TC := T2.t) C as H x v
  | [], _, h => h
  | (n, x) :: xs, _, h => by
    obtain ⟨y, zs, h1, h2, h3⟩ := h
    exact ⟨y, zs, h1, RV.up n1 h2, RFs.up n1 h3⟩
theorem RKs.up (n1 : ∀ n, T1.t.clo n = Option.none) {as : List Addr} {H : Hp} : ∀ {x : List (VV × VV)} {v : List (Key × V)}, RKs (TC := T1.t) C as H x v → RKs (TC := T2.t) C as H x v
  | [], _, h => h
  | (n, x) :: xs, _, h => by
    obtain ⟨k, y, zs, h1, hk, h2, h3⟩ := h
    exact ⟨k, y, zs, h1, hk, RV.up n1 h2, RKs.up n1 h3⟩
theorem RNs.up (n1 : ∀ n, T1.t.clo n = none) {as : List Addr} {H : Hp} : ∀ {x : List VV} {v : List (NestedKey × Addr × Value)}, RNs (TC := T1.t) C as H x v → RNs (TC := T2.t) C as H x v
  | [], _, h => h
  | x :: xs, _, ⟨k, b, zs, h1, h2, h3, h4, h5⟩ => ⟨k, b, zs, h1, h2, h3, RV.up n1 h4, RNs.up n1 h5⟩
theorem RO.up (n1 : ∀ n, T1.t.clo n = Option.none) {as : List Addr} {H : Hp} : ∀ {o : VO} {h : HO}, RO (TC := T1.t) C as H o h → RO (TC := T2.t) C as H o h
  | .lst xs, _, ⟨ys, h1, h2⟩ => ⟨ys, h1, RVs.up n1 h2⟩
  | .flst xs, _, ⟨ys, h1, h2⟩ => ⟨ys, h1, RVs.up n1 h2⟩
  | .dic xs, _, ⟨ys, h1, h2⟩ => ⟨ys, h1, RKs.up n1 h2⟩
  | .ins c fs, _, ⟨Ca, dx, ys, h1, h2, h3⟩ => ⟨Ca, dx, ys, h1, h2, RFs.up n1 h3⟩
  | .nset i ks, _, ⟨a, ys, h1, h2, h3, h4, h5, h6⟩ => ⟨a, ys, h1, h2, h3, h4, h5, RNs.up n1 h6⟩
theorem RelG.up (n1 : ∀ n, T1.t.clo n = Option.none) {as : List Addr} {G : Hv} {H : Hp} (t : TabI (TC := T2.t) H) (r : RelG (TC := T1.t) C as G H) : RelG (TC := T2.t) C as G H :=
  RelG.mk (TC := T2.t) t (RelG.len (TC := T1.t) r) (RelG.nd (TC := T1.t) r) fun i o h => let ⟨a, ho, h1, h2, h3⟩ := RelG.ob (TC := T1.t) r i o h; ⟨a, ho, h1, h2, RO.up n1 h3⟩
/-! back: what holds no such function before holds none behind -/
mutual
theorem RV.down (n1 : ∀ n, T1.t.clo n = Option.none) {as as' : List Addr} {H H' : Hp} : ∀ {x : VV} {v v0 : V}, RV (TC := T1.t) C as H x v0 → RV (TC := T2.t) C as' H' x v → RV (TC := T1.t) C as' H' x v
  | .non, _, _, _, h => RV.non_iff.mpr (RV.non_iff.mp h)
  | .bl _, _, _, _, h => RV.bl_iff.mpr (RV.bl_iff.mp h)
  | .int _, _, _, _, h => RV.int_iff.mpr (RV.int_iff.mp h)
  | .str _, _, _, _, h => RV.str_iff.mpr (RV.str_iff.mp h)
  | .ref i, _, _, _, h => RV.ref_iff.mpr (RV.ref_iff.mp h)
  | .tup xs, _, _, h0, h => let ⟨_, _, _, _, h4⟩ := RV.tup_iff.mp h0; let ⟨a, ys, h1, h2, h3⟩ := RV.tup_iff.mp h; RV.tup_iff.mpr ⟨a, ys, h1, h2, RVs.down n1 h4 h3⟩
  | .exc _ _, _, _, _, h => (RV.exc_iff.mp h).elim
  | .clo n xs, _, _, h0, h => by
    obtain ⟨a, ws, h1, h2, h3⟩ := RV.clo_iff.mp h0
    rw [n1] at h1
    cases h1
  | .cls _, _, _, _, h => RV.cls_iff.mpr (RV.cls_iff.mp h)
theorem RVs.down (n1 : ∀ n, T1.t.clo n = Option.none) {as as' : List Addr} {H H' : Hp} : ∀ {x : List VV} {v v0 : List V}, RVs (TC := T1.t) C as H x v0 → RVs (TC := T2.t) C as' H' x v → RVs (TC := T1.t) C as' H' x v
  | [], _, _, _, h => RVs.nil_iff.mpr (RVs.nil_iff.mp h)
  | x :: xs, _, _, h0, h => let ⟨_, _, _, g2, g3⟩ := RVs.cons_iff.mp h0; let ⟨y, zs, h1, h2, h3⟩ := RVs.cons_iff.mp h; RVs.cons_iff.mpr ⟨y, zs, h1, RV.down n1 g2 h2, RVs.down n1 g3 h3⟩
end
theorem RFs.down (n1 : ∀ n, T1.t.clo n = Option.none) {as as' : List Addr} {H H' : Hp} : ∀ {x : List (Nat × VV)} {v v0 : List (Str × V)}, RFs (TC := T1.t) C as H x v0 → RFs (TC := T2.t) C as' H' x v → RFs (TC := T1.t) C as' H' x v
  | [], _, _, _, h => h
  | (n, x) :: xs, _, _, h0, h => by
    obtain ⟨_, _, _, g2, g3⟩ := h0
    obtain ⟨y, zs, h1, h2, h3⟩ := h
    exact ⟨y, zs, h1, RV.down n1 g2 h2, RFs.down n1 g3 h3⟩
theorem RKs.down (n1 : ∀ n, T1.t.clo n = Option.none) {as as' : List Addr} {H H' : Hp} : ∀ {x : List (VV × VV)} {v v0 : List (Key × V)}, RKs (TC := T1.t) C as H x v0 → RKs (TC := T2.t) C as' H' x v → RKs (TC := T1.t) C as' H' x v
  | [], _, _, _, h => h
  | (n, x) :: xs, _, _, h0, h => by
    obtain ⟨_, _, _, _, _, g2, g3⟩ := h0
    obtain ⟨k, y, zs, h1, hk, h2, h3⟩ := h
    exact ⟨k, y, zs, h1, hk, RV.down n1 g2 h2, RKs.down n1 g3 h3⟩
theorem RNs.down (n1 : ∀ n, T1.t.clo n = Option.none) {as as' : List Addr} {H H' : Hp} : ∀ {x : List VV} {v v0 : List (NestedKey × Addr × Value)}, RNs (TC := T1.t) C as H x v0 → RNs (TC := T2.t) C as' H' x v → RNs (TC := T1.t) C as' H' x v
  | [], _, _, _, h => h
  | x :: xs, _, _, ⟨_, _, _, _, _, _, g4, g5⟩, ⟨k, b, zs, h1, h2, h3, h4, h5⟩ => ⟨k, b, zs, h1, h2, h3, RV.down n1 g4 h4, RNs.down n1 g5 h5⟩
theorem RO.down (n1 : ∀ n, T1.t.clo n = Option.none) {as as' : List Addr} {H H' : Hp} : ∀ {o : VO} {h h0 : HO}, RO (TC := T1.t) C as H o h0 → RO (TC := T2.t) C as' H' o h → RO (TC := T1.t) C as' H' o h
  | .lst xs, _, _, ⟨_, _, g⟩, ⟨ys, h1, h2⟩ => ⟨ys, h1, RVs.down n1 g h2⟩
  | .flst xs, _, _, ⟨_, _, g⟩, ⟨ys, h1, h2⟩ => ⟨ys, h1, RVs.down n1 g h2⟩
  | .dic xs, _, _, ⟨_, _, g⟩, ⟨ys, h1, h2⟩ => ⟨ys, h1, RKs.down n1 g h2⟩
  | .ins c fs, _, _, ⟨_, _, _, _, _, g⟩, ⟨Ca, dx, ys, h1, h2, h3⟩ => ⟨Ca, dx, ys, h1, h2, RFs.down n1 g h3⟩
  | .nset i ks, _, _, ⟨_, _, _, _, _, _, _, g⟩, ⟨a, ys, h1, h2, h3, h4, h5, h6⟩ => ⟨a, ys, h1, h2, h3, h4, h5, RNs.down n1 g h6⟩
theorem RelG.down (n1 : ∀ n, T1.t.clo n = Option.none) (hp : ∀ q ∈ T1.t.pin, q ∈ T2.t.pin) {as as' : List Addr} {G : Hv} {H H' : Hp} (r0 : RelG (TC := T1.t) C as G H) (r : RelG (TC := T2.t) C as' G H') : RelG (TC := T1.t) C as' G H' := by
  refine RelG.mk (TC := T1.t) ⟨(RelG.tb (TC := T2.t) r).1, fun q hq => (RelG.tb (TC := T2.t) r).2 q (hp q hq)⟩ (RelG.len (TC := T2.t) r) (RelG.nd (TC := T2.t) r) fun i o h => ?_
  obtain ⟨_, _, _, _, g⟩ := RelG.ob (TC := T1.t) r0 i o h
  obtain ⟨a, ho, h1, h2, h3⟩ := RelG.ob (TC := T2.t) r i o h
  exact ⟨a, ho, h1, h2, RO.down n1 g h3⟩
end
/-- the slots of captured names -/
theorem caps_rs [tbs : TabsT] [TC : TabsC] {C : RC} {as : List Addr} {H : Hp} {S : Env} {σ : St} (rs : RS C as H S σ) : ∀ {js : List Nat} {cs : List VV}, capsOf S js = some cs → ∃ ws : List V, js.map (slotAt σ) = ws.map some ∧ RVs C as H cs ws
  | [], cs, h => by cases h; exact ⟨[], rfl, .nil⟩
  | j :: js, cs, h => by
    unfold capsOf at h
    split at h
    · rename_i v hv
      cases q : capsOf S js with
      | none => rw [q] at h; cases h
      | some vs =>
        rw [q] at h
        cases h
        obtain ⟨ws, h1, h2⟩ := caps_rs rs q
        obtain ⟨u, hu, ru⟩ := rs.2 j v hv
        exact ⟨u :: ws, by rw [List.map_cons, List.map_cons, h1, slotAt_of hu], .cons ru h2⟩
    · cases h
section
variable [tbs : TabsT] [TC : TabsC]
/-- a def within stands: what is told goes on -/
theorem RelG.ndef {C : RC} {as : List Addr} {G : Hv} {H H1 : Hp} (rg : RelG C as G H) (eN : ExtN H H1) (nn : ∀ b, H1 b = Option.none → H b = Option.none) (t : TabsN tbs.T H1) : Ext as H as H1 ∧ RelG C as G H1 := by
  have e : Ext as H as H1 := ⟨⟨[], by simp⟩, fun a ys q => eN a _ q (fun ps z => by cases z), fun a o q _ => by
    by_cases z : ∃ ps, o = .tbl ps
    · exact .inr ⟨z, fun h => by rw [nn a h] at q; cases q⟩
    · exact .inl (eN a o q fun ps h => z ⟨ps, h⟩), fun _ h => .inl h⟩
  refine ⟨e, ⟨t, fun q hq => eN _ _ (rg.tb.2 q hq) fun ps z => ?_⟩, rg.len, rg.nd, fun i o h => ?_⟩
  · rcases TC.pinE q hq with ⟨ps', z'⟩ | ⟨⟨φ, hφ⟩, _⟩
    · exact TC.pinT q hq ps' z'
    · rw [hφ] at z
      cases z
  · obtain ⟨a, ho, h1, h2, h3⟩ := rg.ob i o h
    exact ⟨a, ho, h1, eN a ho h2 fun ps z => h3.noX (.inl ⟨ps, z⟩), h3.mono e⟩
theorem RelG.keepX {C : RC} {as as1 : List Addr} {G : Hv} {H H1 : Hp} (rg : RelG C as G H) (e : Ext as H as1 H1) {a : Addr} {o : HO} (hx : PinX o) (ht : ∀ ps, o ≠ .tbl ps) (h : H a = some o) : H1 a = some o := by
  have na : a ∉ as := fun m => by
    obtain ⟨i, hi⟩ := List.getElem?_of_mem m
    have hlt : i < G.length := by rw [← rg.len]; exact (List.getElem?_eq_some_iff.mp hi).1
    obtain ⟨b, ho, h1, h2, h3⟩ := rg.ob i G[i] (List.getElem?_eq_getElem hlt)
    rw [hi] at h1
    cases h1
    rw [h] at h2
    cases h2
    exact h3.noX hx
  rcases e.fr a _ h na with z | ⟨⟨ps, z⟩, _⟩
  · exact z
  · exact absurd z (ht ps)
abbrev mkN (X : Cx) (st : Stmt) (name : Str) : Addr → NF := NF.of st name (X.env.qual ++ name) (cloFrom X.env.cells (C8.fnScope st).names [])
/-- what is looked at of a def within -/
structure NDef (X : Cx) (nm : Nat → Nat → Str) (st : Stmt) (name : Str) (pos : Pos) (i : Nat) (fr : List Str) (js : List Nat) : Prop where
  hst : st = .FunctionDef name (C8.fnArgs st) (C8.fnBody st) [] none [] (C8.fnScope st) none name pos
  hn : nm pos.line pos.col = X.env.qual ++ name
  hfree : ∀ y ∈ (C8.fnScope st).names, y.2 = .free → X.env.scope.names.lookup y.1 = some .cell ∨ X.env.scope.names.lookup y.1 = some .free
  hfr : ∀ y ∈ fr, (y, NameKind.free) ∈ (C8.fnScope st).names
  hd0 : (C8.fnArgs st).defaults = []
  hk0 : (C8.fnArgs st).kw_defaults = []
  ha : annTrees (C8.fnArgs st) none X.env = []
  hi : X.N[i]? = some name
  hx : Loc X.env.scope name
  hf : X.fn name = true ∨ X.env.scope.names.lookup name = some .local
  hjs : js.map (fun j => X.N[j]?) = fr.map some
/-- a function that was made here, where it is called from -/
theorem NDef.clo {X : Cx} {nm : Nat → Nat → Str} {st : Stmt} {name : Str} {pos : Pos} {i : Nat} {fr ps : List Str} {js : List Nat} (D : NDef X nm st name pos i fr js) {pins : List (Addr × Obj)} {σ : St} {H : Hp} {s : Shared} (I : Inv X pins σ H s) {ws : List V} (hw : js.map (slotAt σ) = ws.map some) {c' : Addr} :
    CellsAt (mkN X st name c').cl fr (ws.map some) s.heap H := by
  rw [← hw]
  exact cells_of I (Caps.made I.ok D.hfree D.hfr D.hjs)
variable {X : Cx} {W : WX} {st1 st2 : Stmt} {name1 name2 : Str} {pos1 pos2 : Pos} {i1 i2 : Nat} {fr1 fr2 : List Str} {js1 js2 : List Nat} {n1 n2 : Nat} {fn1 fn2 : Clo} {ps1 ps2 : List Str} {k : Nat} {c P g : Addr} {nm : Nat → Nat → Str} {T : Nat → Option Clo}
  {Ng psg : List Str} {bR : DS} {ng : Nat} {x qualg : Str} {params : Arguments} {body : List Stmt} {scope : Scope} {fd : FuncData} {e : Expr} {d : DE} {p p1 p2 pos : Pos} {F : Fn}
/-- the wish at the call -/
def tHo (X : Cx) (W : WX) (st1 st2 : Stmt) (name1 name2 : Str) (i1 i2 : Nat) (js1 js2 : List Nat) (n1 n2 : Nat) (F : Fn) (d : DE) : TE := fun σ H Q => ∃ f1 c1 f2 c2 as G S cs1 cs2,
  σ[i1]? = some (some (.ref f1)) ∧ σ[i2]? = some (some (.ref f2)) ∧ H f1 = some (FnO f1 (mkN X st1 name1 c1)) ∧ H c1 = some (CodeO c1 (X.env.qual ++ name1)) ∧ H f2 = some (FnO f2 (mkN X st2 name2 c2)) ∧ H c2 = some (CodeO c2 (X.env.qual ++ name2)) ∧
  RelG (rc X []) as G H ∧ RS (rc X []) as H S σ ∧ capsOf S js1 = some cs1 ∧ capsOf S js2 = some cs2 ∧ tR (rc X []) W (RV (rc X [])) ((aCons d aNil S G).bind fun vs G1 => hoEnd G1 (F (vs ++ [.clo n1 cs1, .clo n2 cs2]) G1)) as H σ Q
theorem mkT (L : List (Addr × HO)) (h : ∀ q ∈ L, PinX q.2 ∧ ∀ ps, q.2 ≠ .tbl ps) (c : Nat → Option (Addr × List V)) : ∃ T : TabsW, T.t.pin = TC.pin ++ L ∧ ∀ n, T.t.clo n = c n :=
  ⟨⟨{ pin := TC.pin ++ L, pinE := fun q hq => (List.mem_append.mp hq).elim (TC.pinE q) (fun z => (h q z).1), pinT := fun q hq => (List.mem_append.mp hq).elim (TC.pinT q) (fun z => (h q z).2), clo := c }⟩, rfl, fun _ => rfl⟩
theorem pe_ho (nc : ∀ n, TC.clo n = none) (D1 : NDef X nm st1 name1 pos1 i1 fr1 js1) (D2 : NDef X nm st2 name2 pos2 i2 fr2 js2)
    (F1 : ∀ (T2 : TabsW) (f c' : Addr), NOk X.prog X.w X.K X.mg X.base (L2.CX X.prog X.w) k f (mkN X st1 name1 c') ps1 fr1 (spC (TC := T2.t) X.K X.mg ps1.length fn1))
    (F2 : ∀ (T2 : TabsW) (f c' : Addr), NOk X.prog X.w X.K X.mg X.base (L2.CX X.prog X.w) k f (mkN X st2 name2 c') ps2 fr2 (spC (TC := T2.t) X.K X.mg ps2.length fn2))
    (ar1 : ∀ cs vs G, vs.length ≠ ps1.length → fn1 cs vs G = .bad) (ar2 : ∀ cs vs G, vs.length ≠ ps2.length → fn2 cs vs G = .bad) (hT1 : T n1 = some fn1) (hT2 : T n2 = some fn2) (h12 : n2 ≠ n1)
    (FG : FunD X.K x qualg params body scope [] [] g fd) (SG : FnScope Ng psg scope) (hNg : Ng.length = ng) (hpg : psg.length ≤ ng) (hp3 : psg.length = 3)
    (hbG : ∀ (kV doc pm : Value) (an : Option Addr) (cdv ct : Value) (us : List Value), us.length = psg.length → bindArgs (PySem.W.fnOf x qualg params body scope .none kV doc pm an cdv ct) ⟨us, []⟩ = pure (psg.zip us))
    (bodyG : ∀ (T2 : TabsW) (cdv : Value) (s : Shared) (H : Hp) (E : XK), Room k (X.A.deeper (envOfC qualg scope s.heap.objs.size g cdv)) → Clos (TC := T2.t) (cxOf (L2.CX X.prog X.w) X.prog X.w X.K X.mg X.base Ng qualg scope g cdv X.A X.stack s H E) k T →
      SndSs (TC := T2.t) (cxOf (L2.CX X.prog X.w) X.prog X.w X.K X.mg X.base Ng qualg scope g cdv X.A X.stack s H E) [] (fun cls d _ H => E cls d H) body bR)
    (hg : Gl X x) (hmg : X.mg x = some (.ref g)) (hr : Room (k + 1) X.A) (tk : Takes X W) (he0 : SndE X [] W e d)
    (hd1 : (name1 == ("__debug__" : Str)) = false := by decide) (hcd1 : (name1 == ("__classdict__" : Str)) = false := by decide) (hd2 : (name2 == ("__debug__" : Str)) = false := by decide) (hcd2 : (name2 == ("__classdict__" : Str)) = false := by decide)
    (hdb : (x == ("__debug__" : Str)) = false := by decide) (he : starEach (e :: [.Name name1 p1, .Name name2 p2]) X.env = (false, eval e X.env) :: starEach [.Name name1 p1, .Name name2 p2] X.env := by rfl) (hpl : (backTo pos (starEach [.Name name1 p1, .Name name2 p2] X.env)).any (·.1) = false := by rfl) :
    PE X (.Call (.Name x p) [e, .Name name1 p1, .Name name2 p2] [] pos) (tHo X W st1 st2 name1 name2 i1 i2 js1 js2 n1 n2 (dDef 3 ng bR) d) := by
  refine ⟨fun pins s σ H Q I h => ?_⟩
  obtain ⟨f1, c1, f2, c2, as, G, S, cs1, cs2, hs1, hs2, hf1, hc1, hf2, hc2, rg, rs, q1, q2, h⟩ := h
  obtain ⟨ws1, hw1, rw1⟩ := caps_rs rs q1
  obtain ⟨ws2, hw2, rw2⟩ := caps_rs rs q2
  have vis : ∀ {y : Str}, Loc X.env.scope y → Vis X.env.scope y := fun h => h.elim .inl fun z => .inr (.inl z)
  have ha := pa_cons he0 (pa_cons (pe_var (pos := p1) D1.hi (vis D1.hx) hd1 hcd1) (pa_cons (pe_var (pos := p2) D2.hi (vis D2.hx) hd2 hcd2) pa_nil)) he
  obtain ⟨oc, od, dV, kV, doc, pm, an, cdv, ct, osl, rfl, lk, hcd, hD, hK⟩ := FG.ex
  have dV0 : dV = .none := by
    rcases hD with ⟨_, z⟩ | ⟨z, _⟩
    · exact z
    · exact absurd rfl z
  subst dV0
  have ht : tCons (tDE (rc X []) W d) (tCons (tVar i1) (tCons (tVar i2) tNil)) σ H fun vs H1 => ∃ x as1 G1 v0, vs = [v0, .ref f1, .ref f2] ∧ Ext as H as1 H1 ∧ RelG (rc X []) as1 G1 H1 ∧ RV (rc X []) as1 H1 x v0 ∧
      tR (rc X []) W (RV (rc X [])) (hoEnd G1 (dDef 3 ng bR [x, .clo n1 cs1, .clo n2 cs2] G1)) as1 H1 σ Q := by
    have e0 : ((aCons d aNil S G).bind fun vs G1 => hoEnd G1 (dDef 3 ng bR (vs ++ [.clo n1 cs1, .clo n2 cs2]) G1)) = (d S G).bind fun x G1 => hoEnd G1 (dDef 3 ng bR [x, .clo n1 cs1, .clo n2 cs2] G1) := by
      unfold aCons aNil
      cases d S G <;> rfl
    rw [e0] at h
    exact tD.bind rg rs h fun x G1 as1 H1 v0 e1 rg1 rs1 rx h1 => ⟨.ref f1, hs1, .ref f2, hs2, x, as1, G1, v0, rfl, e1, rg1, rx, h1⟩
  refine wpAny_Call_Name_kw (ld_glob I hg hmg ?_ hdb)
  refine PySem.W.callWith_K (h₀ := X.base) I.ok.mod.kin FG.kp (thn (ha.run pos pins s σ H _ I ht) fun us s1 ⟨vs, H1, I1, r, x0, as1, G1, v0, ev, e1, rg1, rx, h1⟩ => ⟨I1.kIn, ?_⟩) he hpl
  subst ev
  have g1 : H1 f1 = some (FnO f1 (mkN X st1 name1 c1)) := rg.keepX e1 pin_fn fnO_ne hf1
  have g2 : H1 f2 = some (FnO f2 (mkN X st2 name2 c2)) := rg.keepX e1 pin_fn fnO_ne hf2
  have g3 : H1 c1 = some (CodeO c1 (X.env.qual ++ name1)) := rg.keepX e1 pin_code codeO_ne hc1
  have g4 : H1 c2 = some (CodeO c2 (X.env.qual ++ name2)) := rg.keepX e1 pin_code codeO_ne hc2
  obtain ⟨T2, hpin, hclo⟩ : ∃ T : TabsW, T.t.pin = TC.pin ++ [(f1, FnO f1 (mkN X st1 name1 c1)), (c1, CodeO c1 (X.env.qual ++ name1)), (f2, FnO f2 (mkN X st2 name2 c2)), (c2, CodeO c2 (X.env.qual ++ name2))] ∧ ∀ n, T.t.clo n = if n = n1 then some (f1, ws1) else if n = n2 then some (f2, ws2) else none := by
    refine mkT [(f1, FnO f1 (mkN X st1 name1 c1)), (c1, CodeO c1 (X.env.qual ++ name1)), (f2, FnO f2 (mkN X st2 name2 c2)), (c2, CodeO c2 (X.env.qual ++ name2))] (fun q hq => ?_) _
    simp at hq
    rcases hq with rfl | rfl | rfl | rfl
    · exact ⟨pin_fn, fnO_ne⟩
    · exact ⟨pin_code, codeO_ne⟩
    · exact ⟨pin_fn, fnO_ne⟩
    · exact ⟨pin_code, codeO_ne⟩
  have hmem : ∀ q ∈ [(f1, FnO f1 (mkN X st1 name1 c1)), (c1, CodeO c1 (X.env.qual ++ name1)), (f2, FnO f2 (mkN X st2 name2 c2)), (c2, CodeO c2 (X.env.qual ++ name2))], q ∈ T2.t.pin := fun q hq => by
    rw [hpin]
    exact List.mem_append_right _ hq
  have t2 : TabI (TC := T2.t) H1 := ⟨rg1.tb.1, fun q hq => by
    rw [hpin] at hq
    rcases List.mem_append.mp hq with z | z
    · exact rg1.tb.2 q z
    · simp at z
      rcases z with rfl | rfl | rfl | rfl
      · exact g1
      · exact g3
      · exact g2
      · exact g4⟩
  have rg2 : RelG (TC := T2.t) (rc X []) as1 G1 H1 := RelG.up (T1 := ⟨TC⟩) nc t2 rg1
  have r1 : RV (TC := T2.t) (rc X []) as1 H1 (.clo n1 cs1) (.ref f1) := by
    exact RV.clo_iff.mpr ⟨f1, ws1, (hclo n1).trans (if_pos rfl), rfl, RVs.up (T1 := ⟨TC⟩) nc (rw1.mono e1)⟩
  have r2 : RV (TC := T2.t) (rc X []) as1 H1 (.clo n2 cs2) (.ref f2) := by
    exact RV.clo_iff.mpr ⟨f2, ws2, (hclo n2).trans ((if_neg h12).trans (if_pos rfl)), rfl, RVs.up (T1 := ⟨TC⟩) nc (rw2.mono e1)⟩
  have rxs : RVs (TC := T2.t) (rc X []) as1 H1 [x0, .clo n1 cs1, .clo n2 cs2] [v0, .ref f1, .ref f2] := RVs.cons (TC := T2.t) (RV.up (T1 := ⟨TC⟩) nc rx) (RVs.cons (TC := T2.t) r1 (RVs.cons (TC := T2.t) r2 (RVs.nil (TC := T2.t))))
  have hsp : spD (TC := T2.t) X.K X.mg psg.length (dDef psg.length ng bR) [v0, .ref f1, .ref f2] H1 Q fun cls d H' => W cls d σ H' := by
    rw [hp3]
    refine ⟨rfl, as1, G1, _, rg2, rxs, ?_⟩
    cases q : dDef 3 ng bR [x0, .clo n1 cs1, .clo n2 cs2] G1 with
    | bad => rw [q] at h1; exact h1.elim
    | exn _ _ => rw [q] at h1; exact h1.elim
    | ok v G2 =>
      rw [q] at h1
      cases v with
      | bl b =>
        unfold hoEnd at h1
        simp only at h1
        split at h1
        · rename_i hG
          subst hG
          exact fun as' H' v' e2 rg' rv' => h1 as' H' v' e2 (RelG.down (T1 := ⟨TC⟩) (T2 := T2) nc (fun q hq => by rw [hpin]; exact List.mem_append_left _ hq) rg1 rg') (RV.bl_iff.mpr (RV.bl_iff.mp rv'))
        · exact h1.elim
      | _ => exact h1.elim
  have hl : ([v0, .ref f1, .ref f2] : List V).length = psg.length := hp3.symm
  have hul : us.length = psg.length := by rw [← r.length]; exact hl
  have rcl : codeAny (model X.prog X.w) X.A (.call (.ref g) ⟨us, []⟩) (CR (L2.CX X.prog X.w) X.stack X.prog X.w H1 s1 Q fun cls d H' => W cls d σ H') s1 := by
    refine run_ofS (N := Ng) (ps := psg) lk hcd SG hr I1.env0 (.of_eq (hbG kV doc pm an cdv ct us hul)) r hl fun hr' => ⟨_, bodyG T2 cdv s1 H1 _ hr' (fun n a ws hn => ?_), body_read (TC := T2.t) hNg hpg hsp⟩
    rw [hclo n] at hn
    by_cases z1 : n = n1
    · rw [if_pos z1] at hn
      cases hn
      subst z1
      exact ⟨fn1, hT1, CloAt.mk (TC := T2.t) ⟨mkN X st1 name1 c1, ps1, fr1, F1 T2 _ c1, hmem _ (by simp), hmem _ (by simp [NF.of]), D1.clo (ps := ps1) I1 hw1, ar1⟩⟩
    · rw [if_neg z1] at hn
      by_cases z2 : n = n2
      · rw [if_pos z2] at hn
        cases hn
        subst z2
        exact ⟨fn2, hT2, CloAt.mk (TC := T2.t) ⟨mkN X st2 name2 c2, ps2, fr2, F2 T2 _ c2, hmem _ (by simp), hmem _ (by simp [NF.of]), D2.clo (ps := ps2) I1 hw2, ar2⟩⟩
      · rw [if_neg z2] at hn
        cases hn
  refine wpAny_call (codeAny_mono rcl fun r s2 hq => ?_)
  cases r with
  | error e => exact L2.passAt tk σ pins H1 s1 e s2 I1 hq
  | ok fl =>
    cases fl with
    | ret u => exact I1.after hq
    | next => exact False.elim hq
    | brk => exact False.elim hq
    | cont => exact False.elim hq
end
end DL
end S_Rules15
section S_Rules16
set_option Elab.async false
set_option linter.all false
set_option maxRecDepth 100000
set_option maxHeartbeats 2000000
/-! Rules16: def .. / def .. / return not f(e, g, h). -/
namespace DL
open PySem PySem.Spec PyProof.Rows L2 NdefX LamX
section
variable [tbs : TabsT] [TC : TabsC]
variable {X : Cx} {W : WX} {st1 st2 : Stmt} {name1 name2 : Str} {pos1 pos2 : Pos} {i1 i2 : Nat} {fr1 fr2 : List Str} {js1 js2 : List Nat} {n1 n2 : Nat} {fn1 fn2 : Clo} {ps1 ps2 : List Str} {k : Nat} {c P g : Addr} {nm : Nat → Nat → Str} {T : Nat → Option Clo}
  {Ng psg : List Str} {bR : DS} {ng : Nat} {x qualg : Str} {params : Arguments} {body : List Stmt} {scope : Scope} {fd : FuncData} {e : Expr} {d : DE} {p p1 p2 pos upos rpos : Pos} {F : Fn}
theorem ss_ho (TB : TabB X.base X.mg c P) (hcode : X.env.code = .ref c) (hm : (P, nm) ∈ tbs.T) (hu : ∀ p ∈ tbs.T, p.1 = P → p.2 = nm) (hNd : X.N.Nodup) (hi12 : i2 ≠ i1)
    (nc : ∀ n, TC.clo n = none) (D1 : NDef X nm st1 name1 pos1 i1 fr1 js1) (D2 : NDef X nm st2 name2 pos2 i2 fr2 js2)
    (F1 : ∀ (T2 : TabsW) (f c' : Addr), NOk X.prog X.w X.K X.mg X.base (L2.CX X.prog X.w) k f (mkN X st1 name1 c') ps1 fr1 (spC (TC := T2.t) X.K X.mg ps1.length fn1))
    (F2 : ∀ (T2 : TabsW) (f c' : Addr), NOk X.prog X.w X.K X.mg X.base (L2.CX X.prog X.w) k f (mkN X st2 name2 c') ps2 fr2 (spC (TC := T2.t) X.K X.mg ps2.length fn2))
    (ar1 : ∀ cs vs G, vs.length ≠ ps1.length → fn1 cs vs G = .bad) (ar2 : ∀ cs vs G, vs.length ≠ ps2.length → fn2 cs vs G = .bad) (hT1 : T n1 = some fn1) (hT2 : T n2 = some fn2) (h12 : n2 ≠ n1)
    (FG : FunD X.K x qualg params body scope [] [] g fd) (SG : FnScope Ng psg scope) (hNg : Ng.length = ng) (hpg : psg.length ≤ ng) (hp3 : psg.length = 3)
    (hbG : ∀ (kV doc pm : Value) (an : Option Addr) (cdv ct : Value) (us : List Value), us.length = psg.length → bindArgs (PySem.W.fnOf x qualg params body scope .none kV doc pm an cdv ct) ⟨us, []⟩ = pure (psg.zip us))
    (bodyG : ∀ (T2 : TabsW) (cdv : Value) (s : Shared) (H : Hp) (E : XK), Room k (X.A.deeper (envOfC qualg scope s.heap.objs.size g cdv)) → Clos (TC := T2.t) (cxOf (L2.CX X.prog X.w) X.prog X.w X.K X.mg X.base Ng qualg scope g cdv X.A X.stack s H E) k T →
      SndSs (TC := T2.t) (cxOf (L2.CX X.prog X.w) X.prog X.w X.K X.mg X.base Ng qualg scope g cdv X.A X.stack s H E) [] (fun cls d _ H => E cls d H) body bR)
    (hg : Gl X x) (hmg : X.mg x = some (.ref g)) (hr : Room (k + 1) X.A) (tk : Takes X W) (he0 : SndE X [] W e d)
    (hd1 : (name1 == ("__debug__" : Str)) = false := by decide) (hcd1 : (name1 == ("__classdict__" : Str)) = false := by decide) (hd2 : (name2 == ("__debug__" : Str)) = false := by decide) (hcd2 : (name2 == ("__classdict__" : Str)) = false := by decide)
    (hdb : (x == ("__debug__" : Str)) = false := by decide) (he : starEach (e :: [.Name name1 p1, .Name name2 p2]) X.env = (false, eval e X.env) :: starEach [.Name name1 p1, .Name name2 p2] X.env := by rfl) (hpl : (backTo pos (starEach [.Name name1 p1, .Name name2 p2] X.env)).any (·.1) = false := by rfl) :
    SndSs X [] W [st1, st2, .Return (some (.UnaryOp .Not (.Call (.Name x p) [e, .Name name1 p1, .Name name2 p2] [] pos) upos)) rpos] (sHo i1 i2 (dRet (dNot (dHo (dDef 3 ng bR) n1 js1 n2 js2 (aCons d aNil))))) := by
  have PC := pe_ho (p := p) (p1 := p1) (p2 := p2) (pos := pos) (W := W) nc D1 D2 F1 F2 ar1 ar2 hT1 hT2 h12 FG SG hNg hpg hp3 hbG bodyG hg hmg hr tk he0 hd1 hcd1 hd2 hcd2 hdb he hpl
  refine (pss_cons (ps_ndefMS D1.hst TB hcode hm D1.hn hu D1.hfree D1.hd0 D1.hk0 D1.ha hNd D1.hi D1.hx D1.hf) (pss_cons (ps_ndefMS D2.hst TB hcode hm D2.hn hu D2.hfree D2.hd0 D2.hk0 D2.ha hNd D2.hi D2.hx D2.hf) (pss_one (ps_ret (pe_not PC))))).imp fun D σ H ⟨as, G, S, rg, rs, h⟩ => ?_
  refine ⟨rg.tb.1, fun f1 c1 H1 eN1 nn1 t1 z1 g1 k1 => ?_⟩
  obtain ⟨e1, rg1⟩ := rg.ndef eN1 nn1 t1
  refine ⟨t1, fun f2 c2 H2 eN2 nn2 t2 z2 g2 k2 => ?_⟩
  obtain ⟨e2, rg2⟩ := rg1.ndef eN2 nn2 t2
  unfold sHo at h
  split at h
  · rename_i hl
    have rs2 : RS (rc X []) as H2 ((S.set i1 none).set i2 none) ((σ.set i1 (some (.ref f1))).set i2 (some (.ref f2))) := (((rs.mono e1).mono e2).none i1 _).none i2 _
    generalize hS2 : (S.set i1 none).set i2 none = S2 at h rs2
    generalize hσ : (σ.set i1 (some (V.ref f1))).set i2 (some (V.ref f2)) = σ2 at rs2 ⊢
    have hs1 : σ2[i1]? = some (some (.ref f1)) := by
      rw [← hσ, List.getElem?_set_ne hi12, List.getElem?_set_self (by rw [← rs.1]; exact hl.1)]
    have hs2 : σ2[i2]? = some (some (.ref f2)) := by
      rw [← hσ, List.getElem?_set_self (by rw [List.length_set, ← rs.1]; exact hl.2)]
    unfold dRet dNot dHo at h
    cases q1 : capsOf S2 js1 with
    | none => rw [q1] at h; exact h.elim
    | some cs1 =>
      cases q2 : capsOf S2 js2 with
      | none => rw [q1, q2] at h; exact h.elim
      | some cs2 =>
        rw [q1, q2] at h
        simp only at h
        have m1 : H2 f1 = some (FnO f1 (mkN X st1 name1 c1)) := eN2 _ _ g1 (fnO_ne)
        have m2 : H2 c1 = some (CodeO c1 (X.env.qual ++ name1)) := eN2 _ _ k1 (codeO_ne)
        refine ⟨f1, c1, f2, c2, as, G, S2, cs1, cs2, hs1, hs2, m1, m2, g2, k2, rg2, rs2, q1, q2, ?_⟩
        generalize hr' : ((aCons d aNil S2 G).bind fun vs G1 => hoEnd G1 (dDef 3 ng bR (vs ++ [.clo n1 cs1, .clo n2 cs2]) G1)) = r at h ⊢
        cases r with
        | bad => exact h.elim
        | exn y G1 => exact fun as' H' cls d e' rg' rx => h as' H' σ2 cls d ((e1.trans e2).trans e') rg' (rs2.mono e') rx
        | ok v G1 =>
          cases v with
          | bl b => exact fun as' H' v' e' rg' rv => ⟨b, rv.bl, h as' H' _ ((e1.trans e2).trans e') rg' .mkBl⟩
          | _ => exact h.elim
  · exact h.elim
end
end DL
end S_Rules16
section S_Rules17
set_option Elab.async false
set_option linter.all false
set_option maxRecDepth 100000
set_option maxHeartbeats 2000000
/-! Rules17: dicts whose keys are nested tuples. -/
namespace DL
open PySem PySem.Spec PyProof.Rows L2
mutual
def nf : VV → Bool
  | .non => true
  | .int _ => true
  | .str _ => true
  | .tup xs => nfL xs
  | _ => false
def nfL : List VV → Bool
  | [] => true
  | x :: xs => nf x && nfL xs
end
mutual
theorem norm_nf : ∀ {x k : VV}, normV x = some k → nf k = true
  | .non, _, h => by rw [normV] at h; cases h; rw [nf]
  | .bl _, _, h => by rw [normV] at h; cases h; rw [nf]
  | .int _, _, h => by rw [normV] at h; cases h; rw [nf]
  | .str _, _, h => by rw [normV] at h; cases h; rw [nf]
  | .ref _, _, h => by rw [normV] at h; cases h; all_goals simp
  | .tup xs, _, h => by
    rw [normV] at h
    cases q : normL xs with
    | none => rw [q] at h; cases h
    | some ys => rw [q] at h; cases h; rw [nf]; exact norm_nfL q
  | .exc _ _, _, h => by rw [normV] at h; cases h; all_goals simp
  | .clo _ _, _, h => by rw [normV] at h; cases h; all_goals simp
  | .cls _, _, h => by rw [normV] at h; cases h; all_goals simp
theorem norm_nfL : ∀ {x k : List VV}, normL x = some k → nfL k = true
  | [], _, h => by rw [normL] at h; cases h; rw [nfL]
  | x :: xs, _, h => by
    rw [normL] at h
    cases q : normV x with
    | none => rw [q] at h; cases h
    | some y =>
      rw [q] at h
      simp only at h
      cases q2 : normL xs with
      | none => rw [q2] at h; cases h
      | some ys => rw [q2] at h; cases h; rw [nfL, norm_nf q, norm_nfL q2]; rfl
end
mutual
theorem toNK_inj : ∀ {k l : VV}, nf k = true → nf l = true → toNK k = toNK l → k = l
  | .non, l, _, h, e => by cases l <;> simp [nf, toNK] at h e ⊢
  | .int i, l, _, h, e => by cases l <;> simp [nf, toNK] at h e ⊢; exact e
  | .str s, l, _, h, e => by cases l <;> simp [nf, toNK] at h e ⊢; exact e
  | .tup xs, l, h0, h, e => by
    cases l <;> simp [nf, toNK] at h0 h e ⊢
    exact toNKs_inj h0 h e
  | .bl _, _, h, _, _ => by simp [nf] at h
  | .ref _, _, h, _, _ => by simp [nf] at h
  | .exc _ _, _, h, _, _ => by simp [nf] at h
  | .clo _ _, _, h, _, _ => by simp [nf] at h
  | .cls _, _, h, _, _ => by simp [nf] at h
theorem toNKs_inj : ∀ {k l : List VV}, nfL k = true → nfL l = true → toNKs k = toNKs l → k = l
  | [], l, _, _, e => by cases l <;> simp [toNKs] at e ⊢
  | x :: xs, l, h0, h, e => by
    cases l with
    | nil => simp [toNKs] at e
    | cons y ys =>
      simp [nfL, toNKs] at h0 h e
      rw [toNK_inj h0.1 h.1 e.1, toNKs_inj h0.2 h.2 e.2]
end
mutual
theorem dep_le : ∀ (k : VV), (toNK k).depth ≤ depV k
  | .tup xs => by rw [toNK, NestedKey.depth, depV]; exact Nat.succ_le_succ (dep_leL xs)
  | .int _ => by rw [toNK, NestedKey.depth]; exact Nat.zero_le _
  | .str _ => by rw [toNK, NestedKey.depth]; exact Nat.zero_le _
  | .non => by rw [toNK] <;> simp [NestedKey.depth]
  | .bl _ => by rw [toNK] <;> simp [NestedKey.depth]
  | .ref _ => by rw [toNK] <;> simp [NestedKey.depth]
  | .exc _ _ => by rw [toNK] <;> simp [NestedKey.depth]
  | .clo _ _ => by rw [toNK] <;> simp [NestedKey.depth]
  | .cls _ => by rw [toNK] <;> simp [NestedKey.depth]
theorem dep_leL : ∀ (k : List VV), NestedKey.depthAll (toNKs k) ≤ depL k
  | [] => by rw [toNKs, NestedKey.depthAll]; exact Nat.zero_le _
  | x :: xs => by
    rw [toNKs, NestedKey.depthAll, depL]
    have h1 := dep_le x
    have h2 := dep_leL xs
    omega
end
variable [tbs : TabsT] [TC : TabsC]
section
variable {C : RC} {as : List Addr} {H : Hp} {h : Heap} {P : Program} {w : World}
mutual
theorem nested_is (hk : C.K.In h) (ok : HOk P w H h) : ∀ {x k : VV} {v : V} {u : Value}, RV C as H x v → RelV v u → normV x = some k → NestedIs h (toNK k) u
  | .non, _, _, _, hx, r, e => by
    rw [normV] at e; cases e
    rw [RV] at hx; subst hx
    cases r
    rw [toNK] <;> first | exact .none | simp
  | .bl b, _, _, _, hx, r, e => by
    rw [normV] at e; cases e
    rw [RV] at hx; subst hx
    cases r
    rw [toNK]
    exact .bool rfl
  | .int i, _, _, _, hx, r, e => by
    rw [normV] at e; cases e
    rw [RV] at hx; subst hx
    obtain ⟨t, rfl⟩ := r
    rw [toNK]
    exact .int _ _
  | .str s, _, _, _, hx, r, e => by
    rw [normV] at e; cases e
    rw [RV] at hx
    obtain ⟨rfl, _⟩ := hx
    obtain ⟨t, rfl⟩ := r
    rw [toNK]
    exact .text _ _
  | .ref _, _, _, _, _, _, e => by rw [normV] at e; cases e; all_goals simp
  | .tup xs, _, _, _, hx, r, e => by
    obtain ⟨a, ys, rfl, ht, hr⟩ := hx.tup
    cases r
    rw [normV] at e
    cases q : normL xs with
    | none => rw [q] at e; cases e
    | some ks =>
      rw [q] at e
      cases e
      rw [toNK]
      rcases ht with ht | ⟨o, its, n, h1, h2, h3, h4, h5⟩
      · obtain ⟨_, its, rr, o, ho, hc, n, hd⟩ := ok a _ ht
        exact .tup ho hc hd (nested_all hk ok hr (by simpa using rr) q)
      · exact .tup (hk a o h1) h2 h3 (nested_all hk ok hr h5 q)
  | .exc _ _, _, _, _, _, _, e => by rw [normV] at e; cases e; all_goals simp
  | .clo _ _, _, _, _, _, _, e => by rw [normV] at e; cases e; all_goals simp
  | .cls _, _, _, _, _, _, e => by rw [normV] at e; cases e; all_goals simp
theorem nested_all (hk : C.K.In h) (ok : HOk P w H h) : ∀ {x k : List VV} {v : List V} {u : List Value}, RVs C as H x v → Vals v u → normL x = some k → NestedAll h (toNKs k) u
  | [], _, _, _, hx, r, e => by
    rw [normL] at e; cases e
    rw [RVs] at hx; subst hx
    cases r
    rw [toNKs]
    exact .nil
  | x :: xs, _, _, _, hx, r, e => by
    rw [RVs] at hx
    obtain ⟨y, zs, rfl, h1, h2⟩ := hx
    cases r with
    | cons r1 r2 =>
      rw [normL] at e
      cases q : normV x with
      | none => rw [q] at e; cases e
      | some k1 =>
        rw [q] at e
        simp only at e
        cases q2 : normL xs with
        | none => rw [q2] at e; cases e
        | some ks =>
          rw [q2] at e
          cases e
          rw [toNKs]
          exact .cons (nested_is hk ok h1 r1 q) (nested_all hk ok h2 r2 q2)
end
theorem key_is (hk : C.K.In h) (ok : HOk P w H h) {x k : VV} {b : Addr} (r : RV C as H x (.ref b)) (e : normV x = some k) (d : depV k ≤ 8) : (nestedKind P w).is h (toNK k) b :=
  ⟨nested_is hk ok r rfl e, Nat.le_trans (dep_le k) d⟩
theorem RNs.is (hk : C.K.In h) (ok : HOk P w H h) : ∀ {ks : List VV} {ys : List (NestedKey × Addr × Value)}, RNs C as H ks ys → ∀ x ∈ ys, (nestedKind P w).is h x.1 x.2.1
  | [], _, r, x, hx => by cases r; simp at hx
  | _ :: _, _, ⟨k, b, zs, e, h1, h2, h3, h4⟩, x, hx => by
    subst e
    rcases List.mem_cons.mp hx with rfl | hx
    · exact key_is hk ok h3 h1 h2
    · exact RNs.is hk ok h4 x hx
theorem nset_at (hk : C.K.In h) (ok : HOk P w H h) {a : Addr} {ks : List VV} {ys : List (NestedKey × Addr × Value)} (e : H a = some (NSet P w a ys)) (nd : (ys.map (·.1)).Nodup) (r : RNs C as H ks ys) : h.DictOfH (nestedKind P w) a ys := by
  obtain ⟨⟨o, es, ep, h1, h2, h3, h4⟩, _, _⟩ := ok a _ e
  exact ⟨o, es, ep, h1, h2, h3, h4, r.is hk ok, nd⟩
theorem nset_ok {a : Addr} {ys : List (NestedKey × Addr × Value)} (d : h.DictOfH (nestedKind P w) a ys) : ObjOk P w H h a (NSet P w a ys) := by
  obtain ⟨o, es, ep, h1, h2, h3, h4, _, _⟩ := d
  exact ⟨⟨o, es, ep, h1, h2, h3, h4⟩, ⟨o, h1⟩, fun g1 g2 ⟨o, es, ep, k1, k2, k3, k4⟩ st => ⟨o, es, ep, st _ k1, k2, k3, k4⟩⟩
theorem nset_mem {k : VV} (hk : nf k = true) : ∀ {ks : List VV} {ys : List (NestedKey × Addr × Value)}, RNs C as H ks ys → (atKey ys (toNK k)).isSome = hasN ks k
  | [], _, r => by cases r; rfl
  | x :: xs, _, ⟨k0, b, zs, e, h1, h2, h3, h4⟩ => by
    subst e
    have ih := nset_mem hk h4
    unfold atKey at ih ⊢
    unfold hasN at ih ⊢
    rw [Option.isSome_map] at ih ⊢
    rw [List.find?_cons, List.any_cons]
    by_cases q : k0 = k
    · subst q
      simp [h1]
    · have q1 : decide (toNK k0 = toNK k) = false := decide_eq_false fun z => q (toNK_inj (norm_nf h1) hk z)
      have q2 : decide (normV x = some k) = false := decide_eq_false fun z => by rw [h1] at z; exact q (Option.some.inj z)
      simp only [q1, q2, Bool.false_or]
      exact ih
theorem RNs.snoc : ∀ {ks : List VV} {ys : List (NestedKey × Addr × Value)}, RNs C as H ks ys → ∀ {x k : VV} {b : Addr}, normV x = some k → depV k ≤ 8 → RV C as H x (.ref b) → RNs C as H (ks ++ [x]) (ys ++ [(toNK k, b, .bool true)])
  | [], _, r, x, k, b, e, d, hx => by cases r; exact ⟨k, b, [], rfl, e, d, hx, rfl⟩
  | _ :: _, _, ⟨k0, b0, zs, e0, h1, h2, h3, h4⟩, x, k, b, e, d, hx => by
    subst e0
    exact ⟨k0, b0, _, rfl, h1, h2, h3, RNs.snoc h4 e d hx⟩
theorem RNs.len : ∀ {ks : List VV} {ys : List (NestedKey × Addr × Value)}, RNs C as H ks ys → ys.length = ks.length
  | [], _, r => by cases r; rfl
  | _ :: _, _, ⟨k0, b0, zs, e0, h1, h2, h3, h4⟩ => by subst e0; simp [RNs.len h4]
end
section
variable {X : Cx} {ep : List (Addr × Obj)} {W : WX} {pos : Pos}
theorem so_cNinN (hP : tbs.P = X.prog) (hw : tbs.w = X.w) (hu : X.A.units + 64 < cLine) : OpR X (compareOp .NotIn) (rC (rc X ep) cNinN) := by
  intro pins s σ H x' y' v u Q I rx ry ⟨as, G, x, y, b, rg, hx, hy, h, q⟩
  unfold cNinN oInN at h
  split at h
  · rename_i xs i
    split at h
    · rename_i j ks hG
      split at h
      · rename_i k hn
        split at h
        · rename_i hc
          obtain ⟨rfl, hd⟩ := hc
          cases h
          obtain ⟨a, ha, rfl⟩ := hy.ref
          obtain ⟨ho, h1, a', ys, ha', h2, hs, hz, nd, r⟩ := rg.at hG ha
          rw [ha] at ha'
          cases ha'
          subst h2
          rw [hP, hw] at h1
          cases ry
          obtain ⟨b1, zs, rfl, ht⟩ := hx.tup
          cases rx
          have hI : (rc X ep).K.In s.heap := I.kIn
          refine notIn_keyed (knd := nestedKind X.prog X.w) (show X.A.in1.units + 8 < cLine by show X.A.units + 1 + 8 < cLine; omega) (key_is hI I.hok hx hn hd) hs ⟨ys, nset_at hI I.hok h1 nd r, rfl⟩ ?_
          rw [valueAt_pairsH, Option.isSome_map, nset_mem (norm_nf hn) r]
          exact ⟨.bl _, H, I.tok _, rfl, q⟩
        · cases h
      · cases h
    · cases h
  · cases h
/-- d[k] = True -/
def tNs (P : Program) (w : World) (K : PySem.W.Frag) : TSet := fun o i v H Q => ∃ C as a b ks x k ys, C.K = K ∧ o = .ref a ∧ i = .ref b ∧ v = .bl true ∧ H a = some (NSet P w a ys) ∧ ys.length < sizeLine ∧ (ys.map (·.1)).Nodup ∧ RNs C as H ks ys ∧ RV C as H x (.ref b) ∧ normV x = some k ∧ depV k ≤ 8 ∧ atKey ys (toNK k) = none ∧
  Q (upd H a (NSet P w a (ys ++ [(toNK k, b, .bool true)])))
theorem set_ns (hu : X.A.units + 64 < cLine) : PSet X (tNs X.prog X.w X.K) := by
  intro pins s σ H o i v ov iv u Q I ro ri rv ⟨C, as, a, b, ks, x, k, ys, hC, e1, e2, e3, e, hz, nd, r, hx, hn, hd, hA, q⟩
  subst e1 e2 e3
  cases ro
  cases ri
  cases rv
  have hI : C.K.In s.heap := by rw [hC]; exact I.kIn
  refine wpAny_setItem_heap (knd := nestedKind X.prog X.w) (show X.A.in1.units + 8 < cLine by show X.A.units + 1 + 8 < cLine; omega) (key_is hI I.hok hx hn hd) (nset_at hI I.hok e nd r) (fun h' hm' hs' => ?_) (Nat.le_of_lt hz)
  rw [storedH_new hA] at hm'
  exact ⟨_, d_write I (by rw [e]; exact True.intro) hs' (let ⟨q, _, _, hq, _⟩ := hm'; ⟨q, hq⟩) (nset_ok hm'), q⟩
theorem sg_ns {a b : Expr} {da db : DE} (hP : tbs.P = X.prog) (hw : tbs.w = X.w) (hu : X.A.units + 64 < cLine) (ha : SndE X ep W a da) (hb : SndE X ep W b db)
    (he : ∀ v, assign (.Subscript a b pos) X.env v = (do
      let ov ← holding [v] (eval a X.env)
      let iv ← holding [v, ov] (eval b X.env)
      standAt pos
      holding [v, ov, iv] (setItem ov iv v)
      release [v, ov, iv] []) := by intro _; rfl) : SndW' X ep W [] (.Subscript a b pos) (gNs da db) :=
  (pg_sub ha hb (set_ns hu) he).imp fun v σ H Q ⟨as, G, S, x, rg, rs, rx, h⟩ => tD.st rg rs h fun y G1 as1 H1 y' e1 rg1 rs1 ry h1 => tD.st rg1 rs1 h1 fun z G2 as2 H2 z' e2 rg2 rs2 rz h2 => by
    split at h2
    · rename_i i ys0
      split at h2
      · rename_i j ks hG
        split at h2
        · rename_i k hn
          split at h2
          · rename_i hc
            obtain ⟨rfl, hd, hA, hl⟩ := hc
            have hl := Nat.le_of_ble_eq_true hl
            obtain ⟨a, ha, hv⟩ := (ry.mono e2).ref
            obtain ⟨ho, hH, a', ys, ha', h3, hs, hz, nd, r⟩ := rg2.at hG ha
            rw [ha] at ha'
            cases ha'
            subst h3
            obtain ⟨b1, zs, hb1, ht⟩ := rz.tup
            have hA2 : atKey ys (toNK k) = none := by
              have := nset_mem (norm_nf hn) r
              rw [hA] at this
              exact Option.not_isSome_iff_eq_none.mp (by rw [this]; simp)
            have hlen := r.len
            have hsz := sizeLine_eq
            rw [hb1] at rz
            have e3 : Ext as2 H2 as2 (L2.upd H2 a (NSet tbs.P tbs.w a (ys ++ [(toNK k, b1, .bool true)]))) := Ext.wr (fun ws => by rw [hH]; unfold NSet; simp) (.inl (List.mem_of_getElem? ha))
            have nd2 : ((ys ++ [(toNK k, b1, Value.bool true)]).map (·.1)).Nodup := by
              rw [List.map_append, List.nodup_append]
              refine ⟨nd, by simp, fun p hp q hq => ?_⟩
              simp at hq
              subst hq
              rintro rfl
              obtain ⟨p', hp', e'⟩ := List.mem_map.mp hp
              have hf : (ys.find? fun x => decide (x.1 = toNK k)) = none := by
                unfold atKey at hA2
                exact Option.map_eq_none_iff.mp hA2
              have := List.find?_eq_none.mp hf p' hp'
              simp [e'] at this
            have ro : RO (rc X ep) as2 H2 (.nset j (ks ++ [.tup ys0])) (NSet tbs.P tbs.w a (ys ++ [(toNK k, b1, .bool true)])) := ⟨a, _, ha, rfl, hs, by rw [List.length_append, hlen]; simp only [List.length_cons, List.length_nil]; omega, nd2, r.snoc hn hd rz⟩
            have rg3 := rg2.write ha (fun ws => by rw [hH]; unfold NSet; simp) ro
            refine ⟨rc X ep, as2, a, b1, ks, _, k, ys, rfl, hv, hb1, (rx.mono (e1.trans e2)).bl, by rw [← hP, ← hw]; exact hH, by omega, nd, r, rz, hn, hd, hA2, ?_⟩
            rw [← hP, ← hw]
            exact h2 as2 _ σ e3 rg3 (rs2.mono e3) ⟨rfl, fun _ _ => rfl⟩
          · exact h2.elim
        · exact h2.elim
      · exact h2.elim
    · exact h2.elim
end
end DL
end S_Rules17
section S_Rules18
set_option Elab.async false
set_option linter.all false
set_option maxRecDepth 100000
set_option maxHeartbeats 2000000
/-! Rules18: {e: True}; is True; a star in a tuple. -/
namespace DL
open PySem PySem.Spec PyProof.Rows L2
variable [tbs : TabsT] [TC : TabsC]
theorem RelG.newN {C : RC} {as : List Addr} {H : Hp} {G : Hv} (r : RelG C as G H) {p : Addr} {o : VO} {ho : HO} (hp : H p = Option.none) (h : RO C (as ++ [p]) (L2.upd H p ho) o ho) : RelG C (as ++ [p]) (G ++ [o]) (L2.upd H p ho) := by
  have e : Ext as H (as ++ [p]) (L2.upd H p ho) := Ext.new hp
  have r0 := r.new (o := .lst []) (ho := .lst []) hp ⟨[], rfl, .nil⟩
  refine ⟨r.tb.ext fun b o q _ => by rw [upd_ne (ne_of_none q hp)]; exact q, by simp [r.len], r0.nd, fun i v hv => ?_⟩
  by_cases hi : i < G.length
  · rw [List.getElem?_append_left hi] at hv
    obtain ⟨a, h', h1, h2, h3⟩ := r.ob i v hv
    refine ⟨a, h', ?_, ?_, h3.mono e⟩
    · rw [List.getElem?_append_left (by rw [r.len]; exact hi)]; exact h1
    · rw [upd_ne (ne_of_none h2 hp)]; exact h2
  · rw [List.getElem?_append_right (by omega)] at hv
    have hi0 : i = G.length := by
      have := (List.getElem?_eq_some_iff.mp hv).1
      simp at this
      omega
    subst hi0
    simp at hv
    subst hv
    refine ⟨p, ho, ?_, upd_same, h⟩
    rw [← r.len]
    simp
theorem vv1 {b : Addr} {ws : List (Value × Value)} (rel : L2.VV [(V.ref b, V.bl true)] ws) : ws = [(Value.ref b, Value.bool true)] := by
  cases ws with
  | nil => cases rel
  | cons p ws =>
    cases rel with
    | cons h t =>
      cases t
      obtain ⟨k1, v1⟩ := p
      obtain ⟨h1, h2⟩ := h
      have h1 : k1 = Value.ref b := h1
      have h2 : v1 = Value.bool true := h2
      rw [h1, h2]
section
variable {X : Cx} {ep : List (Addr × Obj)} {W : WX} {pos p1 : Pos} {e : Expr} {da : DE}
theorem se_ns1 {j} (hP : tbs.P = X.prog) (hw : tbs.w = X.w) (hu : X.A.units + 64 < cLine) (ha : SndE X ep W e da) : SndE X ep W (.Dict [some e] [.Constant (.bool true) j p1] pos) (dNs1 da) := by
  refine ⟨fun pins s σ H Q I ⟨as, G, S, rg, rs, h⟩ => ?_⟩
  have hn : H s.heap.objs.size = none := I.hok.fresh (Nat.le_refl _)
  have hds : (s.heap.objs.size == sysModules) = false := beq_eq_false_iff_ne.mpr (Ne.symm (Nat.ne_of_lt I.big))
  have I1 : Inv X pins σ (upd H s.heap.objs.size (NSet X.prog X.w s.heap.objs.size [])) { s with heap := s.heap.push { cls := .type "dict", data := .dict #[] }, toks := s.toks } :=
    I.laid (a := s.heap.objs.size) (fun _ _ q => Heap.get?_push_of_some _ q) (Nat.le_refl _) (nset_ok (Heap.DictOfH.new s.heap))
  have e1 : Ext as H (as ++ [s.heap.objs.size]) (upd H s.heap.objs.size (NSet X.prog X.w s.heap.objs.size [])) := Ext.new hn
  have rg1 : RelG (rc X ep) (as ++ [s.heap.objs.size]) (G ++ [.nset G.length []]) (upd H s.heap.objs.size (NSet X.prog X.w s.heap.objs.size [])) :=
    rg.newN hn ⟨_, [], rg.newAt, by rw [hP, hw], hds, Nat.zero_le _, List.nodup_nil, rfl⟩
  have hd0 := rg.newAt (p := s.heap.objs.size)
  unfold dNs1 at h
  have ht : tDE (rc X ep) W da σ (upd H s.heap.objs.size (NSet X.prog X.w s.heap.objs.size [])) fun v1 H2 => ∃ b x k, [(v1, V.bl true)] = [(V.ref b, V.bl true)] ∧ H2 s.heap.objs.size = some (NSet X.prog X.w s.heap.objs.size []) ∧ (∃ as2, RV (rc X ep) as2 H2 x (.ref b)) ∧ normV x = some k ∧ depV k ≤ 8 ∧
      Q (.ref s.heap.objs.size) (upd H2 s.heap.objs.size (NSet X.prog X.w s.heap.objs.size [(toNK k, b, .bool true)])) :=
    tD.bind rg1 (rs.mono e1) (tR.step e1 h) fun x G1 as2 H2 x' e2 rg2 rs2 rx h1 => by
      split at h1
      · rename_i xs
        split at h1
        · rename_i k j hk hG
          split at h1
          · rename_i hc
            obtain ⟨rfl, hd⟩ := hc
            obtain ⟨b, ys, rfl, _⟩ := rx.tup
            have ha2 := e2.at hd0
            obtain ⟨ho, hH, a', ys', ha', h3, hs, hz, nd, r⟩ := rg2.at hG ha2
            rw [ha2] at ha'
            cases ha'
            subst h3
            cases r
            rw [hP, hw] at hH
            have ro : RO (rc X ep) as2 H2 (.nset G.length [.tup xs]) (NSet X.prog X.w s.heap.objs.size [(toNK k, b, .bool true)]) := ⟨_, _, ha2, by rw [hP, hw], hs, by rw [sizeLine_eq]; simp, by simp, ⟨k, b, [], rfl, hk, hd, rx, rfl⟩⟩
            have e3 : Ext as2 H2 as2 (L2.upd H2 s.heap.objs.size (NSet X.prog X.w s.heap.objs.size [(toNK k, b, .bool true)])) := Ext.wr (fun ws => by rw [hH]; unfold NSet; simp) (.inl (List.mem_of_getElem? ha2))
            exact ⟨b, _, k, rfl, hH, ⟨as2, rx⟩, hk, hd, h1 _ _ _ e3 (rg2.write ha2 (fun ws => by rw [hH]; unfold NSet; simp) ro) (.mkRef ha2)⟩
          · exact h1.elim
        · exact h1.elim
      · exact h1.elim
  have hs : (evalEachOpt [some e] X.env).zip ((evalEach [.Constant (.bool true) j p1] X.env).map fun v => do let x ← v; standAt pos; pure x) = (pairTrees [some e] [.Constant (.bool true) j p1] X.env pos).map fun p => (some p.1, p.2) := by rfl
  show wpAny _ _ (eval (.Dict [some e] [.Constant (.bool true) j p1] pos) X.env) _ _ _
  rw [arm_eval_Dict, hs, dictDisplay_pairs _ (by simp [pairTrees]) (by simp [pairTrees])]
  refine wpAny_bind (wpAny_standAt (wpAny_bind (wpAny_subDictH (knd := nestedKind X.prog X.w) (Q := fun d s' => wpAny (model X.prog X.w) X.A (pure (Value.ref d)) _ _ s') (show X.A.units + 8 < cLine by omega) (by simp [pairTrees])
    (thn ((pps_cons (pos := pos) ha (pe_bl (b := true)) pps_nil).run pins _ σ _ (fun ps H2 => ∃ b x k, ps = [(.ref b, .bl true)] ∧ H2 s.heap.objs.size = some (NSet X.prog X.w s.heap.objs.size []) ∧ (∃ as2, RV (rc X ep) as2 H2 x (.ref b)) ∧ normV x = some k ∧ depV k ≤ 8 ∧
      Q (.ref s.heap.objs.size) (upd H2 s.heap.objs.size (NSet X.prog X.w s.heap.objs.size [(toNK k, b, .bool true)]))) I1 ?_) fun ws s2 ⟨ps, H2, I2, rel, b, x, k, ep', hH, ⟨as2, rx⟩, hk, hd, q⟩ => ?_))))
  · exact ht
  · subst ep'
    have ew := vv1 rel
    subst ew
    have hI : (rc X ep).K.In s2.heap := I2.kIn
    refine ⟨[(toNK k, b, .bool true)], ⟨rfl, rfl, key_is hI I2.hok rx hk hd, True.intro⟩, nset_at (C := rc X ep) (as := as2) (ks := []) hI I2.hok hH List.nodup_nil rfl, fun h' tk hm' hs' => wpAny_pure ⟨.ref _, _, ?_, rfl, q⟩⟩
    exact d_write I2 (by rw [hH]; exact True.intro) hs' (let ⟨q, _, _, hq, _⟩ := hm'; ⟨q, hq⟩) (nset_ok hm')
end
end DL
end S_Rules18
section S_Rules19
set_option Elab.async false
set_option linter.all false
set_option maxRecDepth 100000
set_option maxHeartbeats 2000000
/-! Rules19: e is True; a star in a display. -/
namespace DL
open PySem PySem.Spec PyProof.Rows L2
variable [tbs : TabsT] [TC : TabsC]
section
variable {X : Cx} {ep : List (Addr × Obj)} {W : WX} {p : Pos} {e : Expr} {es : List Expr} {da : DE} {dr : DA}
theorem so_cIsB : OpR X (compareOp .Is) (rC (rc X ep) cIsB) := by
  intro pins s σ H x' y' v u Q I rx ry ⟨as, G, x, y, b, rg, hx, hy, h, q⟩
  unfold cIsB at h
  split at h
  · rename_i a c
    cases h
    have e1 := hx.bl
    have e2 := hy.bl
    subst e1 e2
    exact op_isBl pins s σ H _ _ v u Q I rx ry ⟨a, c, rfl, rfl, q⟩
  · cases h
theorem sa_star (he : SndE X ep W e da) (hr : SndA X ep W es dr) (hs : starEach (.Starred e p :: es) X.env = (true, eval e X.env) :: starEach es X.env := by rfl) : SndA X ep W (.Starred e p :: es) (aStar da dr) :=
  (StX.pa_star he hr hs).imp fun σ H Q ⟨as, G, S, rg, rs, h⟩ => tD.bind rg rs h fun x G1 as1 H1 x' e1 rg1 rs1 rx h1 => by
    split at h1
    · rename_i xs hxs
      obtain ⟨a, ys, hv, hsq, r⟩ := RV.seq rg1 rx hxs
      refine ⟨a, ys, hv, hsq.symm, tD.bind rg1 rs1 h1 fun zs G2 as2 H2 zs' e2 rg2 rs2 rzs h2 => ?_⟩
      exact h2 _ _ _ .refl rg2 ((r.mono e2).append rzs)
    · exact h1.elim
theorem st_lst (h : SndE X ep W e da) (he : ∀ whole, isTrue e X.env whole = (do let v ← whole; standAt e.pos; holding [v] (truthy v)) := by intro _; rfl) : SndT X ep W e (tL da) :=
  (pt_truth h he).imp fun σ H Q ⟨as, G, S, rg, rs, h⟩ => tD.bind rg rs h fun x G1 as1 H1 x' e1 rg1 rs1 rx h1 => by
    cases q : truL G1 x with
    | none => rw [q] at h1; exact h1.elim
    | some b =>
      rw [q] at h1
      have fin := h1 _ _ b .refl rg1 rfl
      refine ⟨b, ?_, fin⟩
      unfold truL at q
      split at q
      · cases q
        have := rx.bl
        subst this
        rfl
      · cases q2 : asListR G1 x with
        | none => rw [q2] at q; cases q
        | some xs =>
          rw [q2] at q
          cases q
          obtain ⟨a, ys, rfl, hs, r⟩ := RV.lstR rg1 rx q2
          refine .inl ⟨ys, hs, ?_⟩
          have := r.length
          cases xs <;> cases ys <;> simp at this ⊢
end
end DL
end S_Rules19
section S_Rules20
set_option Elab.async false
set_option linter.all false
set_option maxRecDepth 100000
set_option maxHeartbeats 2000000
/-! Rules20: raise C(e), C's own __init__ keeps e in a field; try .. except C. -/
namespace DL
open PySem PySem.Spec PyProof.Rows L2
/-- what __init__(self, v): self.f = v keeps -/
def spI (K : PySem.W.Frag) (f : Str) : Sp := fun vs H Q _ => ∃ a C v, vs = [.ref a, v] ∧ OexC K C ∧ PySem.W.findIn K (.ref C) f = some none ∧ H a = some (exo a C none) ∧ ∀ dx, H dx = none → dx ≠ a → Q .non (upd (upd H dx (exd dx [(f, v)])) a (exo a C (some dx)))
theorem init_ok {P : Program} {w : World} {K : PySem.W.Frag} {mg : Str → Option Value} {base : Heap} {x qual : Str} {params : Arguments} {body : List Stmt} {scope : Scope} {fI : Addr} {fd : FuncData} {s0 s1 f : Str} {p1 p2 p3 p4 : Pos}
    (F : FunD K x qual params body scope [] [] fI fd) (S : FnScope [s0, s1] [s0, s1] scope) (hb : body = [.Assign [.Attribute (.Name s0 p1) f p2] (.Name s1 p3) p4])
    (v0 : scope.names.lookup s0 = some .local) (v1 : scope.names.lookup s1 = some .local) (hd0 : (s0 == ("__debug__" : Str)) = false := by decide) (hc0 : (s0 == ("__classdict__" : Str)) = false := by decide) (hd1 : (s1 == ("__debug__" : Str)) = false := by decide) (hc1 : (s1 == ("__classdict__" : Str)) = false := by decide)
    (hs : ∀ env, swapsWith (.Name s1 p3) (some (.Attribute (.Name s0 p1) f p2)) p4.line env = pure false := by intro _; rfl) :
    FnOk P w K mg base (L2.CX P w) 1 fI fd [s0, s1] (spI K f) := by
  subst hb
  refine F.ok (k := 0) S (fun vs H Q E ⟨a, C, v, e, _⟩ => by rw [e]; rfl) fun cdv A outer s H vs Q E hr h => ⟨_, pss_one (ps_ost (pe_var (i := 0) rfl (.inl v0) hd0 hc0) (pe_var (i := 1) rfl (.inl v1) hd1 hc1) (hs _)), ?_⟩
  obtain ⟨a, C, v, rfl, T, hno, hH, q⟩ := h
  exact ⟨v, rfl, .ref a, rfl, a, C, rfl, T, hno, .inl ⟨hH, q⟩⟩
variable [tbs : TabsT] [TC : TabsC]
section
variable {X : Cx} {W : WX} {C fI : Addr} {fd : FuncData} {ps : List Str} {c f k : Nat} {x : Str} {e : Expr} {d : DE} {p pos pos' np hpos : Pos}
/-- an exception class of one's own -/
structure ExcK (K : PySem.W.Frag) (mg : Str → Option Value) (c f : Nat) (C fI : Addr) : Prop where
  T : OexC K C
  mg : mg (nameOf c) = some (.ref C)
  iC : PySem.W.findIn K (.ref C) "__init__" = some (some (.ref fI))
  tI : PySem.W.typeIn K (.ref fI) = some (.type "function")
  no : PySem.W.findIn K (.ref C) (nameOf f) = some none
theorem ss_raise1 (T : ExcK X.K X.mg c f C fI) (hx : nameOf c = x) (F1 : FnOk X.prog X.w X.K X.mg X.base (L2.CX X.prog X.w) k fI fd ps (spI X.K (nameOf f))) (hb : Binds X.K fd ps []) (hr : Room (k + 1) X.A) (hg : Gl X x) (hc : X.calm = true) (tk : Takes X W) (ha : SndE X [] W e d)
    (hdb : (x == ("__debug__" : Str)) = false := by decide) (he : starEach (e :: []) X.env = (false, eval e X.env) :: starEach [] X.env := by rfl) :
    SndS X [] W (.Raise (some (.Call (.Name x p) [e] [] pos)) none pos') (sRaise c f d) :=
  (ps_raise hc tk (pmk_oex T.T T.iC T.tI F1 hr hb (.nil : Vals [] []) passL hg (hx ▸ T.mg) (pa_cons ha pa_nil he) hdb he (by rfl))).imp fun D σ H ⟨as, G, S, rg, rs, h⟩ => tD.st rg rs h fun v G1 as1 H1 v' e1 rg1 rs1 rv h1 => by
    refine ⟨by simp, fun a ha => ⟨a, C, v', by simp, T.T, T.no, upd_same, fun dx hdx ne => ⟨rfl, dx, [(nameOf f, v')], upd_same, ?_, ?_, ?_⟩⟩⟩
    · rw [upd_ne ne, upd_same]
    · rw [upd_ne ne] at hdx
      exact hdx
    · rw [upd_ne ne] at hdx
      have e2 : upd (del (upd (upd (upd H1 a (exo a C none)) dx (exd dx [(nameOf f, v')])) a (exo a C (some dx))) a) dx (.xd [(nameOf f, v')]) = upd H1 dx (.xd [(nameOf f, v')]) := by
        funext b
        by_cases h1 : b = dx
        · subst h1; rw [upd_same, upd_same]
        · rw [upd_ne h1, upd_ne h1]
          by_cases h2 : b = a
          · subst h2; rw [del_same, ha]
          · rw [del_ne h2, upd_ne h2, upd_ne h1, upd_ne h2]
      rw [e2]
      have e3 : Ext as1 H1 as1 (L2.upd H1 dx (.xd [(nameOf f, v')])) := Ext.side hdx
      exact h1 as1 _ σ (.ref C) (some dx) e3 (rg1.side hdx) (rs1.mono e3) ⟨C, T.mg, rfl, .inr ⟨dx, _, rfl, upd_same, v', [], rfl, rv.mono e3, rfl⟩⟩
theorem ss_catch {body suite : List Stmt} {b₀ : Stmt} {b s : DS} (hs : X.stack = X.env :: X.outer) (hf : X.env.frame = some X.env.locals) (hx : nameOf c = x) (hm : X.mg (nameOf c) = some (.ref C)) (hg : Gl X x) (hE : PySem.W.exmOne X.K (.ref C) (.ref C) = some true) (tk : Takes X W)
    (hb : ∀ (W : WX) (pn : List (Addr × Obj)) (xe : Value → Shared → Prop), Takes (X.tr pn xe) W → SndSs (X.tr pn xe) [] W body b)
    (hsu : ∀ (a : Addr) (pn : List (Addr × Obj)), SndSs (X.suite a pn) [] W0 (b₀ :: suite) s) (hdb : (x == ("__debug__" : Str)) = false := by decide) :
    SndS X [] W (.Try body [.ExceptHandler (some (.Name x np)) none (b₀ :: suite) hpos] [] [] pos) (sCatch c b s) :=
  (ps_try_only (c := .ref C) hs hf ⟨hg, hdb, .inl (hx ▸ hm)⟩ tk (tb := fun W => tDS (rc X []) W b) (fun W pn xe tk _ => hb W pn xe tk) (ts := fun _ _ _ => tDS (rc X []) W0 s) (fun a oe cls d pn _ _ => hsu a ((a, oe) :: pn))).imp fun D σ H ⟨as, G, S, rg, rs, h⟩ => by
    refine ⟨as, G, S, rg, rs, ?_⟩
    unfold sCatch at h
    cases q : b S G with
    | nx _ _ => rw [q] at h; exact h
    | rt _ _ => rw [q] at h; exact h
    | bk _ _ => rw [q] at h; exact h
    | ct _ _ => rw [q] at h; exact h
    | bad => rw [q] at h; exact h
    | exn y S1 G1 =>
      rw [q] at h
      simp only at h
      split at h
      · rename_i c' fs
        split at h
        · rename_i hc
          subst hc
          refine fun as' H' σ' cls d e rg' rs' rx => ?_
          obtain ⟨Ca, h1, rfl, _⟩ := rx
          have h1 : X.mg (nameOf c') = some (.ref Ca) := h1
          rw [hm] at h1
          cases h1
          refine ⟨true, hE, fun _ a _ => ⟨as', G1, S1, rg', rs', ?_⟩, fun z => by cases z⟩
          have h2 := tO.step e h
          cases q2 : s S1 G1 with
          | exn _ _ _ => rw [q2] at h2; exact h2.elim
          | nx _ _ => rw [q2] at h2; exact h2
          | rt _ _ => rw [q2] at h2; exact h2
          | bk _ _ => rw [q2] at h2; exact h2
          | ct _ _ => rw [q2] at h2; exact h2
          | bad => rw [q2] at h2; exact h2
        · exact h.elim
      · exact h.elim
end
end DL
end S_Rules20
section S_Rules21
set_option Elab.async false
set_option linter.all false
set_option maxRecDepth 100000
set_option maxHeartbeats 2000000
/-! Rules21: a tuple against (). -/
namespace DL
open PySem PySem.Spec PyProof.Rows L2
variable [tbs : TabsT] [TC : TabsC]
section
variable {X : Cx} {ep : List (Addr × Obj)}
theorem so_cEqT0 (hu : X.A.units + 64 < cLine) : OpR X (compareOp .Eq) (rC (rc X ep) cEqT0) := by
  intro pins s σ H x' y' v u Q I rx ry ⟨as, G, x, y, b, rg, hx, hy, h, q⟩
  unfold cEqT0 at h
  split at h
  · rename_i xs
    cases h
    obtain ⟨a1, ys1, rfl, t1, r1⟩ := hx.tup
    obtain ⟨a2, ys2, rfl, t2, r2⟩ := hy.tup
    cases rx
    cases ry
    obtain ⟨its1, w1, i1, _⟩ := I.tuple t1.sq
    obtain ⟨its2, w2, i2, _⟩ := I.tuple t2.sq
    rw [RVs] at r2
    subst r2
    cases w2
    refine SeqAt.eq_tupleAt (e := fun _ => true) (items := its1.toArray) (items2 := #[]) i1 i2 (by omega) (fun j _ h2 => absurd h2 (by simp)) ?_
    have l1 := r1.length
    have l2 : ys1.length = its1.length := Paired.length w1
    have e : ((List.range (min its1.toArray.size (#[] : Array Value).size)).all (fun _ => true) && its1.toArray.size == (#[] : Array Value).size) = xs.isEmpty := by
      cases xs with
      | nil => simp at l1; simp [← l2, ← l1]
      | cons z zs =>
        simp at l1
        have : its1.length ≠ 0 := by omega
        simp
        exact fun h => this (by rw [h]; rfl)
    rw [e]
    exact ⟨.bl _, H, I, rfl, q⟩
  · cases h
theorem so_cNeT0 (hu : X.A.units + 64 < cLine) : OpR X (compareOp .NotEq) (rC (rc X ep) cNeT0) := by
  intro pins s σ H x' y' v u Q I rx ry ⟨as, G, x, y, b, rg, hx, hy, h, q⟩
  unfold cNeT0 cEqT0 at h
  split at h
  · rename_i xs
    cases h
    obtain ⟨a1, ys1, rfl, t1, r1⟩ := hx.tup
    obtain ⟨a2, ys2, rfl, t2, r2⟩ := hy.tup
    cases rx
    cases ry
    obtain ⟨its1, w1, i1, _⟩ := I.tuple t1.sq
    obtain ⟨its2, w2, i2, _⟩ := I.tuple t2.sq
    rw [RVs] at r2
    subst r2
    cases w2
    refine SeqAt.RcNeAt.tuples (e := fun _ => true) (items := its1.toArray) (items2 := #[]) i1 i2 (by omega) (fun j _ h2 => absurd h2 (by simp)) X.prog X.w _ _ ?_
    have l1 := r1.length
    have l2 : ys1.length = its1.length := Paired.length w1
    have e : ((List.range (min its1.toArray.size (#[] : Array Value).size)).all (fun _ => true) && its1.toArray.size == (#[] : Array Value).size) = xs.isEmpty := by
      cases xs with
      | nil => simp at l1; simp [← l2, ← l1]
      | cons z zs =>
        simp at l1
        have : its1.length ≠ 0 := by omega
        simp
        exact fun h => this (by rw [h]; rfl)
    rw [e]
    exact ⟨.bl _, H, I, rfl, q⟩
  · cases h
end
end DL
end S_Rules21
section S_Rules22
set_option Elab.async false
set_option linter.all false
set_option maxRecDepth 100000
set_option maxHeartbeats 2000000
/-! Rules22: a def that makes defs: its code object, its table; the Hook that tells them. -/
namespace DL
open PySem PySem.Spec PyProof.Rows L2 He
/-- a def's code object -/
def codeAt (K : PySem.W.Frag) (f : Addr) : Option Addr := match K.lookup f with
  | some ⟨_, _, .func fd, _⟩ => (match fd.code with
    | .ref c => some c
    | _ => none)
  | _ => none
def tabOf (K0 : PySem.W.Frag) (c : Addr) : Option Addr := match K0.lookup c with
  | some ⟨_, _, .fields vs, _⟩ => (match (vs[11]? : Option Value) with
    | some (.ref P) => some P
    | _ => none)
  | _ => none
def tabQ (K K0 : PySem.W.Frag) (x : Str) : Bool := match codeAt K (ga K x) with
  | some c => (match tabOf K0 c with
    | some P => PySem.W.codeHdIn K0 c P && (match K0.lookup P with
      | some o => isTab o
      | none => false)
    | none => false)
  | none => false
/-- what is told of such a def -/
def TabFact (K : PySem.W.Frag) (h : Heap) (x : Str) : Prop := ∃ c P, codeAt K (ga K x) = some c ∧ PySem.W.CodeHd h c P ∧ h.get? P = some { cls := .none, data := .fields #[] } ∧ K.lookup P = none
theorem tabFact_of {K K0 : PySem.W.Frag} {h : Heap} {x : Str} (h0 : K0.In h) (hK : K.In h) (nl : NoL K) (e : tabQ K K0 x = true) : TabFact K h x := by
  unfold tabQ at e
  split at e
  · rename_i c hc
    split at e
    · rename_i P hP
      rw [Bool.and_eq_true] at e
      obtain ⟨e1, e2⟩ := e
      split at e2
      · rename_i o ho
        have eo := isTab_eq e2
        subst eo
        have hg := h0 P _ ho
        refine ⟨c, P, hc, PySem.W.codeHd_of_K h0 e1, hg, ?_⟩
        cases q : K.lookup P with
        | none => rfl
        | some o' =>
          have h1 := hK P o' q
          rw [hg] at h1
          cases h1
          have h2 := nl P _ q
          exact absurd h2 (by decide)
      · cases e2
    · cases e
  · cases e
def obsTG (n : Nat) (xs : List Str) (fa : List Fa) (fb : List Fb) (fn : List He5.DefA) (ts : List Tab) (nt : List Str) (g : Addr → Option Obj) : AlM × Bool := (obsMG n xs fa fb fn ts g, nt.all fun x => tabQ (frM g (asM g n xs)) (frG g (asM g n xs)) x)
def hookT (n : Nat) (xs : List Str) (fa : List Fa) (fb : List Fb) (fn : List He5.DefA) (ts : List Tab) (nt : List Str) : PySem.W.Hook where
  α := AlM × Bool
  obs := fun s => obsTG n xs fa fb fn ts nt s.heap.get?
  val := fun w => (valM fn ts w, true)
  says := fun w h => ∃ K : PySem.W.Frag, K.In h ∧ NoL K ∧ SaysM fa fb fn ts w K ∧ ∀ x ∈ nt, TabFact K h x
  of := fun _ _ e => ⟨_, frM_in, frM_noL, congrArg Prod.fst e, fun x hx => tabFact_of frG_in frM_in frM_noL (List.all_eq_true.mp (congrArg Prod.snd e) x hx)⟩
  keeps := fun _ _ _ ⟨K, hK, nl, c, t⟩ k => ⟨K, PySem.W.Frag.In.keeps hK k, nl, c, fun x hx => let ⟨a, P, h1, h2, h3, h4⟩ := t x hx; ⟨a, P, h1, h2.keeps k, k _ _ h3, h4⟩⟩
theorem obsTG_eq {n : Nat} {xs : List Str} {fa : List Fa} {fb : List Fb} {fn : List He5.DefA} {ts : List Tab} {nt : List Str} {g : Addr → Option Obj} {s : Shared} (h : ∀ a, g a = s.heap.get? a) : obsTG n xs fa fb fn ts nt g = (hookT n xs fa fb fn ts nt).obs s := by
  have e : g = s.heap.get? := funext h
  rw [e] <;> rfl
variable [tbs : TabsT] [TC : TabsC]
omit tbs TC in
theorem oexB_cls {K : PySem.W.Frag} {C : Addr} (h : oexB K C = true) : ∃ nm q N bs bm sn sub ab col dd k0 k1 k2 k3 k5, K.lookup C = some (excClassObj nm q C N bs bm true sn sub ab col dd k0 k1 k2 k3 k5 "ValueError.__new__") ∧ PySem.HandSPX.refsVE bm = true := by
  unfold oexB at h
  split at h
  · rename_i dd cd sl ho
    split at h
    · rename_i C' bm k0 k1 k2 k3 n k5 hm hs
      simp only [Bool.and_eq_true, beq_iff_eq, Bool.not_eq_true'] at h
      obtain ⟨rfl, rfl, hdel, hdct, hv⟩ := h
      obtain ⟨nm, bs, mro, ns, qn, hd, sn, sub, ab, col, del⟩ := cd
      dsimp only at hm hdel hdct
      subst hm hdel hdct
      have hsl : sl = #[k0, k1, k2, k3, some (.builtin "ValueError.__new__"), k5] := by
        obtain ⟨l⟩ := sl
        simp only at hs
        rw [hs]
      subst hsl
      exact ⟨nm, qn, ns, bs, bm, sn, sub, ab, col, dd, k0, k1, k2, k3, k5, ho, hv⟩
    · cases h
  · cases h
omit tbs TC in
theorem excK_ok {K : PySem.W.Frag} {h : Heap} {mg : Str → Option Value} (X : K.In h) (G : h.Ns mainGlobals mg) {c f : Nat} {C : Str} (hc : nameOf c = C) (q0 : (Fa.glo C).ok K = true) (q : (Fb.exc C (nameOf f)).ok K = true) :
    ExcK K mg c f (ga K C) (ma K (ga K C) "__init__") ∧ PySem.W.exmOne K (.ref (ga K C)) (.ref (ga K C)) = some true := by
  have q : excB K (ga K C) (nameOf f) = true := q
  unfold excB at q
  simp only [Bool.and_eq_true, decide_eq_true_eq] at q
  obtain ⟨h1, h2, h3, h4, h5, h6, h7, h8, h9⟩ := q
  exact ⟨⟨⟨oexB_cls h1, eqO_ok h2, h3, h4, h5⟩, by rw [hc]; exact glo_ok X G q0, eqO_ok h6, h7, eqO_ok h8⟩, h9⟩
/-- THE RULE for a def whose code object is known -/
theorem def_okC {P : Program} {w : World} {K : PySem.W.Frag} {mg : Str → Option Value} {base : Heap} {x qual : Str} {params : Arguments} {body : List Stmt} {scope : Scope} {f c : Addr} {fd : FuncData} {N ps : List Str} {k n : Nat} {b : DS}
    (F : FunD K x qual params body scope [] [] f fd) (hcode : codeAt K f = some c) (S : FnScope N ps scope) (hN : N.length = n) (hp : ps.length ≤ n)
    (hb : ∀ (kV doc pm : Value) (an : Option Addr) (cdv ct : Value) (us : List Value), us.length = ps.length → bindArgs (PySem.W.fnOf x qual params body scope .none kV doc pm an cdv ct) ⟨us, []⟩ = pure (ps.zip us))
    (hbody : ∀ (A : Around) (outer : List PySem.Env) (s : Shared) (H : Hp) (E : XK), Room k (A.deeper (envOfC qual scope s.heap.objs.size f (.ref c))) → SndSs (cxOf (L2.CX P w) P w K mg base N qual scope f (.ref c) A outer s H E) [] (fun cls d _ H => E cls d H) body b) :
    DefOk P w K mg base (k + 1) f ps (dDef ps.length n b) := by
  have key : FnD P w K mg base (k + 1) f fd ps (dDef ps.length n b) := by
    obtain ⟨oc, od, dV, kV, doc, pm, an, cdv, ct, osl, rfl, lk, hcd, _, _⟩ := F.ex
    have e : cdv = .ref c := by
      unfold codeAt at hcode
      rw [lk] at hcode
      simp only at hcode
      split at hcode
      · cases hcode; rfl
      · cases hcode
    subst e
    exact fn_of lk hcd S (fun vs H Q E h => h.1) fun A outer s H vs Q E hr h => ⟨_, hbody A outer s H E hr, body_read hN hp h⟩
  refine ⟨⟨fd, key, F.bindsN hb, ?_⟩, F.kp, fun vs G h => ?_⟩
  · obtain ⟨oc, od, dV, kV, doc, pm, an, cdv, ct, osl, rfl, lk, _⟩ := F.ex
    exact ⟨oc, od, osl, lk⟩
  · unfold dDef
    rw [if_neg h]
end DL
namespace DL
open PySem PySem.Spec PyProof.Rows L2 He
/-- an exception's own __init__ -/
structure InitOk (P : Program) (w : World) (K : PySem.W.Frag) (mg : Str → Option Value) (base : Heap) (fI : Addr) (f : Str) : Prop where
  ex : ∃ fd ps, FnOk P w K mg base (L2.CX P w) 1 fI fd ps (spI K f) ∧ Binds K fd ps []
theorem initOk_of {P : Program} {w : World} {K : PySem.W.Frag} {mg : Str → Option Value} {base : Heap} {x qual : Str} {params : Arguments} {body : List Stmt} {scope : Scope} {fI : Addr} {s0 s1 f : Str} {p1 p2 p3 p4 : Pos}
    (F : ∃ fd, FunD K x qual params body scope [] [] fI fd) (S : FnScope [s0, s1] [s0, s1] scope) (hb : body = [.Assign [.Attribute (.Name s0 p1) f p2] (.Name s1 p3) p4])
    (v0 : scope.names.lookup s0 = some .local) (v1 : scope.names.lookup s1 = some .local)
    (hbd : ∀ (kV doc pm : Value) (an : Option Addr) (cdv ct : Value) (us : List Value), us.length = [s0, s1].length → bindArgs (PySem.W.fnOf x qual params body scope .none kV doc pm an cdv ct) ⟨us, []⟩ = pure ([s0, s1].zip us))
    (hd0 : (s0 == ("__debug__" : Str)) = false := by decide) (hc0 : (s0 == ("__classdict__" : Str)) = false := by decide) (hd1 : (s1 == ("__debug__" : Str)) = false := by decide) (hc1 : (s1 == ("__classdict__" : Str)) = false := by decide) :
    InitOk P w K mg base fI f := by
  obtain ⟨fd, F⟩ := F
  exact ⟨fd, _, init_ok F S hb v0 v1 hd0 hc0 hd1 hc1, F.bindsN hbd⟩
section
variable [tbs : TabsT] [TC : TabsC] {X : Cx} {W : WX} {C fI : Addr} {c f k : Nat} {x : Str} {e : Expr} {d : DE} {p pos pos' : Pos}
theorem ss_raiseI (T : ExcK X.K X.mg c f C fI) (I : InitOk X.prog X.w X.K X.mg X.base fI (nameOf f)) (hx : nameOf c = x) (hr : Room k X.A) (hg : Gl X x) (hc : X.calm = true) (tk : Takes X W) (ha : SndE X [] W e d) (hk : 2 ≤ k := by decide)
    (hdb : (x == ("__debug__" : Str)) = false := by decide) (he : starEach (e :: []) X.env = (false, eval e X.env) :: starEach [] X.env := by rfl) :
    SndS X [] W (.Raise (some (.Call (.Name x p) [e] [] pos)) none pos') (sRaise c f d) := by
  obtain ⟨fd, ps, F1, hb⟩ := I.ex
  exact ss_raise1 T hx F1 hb (hr.mono hk) hg hc tk ha hdb he
end
end DL
end S_Rules22
section S_Rules23
set_option Elab.async false
set_option linter.all false
set_option maxRecDepth 100000
set_option maxHeartbeats 2000000
/-! Rules23: a if t else b, as a test. -/
namespace DL
open PySem PySem.Spec PyProof.Rows L2
variable [tbs : TabsT] [TC : TabsC]
section
variable {X : Cx} {ep : List (Addr × Obj)} {W : WX} {c a b : Expr} {pos : Pos} {tc ta tb : DT}
theorem st_ifE (hc : SndT X ep W c tc) (ha : SndT X ep W a ta) (hb : SndT X ep W b tb) : SndT X ep W (.IfExp c a b pos) (tIfE tc ta tb) := by
  refine ⟨fun pins s σ H Q I ⟨as, G, S, rg, rs, h⟩ => ?_⟩
  have hw : tDT (rc X ep) W tc σ H fun k H1 => (if k = true then tDT (rc X ep) W ta else tDT (rc X ep) W tb) σ H1 Q :=
    tD.bind rg rs h fun x G1 as1 H1 x' e1 rg1 rs1 rx h1 => by
      cases (show x = x' from rx)
      cases x with
      | true => exact ⟨as1, G1, S, rg1, rs1, h1⟩
      | false => exact ⟨as1, G1, S, rg1, rs1, h1⟩
  refine isTrue_IfExp (thn (hc.run pins s σ H _ I hw) fun k s1 ⟨H1, I1, q1⟩ => ?_)
  cases k with
  | true => exact ha.run pins s1 σ H1 Q I1 q1
  | false => exact hb.run pins s1 σ H1 Q I1 q1
end
end DL
end S_Rules23
section S_Rules24
set_option Elab.async false
set_option linter.all false
set_option maxRecDepth 100000
set_option maxHeartbeats 2000000
/-! Rules24: two defs of a body are handed to a def, two values ahead of them. -/
namespace DL
open PySem PySem.Spec PyProof.Rows L2 NdefX LamX
section
variable [tbs : TabsT] [TC : TabsC]
theorem so_oMulT {X : Cx} {ep : List (Addr × Obj)} : OpR X (binaryOp .Mult) (rD (rc X ep) oMulT) := by
  intro pins s σ H x' y' v u Q I rx ry ⟨as, G, x, y, rg, hx, hy, h⟩
  unfold oMulT at h
  split at h
  · rename_i xs k
    split at h
    · rename_i hl
      obtain ⟨a, vs, e1, t1, r1⟩ := hx.tup
      have l1 := r1.length
      have hy := hy.int
      refine op_repT pins s σ H _ _ v u Q I rx ry ⟨a, k, vs, e1, hy, t1.sq, fun e => hl.1 (by subst e; cases xs; rfl; simp at l1), hl.2.1, hl.2.2.1, by rw [← l1]; exact hl.2.2.2, fun p hp => ?_⟩
      have e : Ext as H as (upd H p (.tup (List.replicate k.toNat vs).flatten)) := Ext.side hp
      exact h as _ _ e (rg.side hp) (.mkTup (.inl upd_same) ((repL_eq r1 _).mono e))
    · exact h.elim
  · exact h.elim
end
section
variable [tbs : TabsT] [TC : TabsC]
variable {X : Cx} {W : WX} {st1 st2 : Stmt} {name1 name2 : Str} {pos1 pos2 : Pos} {i1 i2 : Nat} {fr1 fr2 : List Str} {js1 js2 : List Nat} {n1 n2 : Nat} {fn1 fn2 : Clo} {ps1 ps2 : List Str} {k : Nat} {c P g : Addr} {nm : Nat → Nat → Str} {T : Nat → Option Clo}
  {Ng psg : List Str} {bR : DS} {ng : Nat} {x qualg : Str} {params : Arguments} {body : List Stmt} {scope : Scope} {fd : FuncData} {e ec : Expr} {d dc : DE} {p p1 p2 pos : Pos} {F : Fn}
/-- the wish at the call -/
def tHo2 (X : Cx) (W : WX) (st1 st2 : Stmt) (name1 name2 : Str) (i1 i2 : Nat) (js1 js2 : List Nat) (n1 n2 : Nat) (F : Fn) (d dc : DE) : TE := fun σ H Q => ∃ f1 c1 f2 c2 as G S cs1 cs2,
  σ[i1]? = some (some (.ref f1)) ∧ σ[i2]? = some (some (.ref f2)) ∧ H f1 = some (FnO f1 (mkN X st1 name1 c1)) ∧ H c1 = some (CodeO c1 (X.env.qual ++ name1)) ∧ H f2 = some (FnO f2 (mkN X st2 name2 c2)) ∧ H c2 = some (CodeO c2 (X.env.qual ++ name2)) ∧
  RelG (rc X []) as G H ∧ RS (rc X []) as H S σ ∧ capsOf S js1 = some cs1 ∧ capsOf S js2 = some cs2 ∧ tR (rc X []) W (RV (rc X [])) ((aCons d (aCons dc aNil) S G).bind fun vs G1 => hoEnd G1 (F (vs ++ [.clo n1 cs1, .clo n2 cs2]) G1)) as H σ Q
theorem pe_ho2 (nc : ∀ n, TC.clo n = none) (D1 : NDef X nm st1 name1 pos1 i1 fr1 js1) (D2 : NDef X nm st2 name2 pos2 i2 fr2 js2)
    (F1 : ∀ (T2 : TabsW) (f c' : Addr), NOk X.prog X.w X.K X.mg X.base (L2.CX X.prog X.w) k f (mkN X st1 name1 c') ps1 fr1 (spC (TC := T2.t) X.K X.mg ps1.length fn1))
    (F2 : ∀ (T2 : TabsW) (f c' : Addr), NOk X.prog X.w X.K X.mg X.base (L2.CX X.prog X.w) k f (mkN X st2 name2 c') ps2 fr2 (spC (TC := T2.t) X.K X.mg ps2.length fn2))
    (ar1 : ∀ cs vs G, vs.length ≠ ps1.length → fn1 cs vs G = .bad) (ar2 : ∀ cs vs G, vs.length ≠ ps2.length → fn2 cs vs G = .bad) (hT1 : T n1 = some fn1) (hT2 : T n2 = some fn2) (h12 : n2 ≠ n1)
    (FG : FunD X.K x qualg params body scope [] [] g fd) (SG : FnScope Ng psg scope) (hNg : Ng.length = ng) (hpg : psg.length ≤ ng) (hp3 : psg.length = 4)
    (hbG : ∀ (kV doc pm : Value) (an : Option Addr) (cdv ct : Value) (us : List Value), us.length = psg.length → bindArgs (PySem.W.fnOf x qualg params body scope .none kV doc pm an cdv ct) ⟨us, []⟩ = pure (psg.zip us))
    (bodyG : ∀ (T2 : TabsW) (cdv : Value) (s : Shared) (H : Hp) (E : XK), Room k (X.A.deeper (envOfC qualg scope s.heap.objs.size g cdv)) → Clos (TC := T2.t) (cxOf (L2.CX X.prog X.w) X.prog X.w X.K X.mg X.base Ng qualg scope g cdv X.A X.stack s H E) k T →
      SndSs (TC := T2.t) (cxOf (L2.CX X.prog X.w) X.prog X.w X.K X.mg X.base Ng qualg scope g cdv X.A X.stack s H E) [] (fun cls d _ H => E cls d H) body bR)
    (hg : Gl X x) (hmg : X.mg x = some (.ref g)) (hr : Room (k + 1) X.A) (tk : Takes X W) (he0 : SndE X [] W e d) (he1 : SndE X [] W ec dc)
    (hd1 : (name1 == ("__debug__" : Str)) = false := by decide) (hcd1 : (name1 == ("__classdict__" : Str)) = false := by decide) (hd2 : (name2 == ("__debug__" : Str)) = false := by decide) (hcd2 : (name2 == ("__classdict__" : Str)) = false := by decide)
    (hdb : (x == ("__debug__" : Str)) = false := by decide) (he : starEach (e :: ec :: [.Name name1 p1, .Name name2 p2]) X.env = (false, eval e X.env) :: starEach (ec :: [.Name name1 p1, .Name name2 p2]) X.env := by rfl) (he' : starEach (ec :: [.Name name1 p1, .Name name2 p2]) X.env = (false, eval ec X.env) :: starEach [.Name name1 p1, .Name name2 p2] X.env := by rfl) (hpl : (backTo pos (starEach (ec :: [.Name name1 p1, .Name name2 p2]) X.env)).any (·.1) = false := by rfl) :
    PE X (.Call (.Name x p) [e, ec, .Name name1 p1, .Name name2 p2] [] pos) (tHo2 X W st1 st2 name1 name2 i1 i2 js1 js2 n1 n2 (dDef 4 ng bR) d dc) := by
  refine ⟨fun pins s σ H Q I h => ?_⟩
  obtain ⟨f1, c1, f2, c2, as, G, S, cs1, cs2, hs1, hs2, hf1, hc1, hf2, hc2, rg, rs, q1, q2, h⟩ := h
  obtain ⟨ws1, hw1, rw1⟩ := caps_rs rs q1
  obtain ⟨ws2, hw2, rw2⟩ := caps_rs rs q2
  have vis : ∀ {y : Str}, Loc X.env.scope y → Vis X.env.scope y := fun h => h.elim .inl fun z => .inr (.inl z)
  have ha := pa_cons he0 (pa_cons he1 (pa_cons (pe_var (pos := p1) D1.hi (vis D1.hx) hd1 hcd1) (pa_cons (pe_var (pos := p2) D2.hi (vis D2.hx) hd2 hcd2) pa_nil)) he') he
  obtain ⟨oc, od, dV, kV, doc, pm, an, cdv, ct, osl, rfl, lk, hcd, hD, hK⟩ := FG.ex
  have dV0 : dV = .none := by
    rcases hD with ⟨_, z⟩ | ⟨z, _⟩
    · exact z
    · exact absurd rfl z
  subst dV0
  have ht : tCons (tDE (rc X []) W d) (tCons (tDE (rc X []) W dc) (tCons (tVar i1) (tCons (tVar i2) tNil))) σ H fun vs H1 => ∃ x y as1 G1 v0 v1, vs = [v0, v1, .ref f1, .ref f2] ∧ Ext as H as1 H1 ∧ RelG (rc X []) as1 G1 H1 ∧ RV (rc X []) as1 H1 x v0 ∧ RV (rc X []) as1 H1 y v1 ∧
      tR (rc X []) W (RV (rc X [])) (hoEnd G1 (dDef 4 ng bR [x, y, .clo n1 cs1, .clo n2 cs2] G1)) as1 H1 σ Q := by
    have e0 : ((aCons d (aCons dc aNil) S G).bind fun vs G1 => hoEnd G1 (dDef 4 ng bR (vs ++ [.clo n1 cs1, .clo n2 cs2]) G1)) = (d S G).bind fun x G1 => (dc S G1).bind fun y G2 => hoEnd G2 (dDef 4 ng bR [x, y, .clo n1 cs1, .clo n2 cs2] G2) := by
      unfold aCons aNil
      cases d S G with
      | ok v G1 => show R.bind (R.bind (R.bind (dc S G1) _) _) _ = R.bind (dc S G1) _; cases dc S G1 <;> rfl
      | exn _ _ => rfl
      | bad => rfl
    rw [e0] at h
    exact tD.bind rg rs h fun x G1 as1 H1 v0 e1 rg1 rs1 rx h1 => tD.bind rg1 rs1 h1 fun y G2 as2 H2 v1 e2 rg2 rs2 ry h2 => ⟨.ref f1, hs1, .ref f2, hs2, x, y, as2, G2, v0, v1, rfl, e1.trans e2, rg2, rx.mono e2, ry, h2⟩
  refine wpAny_Call_Name_kw (ld_glob I hg hmg ?_ hdb)
  refine PySem.W.callWith_K (h₀ := X.base) I.ok.mod.kin FG.kp (thn (ha.run pos pins s σ H _ I ht) fun us s1 ⟨vs, H1, I1, r, x0, y0, as1, G1, v0, v1, ev, e1, rg1, rx, ry, h1⟩ => ⟨I1.kIn, ?_⟩) he hpl
  subst ev
  have g1 : H1 f1 = some (FnO f1 (mkN X st1 name1 c1)) := rg.keepX e1 pin_fn fnO_ne hf1
  have g2 : H1 f2 = some (FnO f2 (mkN X st2 name2 c2)) := rg.keepX e1 pin_fn fnO_ne hf2
  have g3 : H1 c1 = some (CodeO c1 (X.env.qual ++ name1)) := rg.keepX e1 pin_code codeO_ne hc1
  have g4 : H1 c2 = some (CodeO c2 (X.env.qual ++ name2)) := rg.keepX e1 pin_code codeO_ne hc2
  obtain ⟨T2, hpin, hclo⟩ : ∃ T : TabsW, T.t.pin = TC.pin ++ [(f1, FnO f1 (mkN X st1 name1 c1)), (c1, CodeO c1 (X.env.qual ++ name1)), (f2, FnO f2 (mkN X st2 name2 c2)), (c2, CodeO c2 (X.env.qual ++ name2))] ∧ ∀ n, T.t.clo n = if n = n1 then some (f1, ws1) else if n = n2 then some (f2, ws2) else none := by
    refine mkT [(f1, FnO f1 (mkN X st1 name1 c1)), (c1, CodeO c1 (X.env.qual ++ name1)), (f2, FnO f2 (mkN X st2 name2 c2)), (c2, CodeO c2 (X.env.qual ++ name2))] (fun q hq => ?_) _
    simp at hq
    rcases hq with rfl | rfl | rfl | rfl
    · exact ⟨pin_fn, fnO_ne⟩
    · exact ⟨pin_code, codeO_ne⟩
    · exact ⟨pin_fn, fnO_ne⟩
    · exact ⟨pin_code, codeO_ne⟩
  have hmem : ∀ q ∈ [(f1, FnO f1 (mkN X st1 name1 c1)), (c1, CodeO c1 (X.env.qual ++ name1)), (f2, FnO f2 (mkN X st2 name2 c2)), (c2, CodeO c2 (X.env.qual ++ name2))], q ∈ T2.t.pin := fun q hq => by
    rw [hpin]
    exact List.mem_append_right _ hq
  have t2 : TabI (TC := T2.t) H1 := ⟨rg1.tb.1, fun q hq => by
    rw [hpin] at hq
    rcases List.mem_append.mp hq with z | z
    · exact rg1.tb.2 q z
    · simp at z
      rcases z with rfl | rfl | rfl | rfl
      · exact g1
      · exact g3
      · exact g2
      · exact g4⟩
  have rg2 : RelG (TC := T2.t) (rc X []) as1 G1 H1 := RelG.up (T1 := ⟨TC⟩) nc t2 rg1
  have r1 : RV (TC := T2.t) (rc X []) as1 H1 (.clo n1 cs1) (.ref f1) := by
    exact RV.clo_iff.mpr ⟨f1, ws1, (hclo n1).trans (if_pos rfl), rfl, RVs.up (T1 := ⟨TC⟩) nc (rw1.mono e1)⟩
  have r2 : RV (TC := T2.t) (rc X []) as1 H1 (.clo n2 cs2) (.ref f2) := by
    exact RV.clo_iff.mpr ⟨f2, ws2, (hclo n2).trans ((if_neg h12).trans (if_pos rfl)), rfl, RVs.up (T1 := ⟨TC⟩) nc (rw2.mono e1)⟩
  have rxs : RVs (TC := T2.t) (rc X []) as1 H1 [x0, y0, .clo n1 cs1, .clo n2 cs2] [v0, v1, .ref f1, .ref f2] := RVs.cons (TC := T2.t) (RV.up (T1 := ⟨TC⟩) nc rx) (RVs.cons (TC := T2.t) (RV.up (T1 := ⟨TC⟩) nc ry) (RVs.cons (TC := T2.t) r1 (RVs.cons (TC := T2.t) r2 (RVs.nil (TC := T2.t)))))
  have hsp : spD (TC := T2.t) X.K X.mg psg.length (dDef psg.length ng bR) [v0, v1, .ref f1, .ref f2] H1 Q fun cls d H' => W cls d σ H' := by
    rw [hp3]
    refine ⟨rfl, as1, G1, _, rg2, rxs, ?_⟩
    cases q : dDef 4 ng bR [x0, y0, .clo n1 cs1, .clo n2 cs2] G1 with
    | bad => rw [q] at h1; exact h1.elim
    | exn _ _ => rw [q] at h1; exact h1.elim
    | ok v G2 =>
      rw [q] at h1
      cases v with
      | bl b =>
        unfold hoEnd at h1
        simp only at h1
        split at h1
        · rename_i hG
          subst hG
          exact fun as' H' v' e2 rg' rv' => h1 as' H' v' e2 (RelG.down (T1 := ⟨TC⟩) (T2 := T2) nc (fun q hq => by rw [hpin]; exact List.mem_append_left _ hq) rg1 rg') (RV.bl_iff.mpr (RV.bl_iff.mp rv'))
        · exact h1.elim
      | _ => exact h1.elim
  have hl : ([v0, v1, .ref f1, .ref f2] : List V).length = psg.length := hp3.symm
  have hul : us.length = psg.length := by rw [← r.length]; exact hl
  have rcl : codeAny (model X.prog X.w) X.A (.call (.ref g) ⟨us, []⟩) (CR (L2.CX X.prog X.w) X.stack X.prog X.w H1 s1 Q fun cls d H' => W cls d σ H') s1 := by
    refine run_ofS (N := Ng) (ps := psg) lk hcd SG hr I1.env0 (.of_eq (hbG kV doc pm an cdv ct us hul)) r hl fun hr' => ⟨_, bodyG T2 cdv s1 H1 _ hr' (fun n a ws hn => ?_), body_read (TC := T2.t) hNg hpg hsp⟩
    rw [hclo n] at hn
    by_cases z1 : n = n1
    · rw [if_pos z1] at hn
      cases hn
      subst z1
      exact ⟨fn1, hT1, CloAt.mk (TC := T2.t) ⟨mkN X st1 name1 c1, ps1, fr1, F1 T2 _ c1, hmem _ (by simp), hmem _ (by simp [NF.of]), D1.clo (ps := ps1) I1 hw1, ar1⟩⟩
    · rw [if_neg z1] at hn
      by_cases z2 : n = n2
      · rw [if_pos z2] at hn
        cases hn
        subst z2
        exact ⟨fn2, hT2, CloAt.mk (TC := T2.t) ⟨mkN X st2 name2 c2, ps2, fr2, F2 T2 _ c2, hmem _ (by simp), hmem _ (by simp [NF.of]), D2.clo (ps := ps2) I1 hw2, ar2⟩⟩
      · rw [if_neg z2] at hn
        cases hn
  refine wpAny_call (codeAny_mono rcl fun r s2 hq => ?_)
  cases r with
  | error e => exact L2.passAt tk σ pins H1 s1 e s2 I1 hq
  | ok fl =>
    cases fl with
    | ret u => exact I1.after hq
    | next => exact False.elim hq
    | brk => exact False.elim hq
    | cont => exact False.elim hq
end
section
variable [tbs : TabsT] [TC : TabsC]
variable {X : Cx} {W : WX} {st1 st2 : Stmt} {name1 name2 : Str} {pos1 pos2 : Pos} {i1 i2 : Nat} {fr1 fr2 : List Str} {js1 js2 : List Nat} {n1 n2 : Nat} {fn1 fn2 : Clo} {ps1 ps2 : List Str} {k : Nat} {c P g : Addr} {nm : Nat → Nat → Str} {T : Nat → Option Clo}
  {Ng psg : List Str} {bR : DS} {ng : Nat} {x qualg : Str} {params : Arguments} {body : List Stmt} {scope : Scope} {fd : FuncData} {e ec : Expr} {d dc : DE} {p p1 p2 pos upos rpos : Pos} {F : Fn}
theorem ss_ho2 (TB : TabB X.base X.mg c P) (hcode : X.env.code = .ref c) (hm : (P, nm) ∈ tbs.T) (hu : ∀ p ∈ tbs.T, p.1 = P → p.2 = nm) (hNd : X.N.Nodup) (hi12 : i2 ≠ i1)
    (nc : ∀ n, TC.clo n = none) (D1 : NDef X nm st1 name1 pos1 i1 fr1 js1) (D2 : NDef X nm st2 name2 pos2 i2 fr2 js2)
    (F1 : ∀ (T2 : TabsW) (f c' : Addr), NOk X.prog X.w X.K X.mg X.base (L2.CX X.prog X.w) k f (mkN X st1 name1 c') ps1 fr1 (spC (TC := T2.t) X.K X.mg ps1.length fn1))
    (F2 : ∀ (T2 : TabsW) (f c' : Addr), NOk X.prog X.w X.K X.mg X.base (L2.CX X.prog X.w) k f (mkN X st2 name2 c') ps2 fr2 (spC (TC := T2.t) X.K X.mg ps2.length fn2))
    (ar1 : ∀ cs vs G, vs.length ≠ ps1.length → fn1 cs vs G = .bad) (ar2 : ∀ cs vs G, vs.length ≠ ps2.length → fn2 cs vs G = .bad) (hT1 : T n1 = some fn1) (hT2 : T n2 = some fn2) (h12 : n2 ≠ n1)
    (FG : FunD X.K x qualg params body scope [] [] g fd) (SG : FnScope Ng psg scope) (hNg : Ng.length = ng) (hpg : psg.length ≤ ng) (hp3 : psg.length = 4)
    (hbG : ∀ (kV doc pm : Value) (an : Option Addr) (cdv ct : Value) (us : List Value), us.length = psg.length → bindArgs (PySem.W.fnOf x qualg params body scope .none kV doc pm an cdv ct) ⟨us, []⟩ = pure (psg.zip us))
    (bodyG : ∀ (T2 : TabsW) (cdv : Value) (s : Shared) (H : Hp) (E : XK), Room k (X.A.deeper (envOfC qualg scope s.heap.objs.size g cdv)) → Clos (TC := T2.t) (cxOf (L2.CX X.prog X.w) X.prog X.w X.K X.mg X.base Ng qualg scope g cdv X.A X.stack s H E) k T →
      SndSs (TC := T2.t) (cxOf (L2.CX X.prog X.w) X.prog X.w X.K X.mg X.base Ng qualg scope g cdv X.A X.stack s H E) [] (fun cls d _ H => E cls d H) body bR)
    (hg : Gl X x) (hmg : X.mg x = some (.ref g)) (hr : Room (k + 1) X.A) (tk : Takes X W) (he0 : SndE X [] W e d) (he1 : SndE X [] W ec dc)
    (hd1 : (name1 == ("__debug__" : Str)) = false := by decide) (hcd1 : (name1 == ("__classdict__" : Str)) = false := by decide) (hd2 : (name2 == ("__debug__" : Str)) = false := by decide) (hcd2 : (name2 == ("__classdict__" : Str)) = false := by decide)
    (hdb : (x == ("__debug__" : Str)) = false := by decide) (he : starEach (e :: ec :: [.Name name1 p1, .Name name2 p2]) X.env = (false, eval e X.env) :: starEach (ec :: [.Name name1 p1, .Name name2 p2]) X.env := by rfl) (he' : starEach (ec :: [.Name name1 p1, .Name name2 p2]) X.env = (false, eval ec X.env) :: starEach [.Name name1 p1, .Name name2 p2] X.env := by rfl) (hpl : (backTo pos (starEach (ec :: [.Name name1 p1, .Name name2 p2]) X.env)).any (·.1) = false := by rfl) :
    SndSs X [] W [st1, st2, .Return (some (.UnaryOp .Not (.Call (.Name x p) [e, ec, .Name name1 p1, .Name name2 p2] [] pos) upos)) rpos] (sHo i1 i2 (dRet (dNot (dHo (dDef 4 ng bR) n1 js1 n2 js2 (aCons d (aCons dc aNil)))))) := by
  have PC := pe_ho2 (p := p) (p1 := p1) (p2 := p2) (pos := pos) (W := W) nc D1 D2 F1 F2 ar1 ar2 hT1 hT2 h12 FG SG hNg hpg hp3 hbG bodyG hg hmg hr tk he0 he1 hd1 hcd1 hd2 hcd2 hdb he he' hpl
  refine (pss_cons (ps_ndefMS D1.hst TB hcode hm D1.hn hu D1.hfree D1.hd0 D1.hk0 D1.ha hNd D1.hi D1.hx D1.hf) (pss_cons (ps_ndefMS D2.hst TB hcode hm D2.hn hu D2.hfree D2.hd0 D2.hk0 D2.ha hNd D2.hi D2.hx D2.hf) (pss_one (ps_ret (pe_not PC))))).imp fun D σ H ⟨as, G, S, rg, rs, h⟩ => ?_
  refine ⟨rg.tb.1, fun f1 c1 H1 eN1 nn1 t1 z1 g1 k1 => ?_⟩
  obtain ⟨e1, rg1⟩ := rg.ndef eN1 nn1 t1
  refine ⟨t1, fun f2 c2 H2 eN2 nn2 t2 z2 g2 k2 => ?_⟩
  obtain ⟨e2, rg2⟩ := rg1.ndef eN2 nn2 t2
  unfold sHo at h
  split at h
  · rename_i hl
    have rs2 : RS (rc X []) as H2 ((S.set i1 none).set i2 none) ((σ.set i1 (some (.ref f1))).set i2 (some (.ref f2))) := (((rs.mono e1).mono e2).none i1 _).none i2 _
    generalize hS2 : (S.set i1 none).set i2 none = S2 at h rs2
    generalize hσ : (σ.set i1 (some (V.ref f1))).set i2 (some (V.ref f2)) = σ2 at rs2 ⊢
    have hs1 : σ2[i1]? = some (some (.ref f1)) := by
      rw [← hσ, List.getElem?_set_ne hi12, List.getElem?_set_self (by rw [← rs.1]; exact hl.1)]
    have hs2 : σ2[i2]? = some (some (.ref f2)) := by
      rw [← hσ, List.getElem?_set_self (by rw [List.length_set, ← rs.1]; exact hl.2)]
    unfold dRet dNot dHo at h
    cases q1 : capsOf S2 js1 with
    | none => rw [q1] at h; exact h.elim
    | some cs1 =>
      cases q2 : capsOf S2 js2 with
      | none => rw [q1, q2] at h; exact h.elim
      | some cs2 =>
        rw [q1, q2] at h
        simp only at h
        have m1 : H2 f1 = some (FnO f1 (mkN X st1 name1 c1)) := eN2 _ _ g1 (fnO_ne)
        have m2 : H2 c1 = some (CodeO c1 (X.env.qual ++ name1)) := eN2 _ _ k1 (codeO_ne)
        refine ⟨f1, c1, f2, c2, as, G, S2, cs1, cs2, hs1, hs2, m1, m2, g2, k2, rg2, rs2, q1, q2, ?_⟩
        generalize hr' : ((aCons d (aCons dc aNil) S2 G).bind fun vs G1 => hoEnd G1 (dDef 4 ng bR (vs ++ [.clo n1 cs1, .clo n2 cs2]) G1)) = r at h ⊢
        cases r with
        | bad => exact h.elim
        | exn y G1 => exact fun as' H' cls d e' rg' rx => h as' H' σ2 cls d ((e1.trans e2).trans e') rg' (rs2.mono e') rx
        | ok v G1 =>
          cases v with
          | bl b => exact fun as' H' v' e' rg' rv => ⟨b, rv.bl, h as' H' _ ((e1.trans e2).trans e') rg' .mkBl⟩
          | _ => exact h.elim
  · exact h.elim
end
end DL
end S_Rules24
section S_K72Mir
/-! Mir: what each def does, printed by gen.py -/
set_option linter.all false
namespace DL
def c_MOST_LAYERS : VV := (.int 4)
def c_MOST_WIDTH : VV := (.int 8)
def c_PLANS : VV := (.tup [(.str [98, 101, 104, 105, 110, 100]), (.str [102, 114, 111, 110, 116]), (.str [106, 111, 105, 110, 101, 100]), (.str [112, 97, 99, 107, 101, 100]), (.str [97, 110, 121])])
def c_FIGURES : VV := (.tup [(.str [97, 108, 108]), (.str [49]), (.str [50]), (.str [51])])
def c_KINDS : VV := (.tup [(.str [102, 105, 108, 108, 105, 110, 103]), (.str [111, 116, 104, 101, 114]), (.str [115, 116, 114, 97, 110, 103, 101]), (.str [108, 97, 116, 101, 114]), (.str [101, 97, 114, 108, 105, 101, 114])])
def c_ELEMENTS : VV := (.int 13)
def c_ALONE : VV := (.tup [(.tup [(.int 0), .non, .non, (.int 1), (.int 0), .non, .non, (.int 1), (.int 0), .non, .non, (.int 1), (.bl false)]), (.tup [(.int 1), .non, .non, .non, (.int 1), .non, .non, .non, (.int 1), .non, .non, .non, (.bl true)])])
def c_SIZES : List (List Nat × VV) := [([110, 101, 118, 101, 114], (.int 4)), ([99, 97, 110], (.int 4)), ([101, 118, 101, 114], (.int 4)), ([115, 111, 109, 101, 116, 105, 109, 101], (.int 4)), ([117, 110, 108, 105, 107, 101], (.int 4)), ([109, 111, 114, 101], (.int 3))]
/-- machine_after(machine, state, letter, mark); names 0:machine 1:state 2:letter 3:mark -/
def b_machine_after : DS :=
  dRet (dIf (tV (dIsN (dVar 1))) (dC .non) (dIx (dIx (dVar 0) (dVar 1)) (dBin oAdd (dBin oMul (dC (.int 4)) (dVar 2)) (dVar 3))))
def f_machine_after : Fn := dDef 4 4 b_machine_after

/-- took_itself(part, letter); names 0:part 1:letter -/
def b_took_itself : DS :=
  dSeq (sIf (tV (dCmp cEq (dFld 1953653072 1685221239 (dVar 0)) (dC (.str [99, 108, 101, 97, 114])))) (dRet (dIf (tV (dCmp cEq (dVar 1) (dC (.int 2)))) (dC .non) (dTup (aCons (dC (.int 3)) (aCons (dC (.int 0)) (aNil)))))) (dNext)) (
  dSeq (sIf (tOr (tV (dFld 1953653072 7239535 (dVar 0))) (tOr (tAnd (tV (dFld 1953653072 435710685299 (dVar 0))) (tV (dCmp cEq (dVar 1) (dC (.int 2))))) (tAnd (tV (dCmp cEq (dFld 1953653072 7954807 (dVar 0)) (dC (.str [102, 105, 114, 115, 116])))) (tV (dCmp cEq (dVar 1) (dC (.int 0))))))) (dRet (dTup (aCons (dC (.int 3)) (aCons (dC (.int 0)) (aNil))))) (dNext)) (
  dRet (dIf (tAnd (tV (dCmp cEq (dFld 1953653072 7954807 (dVar 0)) (dC (.str [108, 97, 115, 116])))) (tV (dCmp cNe (dVar 1) (dC (.int 2))))) (dTup (aCons (dC (.int 4)) (aCons (dC (.int 0)) (aNil)))) (dC .non))))
def f_took_itself : Fn := dDef 2 2 b_took_itself

/-- began(part, letter, mark); names 0:part 1:letter 2:mark 3:waits -/
def b_began : DS :=
  dSeq (sIf (tOr (tV (dCmp cEq (dFld 1953653072 1685221239 (dVar 0)) (dC (.str [99, 108, 101, 97, 114])))) (tAnd (tV (dCmp cEq (dVar 1) (dC (.int 2)))) (tV (dCmp cEq (dFld 1953653072 435678045043 (dVar 0)) (dC (.str [114, 111, 119])))))) (dRet (dC .non)) (dNext)) (
  dSeq (sIf (tV (dCmp cEq (dVar 2) (dC (.int 1)))) (dSeq (sAsg (dCmp cIn (dFld 1953653072 7954807 (dVar 0)) (dTup (aCons (dC (.str [97, 104, 101, 97, 100])) (aCons (dC (.str [97, 114, 111, 117, 110, 100])) (aCons (dC (.str [97, 116, 32, 97, 104, 101, 97, 100])) (aCons (dC (.str [108, 97, 115, 116])) (aNil))))))) (gName 3)) (
  dRet (dIf (tAnd (tV (dVar 3)) (tNot (tAnd (tV (dFld 1953653072 435710685299 (dVar 0))) (tV (dCmp cEq (dVar 1) (dC (.int 2))))))) (dTup (aCons (dC (.int 1)) (aCons (dC (.int 0)) (aNil)))) (dC .non)))) (dNext)) (
  dSeq (sIf (tAnd (tV (dCmp cEq (dVar 1) (dC (.int 2)))) (tV (dCmp cEq (dFld 1953653072 435678045043 (dVar 0)) (dC (.str [116, 114, 117, 101]))))) (dRet (dC .non)) (dNext)) (
  dRet (dIf (tOr (tV (dCmp cIn (dFld 1953653072 7954807 (dVar 0)) (dTup (aCons (dC (.str [98, 97, 99, 107])) (aCons (dC (.str [97, 114, 111, 117, 110, 100])) (aCons (dC (.str [97, 116, 32, 98, 97, 99, 107])) (aNil))))))) (tAnd (tV (dCmp cEq (dFld 1953653072 7954807 (dVar 0)) (dC (.str [102, 105, 114, 115, 116])))) (tV (dCmp cEq (dVar 1) (dC (.int 0)))))) (dTup (aCons (dC (.int 2)) (aCons (dC (.int 0)) (aNil)))) (dC .non)))))
def f_began : Fn := dDef 3 4 b_began

/-- farther(part, gap); names 0:part 1:gap -/
def b_farther : DS :=
  dSeq (sIf (tV (dCmp cIn (dFld 1953653072 7954807 (dVar 0)) (dTup (aCons (dC (.str [102, 105, 114, 115, 116])) (aCons (dC (.str [108, 97, 115, 116])) (aNil)))))) (dRet (dC (.int 0))) (dNext)) (
  dSeq (sIf (tV (dCmp cEq (dFld 1953653072 125779768604014 (dVar 0)) (dC (.int 0)))) (dRet (dBin oMod (dBin oAdd (dVar 1) (dC (.int 1))) (dFld 1953653072 521610294885 (dVar 0)))) (dNext)) (
  dRet (dIf (tV (dCmp cLt (dVar 1) (dFld 1953653072 125779768604014 (dVar 0)))) (dBin oAdd (dVar 1) (dC (.int 1))) (dC .non))))
def f_farther : Fn := dDef 2 2 b_farther

/-- is_right_distance(part, gap); names 0:part 1:gap -/
def b_is_right_distance : DS :=
  dRet (dIf (tV (dCmp cIn (dFld 1953653072 7954807 (dVar 0)) (dTup (aCons (dC (.str [97, 116, 32, 98, 97, 99, 107])) (aCons (dC (.str [97, 116, 32, 97, 104, 101, 97, 100])) (aNil)))))) (dCmp cEq (dVar 1) (dFld 1953653072 125779768604014 (dVar 0))) (dCmp cEq (dBin oMod (dVar 1) (dFld 1953653072 521610294885 (dVar 0))) (dC (.int 0))))
def f_is_right_distance : Fn := dDef 2 2 b_is_right_distance

/-- taking_after(part, state, letter, mark); names 0:part 1:state 2:letter 3:mark 4:phase 5:gap 6:longer -/
def b_taking_after : DS :=
  dSeq (sAsg (dVar 1) (gTup [gName 4, gName 5])) (
  dSeq (sIf (tV (dCmp cGt (dVar 4) (dC (.int 2)))) (dRet (dIf (tAnd (tV (dCmp cEq (dVar 3) (dC (.int 0)))) (tNot (tAnd (tV (dCmp cEq (dVar 4) (dC (.int 4)))) (tV (dCmp cEq (dVar 2) (dC (.int 1))))))) (dTup (aCons (dC (.int 3)) (aCons (dC (.int 0)) (aNil)))) (dC .non))) (dNext)) (
  dSeq (sIf (tV (dCmp cEq (dVar 4) (dC (.int 0)))) (dSeq (sIf (tV (dCmp cEq (dVar 3) (dC (.int 3)))) (dRet (dCall f_took_itself (aCons (dVar 0) (aCons (dVar 2) (aNil))))) (dNext)) (
  dRet (dIf (tV (dCmp cEq (dVar 3) (dC (.int 0)))) (dVar 1) (dCall f_began (aCons (dVar 0) (aCons (dVar 2) (aCons (dVar 3) (aNil)))))))) (dNext)) (
  dSeq (sAsg (dCall f_farther (aCons (dVar 0) (aCons (dVar 5) (aNil)))) (gName 6)) (
  dSeq (sIf (tOr (tV (dIsN (dVar 6))) (tAnd (tV (dCmp cEq (dFld 1953653072 435678045043 (dVar 0)) (dC (.str [114, 111, 119])))) (tV (dCmp cNe (dVar 2) (dC (.int 1)))))) (dRet (dC .non)) (dNext)) (
  dSeq (sIf (tV (dCmp cEq (dVar 3) (dC (.int 0)))) (dRet (dTup (aCons (dVar 4) (aCons (dVar 6) (aNil))))) (dNext)) (
  dSeq (sIf (tOr (tV (dCmp cNe (dVar 3) (dBin oSub (dC (.int 3)) (dVar 4)))) (tNot (tV (dCall f_is_right_distance (aCons (dVar 0) (aCons (dVar 6) (aNil))))))) (dRet (dC .non)) (dNext)) (
  dSeq (sIf (tAnd (tV (dCmp cEq (dVar 2) (dC (.int 2)))) (tIfE (tV (dCmp cEq (dVar 3) (dC (.int 2)))) (tV (dCmp cEq (dFld 1953653072 435678045043 (dVar 0)) (dC (.str [116, 114, 117, 101])))) (tV (dFld 1953653072 435710685299 (dVar 0))))) (dRet (dC .non)) (dNext)) (
  dRet (dIf (tV (dCmp cEq (dFld 1953653072 7954807 (dVar 0)) (dC (.str [108, 97, 115, 116])))) (dTup (aCons (dC (.int 4)) (aCons (dC (.int 0)) (aNil)))) (dTup (aCons (dC (.int 3)) (aCons (dC (.int 0)) (aNil)))))))))))))
def f_taking_after : Fn := dDef 4 7 b_taking_after

/-- plan_after(plan, stage, letter); names 0:plan 1:stage 2:letter -/
def b_plan_after : DS :=
  dSeq (sIf (tV (dCmp cEq (dVar 2) (dC (.int 1)))) (dRet (dIf (tV (dCmp cEq (dVar 1) (dC (.int 2)))) (dC (.int 2)) (dC .non))) (dNext)) (
  dSeq (sIf (tV (dCmp cEq (dVar 2) (dC (.int 0)))) (dSeq (sIf (tOr (tAnd (tV (dCmp cEq (dVar 1) (dC (.int 2)))) (tV (dCmp cIn (dVar 0) (dTup (aCons (dC (.str [98, 101, 104, 105, 110, 100])) (aCons (dC (.str [102, 114, 111, 110, 116])) (aNil))))))) (tAnd (tV (dCmp cEq (dVar 1) (dC (.int 3)))) (tV (dCmp cNe (dVar 0) (dC (.str [97, 110, 121])))))) (dRet (dC .non)) (dNext)) (
  dRet (dC (.int 2)))) (dNext)) (
  dSeq (sIf (tV (dCmp cLt (dVar 1) (dC (.int 2)))) (dRet (dIf (tOr (tV (dCmp cEq (dVar 1) (dC (.int 1)))) (tV (dCmp cIn (dVar 0) (dTup (aCons (dC (.str [102, 114, 111, 110, 116])) (aCons (dC (.str [97, 110, 121])) (aNil))))))) (dC (.int 1)) (dC .non))) (dNext)) (
  dRet (dIf (tOr (tV (dCmp cEq (dVar 1) (dC (.int 3)))) (tV (dCmp cIn (dVar 0) (dTup (aCons (dC (.str [98, 101, 104, 105, 110, 100])) (aCons (dC (.str [112, 97, 99, 107, 101, 100])) (aCons (dC (.str [97, 110, 121])) (aNil)))))))) (dC (.int 3)) (dC .non)))))
def f_plan_after : Fn := dDef 3 3 b_plan_after

/-- holds_layer.step(state, letter, bits); names 0:state 1:letter 2:bits 3:part 4:plan 5:inner 6:outer 7:stage 8:met 9:reader 10:mine 11:its 12:taking 13:middle 14:later -/
def b_holds_layer_step : DS :=
  dSeq (sAsg (dVar 0) (gTup [gName 7, gName 8, gName 9, gName 10, gName 11])) (
  dSeq (sIf (tV (dCmp cNe (dBin oBand (dVar 8) (dVar 2)) (dC (.int 0)))) (dRet (dC .non)) (dNext)) (
  dSeq (sAsg (dTup (aCons (dBin oAdd (dBin oMod (dVar 2) (dC (.int 2))) (dBin oMul (dBin oFdiv (dVar 2) (dC (.int 4))) (dC (.int 2)))) (aCons (dBin oAdd (dBin oFdiv (dVar 2) (dC (.int 4))) (dBin oMul (dBin oMod (dBin oFdiv (dVar 2) (dC (.int 2))) (dC (.int 2))) (dC (.int 2)))) (aNil)))) (gTup [gName 12, gName 13])) (
  dSeq (sAsg (dTup (aCons (dCall f_plan_after (aCons (dVar 4) (aCons (dVar 7) (aCons (dVar 1) (aNil))))) (aCons (dBin oAdd (dVar 8) (dVar 2)) (aCons (dCall f_taking_after (aCons (dVar 3) (aCons (dVar 9) (aCons (dVar 1) (aCons (dVar 12) (aNil)))))) (aCons (dCall f_machine_after (aCons (dVar 5) (aCons (dVar 10) (aCons (dVar 1) (aCons (dVar 13) (aNil)))))) (aCons (dCall f_machine_after (aCons (dVar 6) (aCons (dVar 11) (aCons (dVar 1) (aCons (dBin oMod (dVar 2) (dC (.int 4))) (aNil)))))) (aNil))))))) (gName 14)) (
  dRet (dIf (tV (dCmp cIn (dC .non) (dSl (dVar 14) (oNone) (oSome (dC (.int 4)))))) (dC .non) (dVar 14))))))
def c_holds_layer_step : Clo := cloFn 3 15 b_holds_layer_step

/-- plan_may_end(plan, stage); names 0:plan 1:stage -/
def b_plan_may_end : DS :=
  dRet (dOr (dCmp cGt (dVar 1) (dC (.int 1))) (dAnd (dCmp cEq (dVar 1) (dC (.int 1))) (dCmp cEq (dVar 0) (dC (.str [97, 110, 121])))))
def f_plan_may_end : Fn := dDef 2 2 b_plan_may_end

/-- is_accepting(machine, state); names 0:machine 1:state -/
def b_is_accepting : DS :=
  dRet (dAnd (dNotN (dVar 1)) (dIx (dIx (dVar 0) (dVar 1)) (dUn oNeg (dC (.int 1)))))
def f_is_accepting : Fn := dDef 2 2 b_is_accepting

/-- holds_layer.is_wrong(state); names 0:state 1:plan 2:inner 3:outer 4:stage 5:met 6:reader 7:mine 8:its -/
def b_holds_layer_is_wrong : DS :=
  dSeq (sAsg (dVar 0) (gTup [gName 4, gName 5, gName 6, gName 7, gName 8])) (
  dSeq (sIf (tOr (tV (dCmp cNe (dVar 5) (dC (.int 7)))) (tOr (tNot (tV (dCall f_plan_may_end (aCons (dVar 1) (aCons (dVar 4) (aNil)))))) (tV (dCmp cLt (dIx (dVar 6) (dC (.int 0))) (dC (.int 3)))))) (dRet (dC (.bl false))) (dNext)) (
  dRet (dAnd (dCall f_is_accepting (aCons (dVar 2) (aCons (dVar 7) (aNil)))) (dNot (dCall f_is_accepting (aCons (dVar 3) (aCons (dVar 8) (aNil))))))))
def c_holds_layer_is_wrong : Clo := cloFn 1 9 b_holds_layer_is_wrong

/-- kind_after(kind, state, letter, mark); names 0:kind 1:state 2:letter 3:mark 4:phase 5:joined 6:still -/
def b_kind_after : DS :=
  dSeq (sAsg (dVar 1) (gTup [gName 4, gName 5])) (
  dSeq (sAsg (dAnd (dVar 5) (dCmp cEq (dVar 2) (dC (.int 1)))) (gName 6)) (
  dSeq (sIf (tV (dCmp cEq (dVar 3) (dC (.int 0)))) (dRet (dTup (aCons (dVar 4) (aCons (dAnd (dVar 6) (dCmp cIn (dVar 4) (dTup (aCons (dC (.int 1)) (aCons (dC (.int 2)) (aNil)))))) (aNil))))) (dNext)) (
  dSeq (sIf (tOr (tV (dCmp cEq (dVar 3) (dC (.int 3)))) (tOr (tV (dCmp cEq (dVar 4) (dC (.int 3)))) (tOr (tV (dCmp cEq (dVar 4) (dVar 3))) (tAnd (tV (dCmp cEq (dVar 3) (dC (.int 1)))) (tV (dCmp cEq (dVar 2) (dC (.int 2)))))))) (dRet (dC .non)) (dNext)) (
  dSeq (sIf (tAnd (tV (dCmp cEq (dVar 3) (dC (.int 2)))) (tOr (tAnd (tV (dCmp cEq (dVar 0) (dC (.str [102, 105, 108, 108, 105, 110, 103])))) (tV (dCmp cNe (dVar 2) (dC (.int 2))))) (tAnd (tV (dCmp cIn (dVar 0) (dTup (aCons (dC (.str [111, 116, 104, 101, 114])) (aCons (dC (.str [101, 97, 114, 108, 105, 101, 114])) (aNil)))))) (tV (dCmp cEq (dVar 2) (dC (.int 2))))))) (dRet (dC .non)) (dNext)) (
  dSeq (sIf (tV (dCmp cEq (dVar 4) (dC (.int 0)))) (dRet (dIf (tV (dCmp cEq (dVar 0) (dIf (tV (dCmp cEq (dVar 3) (dC (.int 1)))) (dC (.str [101, 97, 114, 108, 105, 101, 114])) (dC (.str [108, 97, 116, 101, 114]))))) (dC .non) (dTup (aCons (dVar 3) (aCons (dCmp cNe (dVar 2) (dC (.int 2))) (aNil)))))) (dNext)) (
  dSeq (sIf (tV (dCmp cIn (dVar 0) (dTup (aCons (dC (.str [108, 97, 116, 101, 114])) (aCons (dC (.str [101, 97, 114, 108, 105, 101, 114])) (aNil)))))) (dRet (dIf (tV (dVar 6)) (dTup (aCons (dC (.int 3)) (aCons (dC (.bl false)) (aNil)))) (dC .non))) (dNext)) (
  dRet (dIf (tV (dVar 6)) (dC .non) (dTup (aCons (dC (.int 3)) (aCons (dC (.bl false)) (aNil))))))))))))
def f_kind_after : Fn := dDef 4 7 b_kind_after

/-- holds_none.step(state, letter, bits); names 0:state 1:letter 2:bits 3:plan 4:kind 5:machine 6:stage 7:reader 8:mine 9:later -/
def b_holds_none_step : DS :=
  dSeq (sAsg (dVar 0) (gTup [gName 6, gName 7, gName 8])) (
  dSeq (sIf (tV (dCmp cGt (dVar 2) (dC (.int 3)))) (dRet (dC .non)) (dNext)) (
  dSeq (sAsg (dTup (aCons (dCall f_plan_after (aCons (dVar 3) (aCons (dVar 6) (aCons (dVar 1) (aNil))))) (aCons (dCall f_kind_after (aCons (dVar 4) (aCons (dVar 7) (aCons (dVar 1) (aCons (dVar 2) (aNil)))))) (aCons (dCall f_machine_after (aCons (dVar 5) (aCons (dVar 8) (aCons (dVar 1) (aCons (dVar 2) (aNil)))))) (aNil))))) (gName 9)) (
  dRet (dIf (tV (dCmp cIn (dC .non) (dVar 9))) (dC .non) (dVar 9)))))
def c_holds_none_step : Clo := cloFn 3 10 b_holds_none_step

/-- holds_none.is_wrong(state); names 0:state 1:plan 2:machine 3:stage 4:reader 5:mine -/
def b_holds_none_is_wrong : DS :=
  dSeq (sAsg (dVar 0) (gTup [gName 3, gName 4, gName 5])) (
  dRet (dAnd (dCmp cEq (dIx (dVar 4) (dC (.int 0))) (dC (.int 3))) (dAnd (dCall f_plan_may_end (aCons (dVar 1) (aCons (dVar 3) (aNil)))) (dCall f_is_accepting (aCons (dVar 2) (aCons (dVar 5) (aNil)))))))
def c_holds_none_is_wrong : Clo := cloFn 1 6 b_holds_none_is_wrong

/-- _law_farther(layer, gap); names 0:layer 1:gap 2:way 3:number 4:every -/
def b__law_farther : DS :=
  dSeq (sAsg (dSl (dVar 0) (oSome (dC (.int 2))) (oSome (dC (.int 5)))) (gTup [gName 2, gName 3, gName 4])) (
  dSeq (sIf (tOr (tV (dCmp cEq (dIx (dVar 0) (dC (.int 0))) (dC (.str [99, 108, 101, 97, 114])))) (tV (dCmp cIn (dVar 2) (dLst (aCons (dC (.str [102, 105, 114, 115, 116])) (aCons (dC (.str [108, 97, 115, 116])) (aNil))))))) (dRet (dC (.int 1))) (dNext)) (
  dSeq (sIf (tV (dCmp cGt (dVar 3) (dC (.int 0)))) (dRet (dIf (tV (dCmp cLt (dVar 1) (dVar 3))) (dBin oAdd (dVar 1) (dC (.int 1))) (dC (.int 0)))) (dNext)) (
  dRet (dIf (tV (dCmp cLt (dVar 1) (dVar 4))) (dBin oAdd (dVar 1) (dC (.int 1))) (dC (.int 1))))))
def f__law_farther : Fn := dDef 2 5 b__law_farther

/-- _law_taken(layer, mine, its, far, joined); names 0:layer 1:mine 2:its 3:far 4:joined 5:word 6:scope 7:way 8:number 9:every 10:own 11:spare -/
def b__law_taken : DS :=
  dSeq (sAsg (dVar 0) (gTup [gName 5, gName 6, gName 7, gName 8, gName 9, gName 10, gName 11])) (
  dSeq (sIf (tOr (tV (dCmp cEq (dVar 5) (dC (.str [99, 108, 101, 97, 114])))) (tAnd (tV (dVar 11)) (tV (dCmp cEq (dVar 1) (dC (.int 2)))))) (dRet (dAnd (dCmp cEq (dVar 3) (dC (.int 0))) (dOr (dCmp cNe (dVar 5) (dC (.str [99, 108, 101, 97, 114]))) (dCmp cNe (dVar 1) (dC (.int 2)))))) (dNext)) (
  dSeq (sIf (tAnd (tV (dVar 10)) (tV (dCmp cEq (dVar 3) (dC (.int 0))))) (dRet (dC (.bl true))) (dNext)) (
  dSeq (sIf (tOr (tAnd (tV (dCmp cEq (dVar 6) (dC (.str [114, 111, 119])))) (tNot (tV (dVar 4)))) (tAnd (tV (dCmp cEq (dVar 6) (dC (.str [116, 114, 117, 101])))) (tV (dCmp cEq (dVar 2) (dC (.int 2)))))) (dRet (dC (.bl false))) (dNext)) (
  dSeq (sIf (tV (dCmp cIn (dVar 7) (dLst (aCons (dC (.str [102, 105, 114, 115, 116])) (aCons (dC (.str [108, 97, 115, 116])) (aNil)))))) (dRet (dIf (tV (dCmp cEq (dVar 7) (dC (.str [102, 105, 114, 115, 116])))) (dCmp cEq (dVar 2) (dC (.int 0))) (dCmp cGe (dVar 3) (dC (.int 0))))) (dNext)) (
  dSeq (sIf (tV (dCmp cIn (dVar 7) (dLst (aCons (dC (.str [97, 116, 32, 98, 97, 99, 107])) (aCons (dC (.str [97, 116, 32, 97, 104, 101, 97, 100])) (aNil)))))) (dRet (dCmp cEq (dVar 3) (dIf (tV (dCmp cEq (dVar 7) (dC (.str [97, 116, 32, 97, 104, 101, 97, 100])))) (dVar 8) (dUn oNeg (dVar 8))))) (dNext)) (
  dSeq (sIf (tOr (tV (dCmp cEq (dVar 3) (dC (.int 0)))) (tOr (tAnd (tV (dCmp cEq (dVar 7) (dC (.str [98, 97, 99, 107])))) (tV (dCmp cGt (dVar 3) (dC (.int 0))))) (tAnd (tV (dCmp cEq (dVar 7) (dC (.str [97, 104, 101, 97, 100])))) (tV (dCmp cLt (dVar 3) (dC (.int 0))))))) (dRet (dC (.bl false))) (dNext)) (
  dRet (dCmp cEq (dBin oMod (dB bInt (aCons (dB bAbs (aCons (dVar 3) (aNil))) (aNil))) (dVar 9)) (dC (.int 0))))))))))
def f__law_taken : Fn := dDef 5 12 b__law_taken

/-- _law_taking(layer, state, letter, mark); names 0:layer 1:state 2:letter 3:mark 4:met 5:gap 6:joined 7:first 8:far 9:mine 10:its 11:itself -/
def b__law_taking : DS :=
  dSeq (sAsg (dVar 1) (gTup [gName 4, gName 5, gName 6, gName 7])) (
  dSeq (sIf (tV (dCmp cGt (dVar 4) (dC (.int 2)))) (dRet (dIf (tAnd (tV (dCmp cEq (dVar 3) (dC (.int 0)))) (tOr (tV (dCmp cEq (dVar 4) (dC (.int 3)))) (tV (dCmp cNe (dVar 2) (dC (.int 1)))))) (dTup (aCons (dC (.int 3)) (aCons (dC (.int 0)) (aCons (dC (.bl false)) (aCons (dC (.int 0)) (aNil)))))) (dTup aNil))) (dNext)) (
  dSeq (sIf (tAnd (tV (dCmp cEq (dVar 4) (dC (.int 0)))) (tV (dCmp cLt (dVar 3) (dC (.int 3))))) (dRet (dIf (tV (dCmp cEq (dVar 3) (dC (.int 0)))) (dVar 1) (dTup (aCons (dVar 3) (aCons (dC (.int 0)) (aCons (dCmp cNe (dVar 2) (dC (.int 2))) (aCons (dVar 2) (aNil)))))))) (dNext)) (
  dSeq (sAsg (dTup (aCons (dC (.int 0)) (aCons (dAnd (dCmp cNe (dVar 2) (dC (.int 2))) (dOr (dCmp cEq (dVar 4) (dC (.int 0))) (dAnd (dVar 6) (dCmp cEq (dVar 2) (dC (.int 1)))))) (aNil)))) (gTup [gName 8, gName 6])) (
  dSeq (sIf (tV (dCmp cGt (dVar 4) (dC (.int 0)))) (dSeq (sAsg (dCall f__law_farther (aCons (dVar 0) (aCons (dVar 5) (aNil)))) (gName 8)) (
  dSeq (sIf (tOr (tV (dCmp cEq (dVar 8) (dC (.int 0)))) (tAnd (tV (dCmp cNe (dVar 3) (dC (.int 0)))) (tV (dCmp cNe (dVar 3) (dBin oSub (dC (.int 3)) (dVar 4)))))) (dRet (dTup aNil)) (dNext)) (
  sIf (tV (dCmp cEq (dVar 3) (dC (.int 0)))) (dRet (dTup (aCons (dVar 4) (aCons (dVar 8) (aCons (dVar 6) (aCons (dVar 7) (aNil))))))) (dNext)))) (dNext)) (
  dSeq (sAsg (dIf (tV (dCmp cEq (dVar 4) (dC (.int 0)))) (dTup (aCons (dVar 2) (aCons (dVar 2) (aNil)))) (dIf (tV (dCmp cEq (dVar 4) (dC (.int 1)))) (dTup (aCons (dVar 7) (aCons (dVar 2) (aNil)))) (dTup (aCons (dVar 2) (aCons (dVar 7) (aNil)))))) (gTup [gName 9, gName 10])) (
  dSeq (sIf (tNot (tV (dCall f__law_taken (aCons (dVar 0) (aCons (dVar 9) (aCons (dVar 10) (aCons (dIf (tV (dCmp cEq (dVar 4) (dC (.int 1)))) (dVar 8) (dUn oNeg (dVar 8))) (aCons (dVar 6) (aNil))))))))) (dRet (dTup aNil)) (dNext)) (
  dSeq (sAsg (dAnd (dCmp cEq (dVar 8) (dC (.int 0))) (dIx (dVar 0) (dC (.int 5)))) (gName 11)) (
  dRet (dTup (aCons (dIf (tAnd (tV (dCmp cEq (dIx (dVar 0) (dC (.int 2))) (dC (.str [108, 97, 115, 116])))) (tAnd (tV (dCmp cNe (dVar 9) (dC (.int 2)))) (tNot (tV (dVar 11))))) (dC (.int 4)) (dC (.int 3))) (aCons (dC (.int 0)) (aCons (dC (.bl false)) (aCons (dC (.int 0)) (aNil))))))))))))))
def f__law_taking : Fn := dDef 4 12 b__law_taking

/-- _law_stage(laid, stage, letter); names 0:laid 1:stage 2:letter 3:right -/
def b__law_stage : DS :=
  dSeq (sIf (tV (dCmp cEq (dVar 2) (dC (.int 1)))) (dRet (dIf (tV (dCmp cEq (dVar 1) (dC (.int 1)))) (dC (.int 1)) (dUn oNeg (dC (.int 1))))) (dNext)) (
  dSeq (sIf (tV (dCmp cEq (dVar 2) (dC (.int 0)))) (dSeq (sAsg (dIx (dLst (aCons (dC (.bl true)) (aCons (dCmp cIn (dVar 0) (dLst (aCons (dC (.str [106, 111, 105, 110, 101, 100])) (aCons (dC (.str [112, 97, 99, 107, 101, 100])) (aCons (dC (.str [97, 110, 121])) (aNil)))))) (aCons (dCmp cIn (dVar 0) (dLst (aCons (dC (.str [102, 114, 111, 110, 116])) (aCons (dC (.str [97, 110, 121])) (aNil))))) (aNil))))) (dVar 1)) (gName 3)) (
  dRet (dIf (tV (dVar 3)) (dC (.int 1)) (dUn oNeg (dC (.int 1)))))) (dNext)) (
  dRet (dIf (tV (dIx (dLst (aCons (dCmp cIn (dVar 0) (dLst (aCons (dC (.str [102, 114, 111, 110, 116])) (aCons (dC (.str [97, 110, 121])) (aNil))))) (aCons (dCmp cIn (dVar 0) (dLst (aCons (dC (.str [98, 101, 104, 105, 110, 100])) (aCons (dC (.str [112, 97, 99, 107, 101, 100])) (aCons (dC (.str [97, 110, 121])) (aNil)))))) (aCons (dC (.bl true)) (aNil))))) (dVar 1))) (dC (.int 2)) (dUn oNeg (dC (.int 1))))))
def f__law_stage : Fn := dDef 3 4 b__law_stage

/-- _law_after(machine, state, letter, mark); names 0:machine 1:state 2:letter 3:mark 4:later -/
def b__law_after : DS :=
  dSeq (sAsg (dIf (tV (dCmp cGe (dVar 1) (dC (.int 0)))) (dIx (dIx (dVar 0) (dVar 1)) (dBin oAdd (dBin oMul (dC (.int 4)) (dVar 2)) (dVar 3))) (dC .non)) (gName 4)) (
  dRet (dIf (tV (dIsN (dVar 4))) (dUn oNeg (dC (.int 1))) (dVar 4)))
def f__law_after : Fn := dDef 4 5 b__law_after

/-- _law_takes_all._law_step(state, letter, mark); names 0:state 1:letter 2:mark 3:layer 4:laid 5:machine 6:later -/
def b__law_takes_all__law_step : DS :=
  dSeq (sAsg (dTup (aCons (dCall f__law_stage (aCons (dVar 4) (aCons (dIx (dVar 0) (dC (.int 0))) (aCons (dVar 1) (aNil))))) (aCons (dCall f__law_taking (aCons (dVar 3) (aCons (dIx (dVar 0) (dC (.int 1))) (aCons (dVar 1) (aCons (dVar 2) (aNil)))))) (aNil)))) (gName 6)) (
  dSeq (sIf (tOr (tV (dCmp cLt (dIx (dVar 6) (dC (.int 0))) (dC (.int 0)))) (tV (dCmp cEqT0 (dIx (dVar 6) (dC (.int 1))) (dTup aNil)))) (dRet (dTup aNil)) (dNext)) (
  dRet (dBin oAdd (dVar 6) (dTup (aCons (dCall f__law_after (aCons (dVar 5) (aCons (dIx (dVar 0) (dC (.int 2))) (aCons (dVar 1) (aCons (dVar 2) (aNil)))))) (aNil))))))
def c__law_takes_all__law_step : Clo := cloFn 3 7 b__law_takes_all__law_step

/-- _law_ends(laid, stage); names 0:laid 1:stage -/
def b__law_ends : DS :=
  dRet (dOr (dCmp cEq (dVar 1) (dC (.int 1))) (dAnd (dCmp cEq (dVar 1) (dC (.int 2))) (dCmp cIn (dVar 0) (dLst (aCons (dC (.str [98, 101, 104, 105, 110, 100])) (aCons (dC (.str [112, 97, 99, 107, 101, 100])) (aCons (dC (.str [97, 110, 121])) (aNil))))))))
def f__law_ends : Fn := dDef 2 2 b__law_ends

/-- _law_accepts(machine, state); names 0:machine 1:state -/
def b__law_accepts : DS :=
  dRet (dAnd (dCmp cGe (dVar 1) (dC (.int 0))) (dIx (dIx (dVar 0) (dVar 1)) (dC (.int 12))))
def f__law_accepts : Fn := dDef 2 2 b__law_accepts

/-- _law_takes_all._law_wrong(state); names 0:state 1:laid 2:machine -/
def b__law_takes_all__law_wrong : DS :=
  dSeq (sIf (tOr (tNot (tV (dCall f__law_ends (aCons (dVar 1) (aCons (dIx (dVar 0) (dC (.int 0))) (aNil)))))) (tV (dCmp cLt (dIx (dIx (dVar 0) (dC (.int 1))) (dC (.int 0))) (dC (.int 3))))) (dRet (dC (.bl false))) (dNext)) (
  dRet (dNot (dCall f__law_accepts (aCons (dVar 2) (aCons (dIx (dVar 0) (dC (.int 2))) (aNil))))))
def c__law_takes_all__law_wrong : Clo := cloFn 1 3 b__law_takes_all__law_wrong

/-- _law_foreign(sort, state, letter, mark); names 0:sort 1:state 2:letter 3:mark 4:met 5:joined 6:first 7:mine 8:its 9:right -/
def b__law_foreign : DS :=
  dSeq (sAsg (dVar 1) (gTup [gName 4, gName 5, gName 6])) (
  dSeq (sIf (tOr (tV (dCmp cEq (dVar 4) (dC (.int 3)))) (tV (dCmp cEq (dVar 3) (dC (.int 3))))) (dRet (dIf (tV (dCmp cEq (dVar 3) (dC (.int 0)))) (dVar 1) (dTup aNil))) (dNext)) (
  dSeq (sIf (tV (dCmp cEq (dVar 4) (dC (.int 0)))) (dRet (dIf (tV (dCmp cEq (dVar 3) (dC (.int 0)))) (dVar 1) (dTup (aCons (dVar 3) (aCons (dCmp cNe (dVar 2) (dC (.int 2))) (aCons (dVar 2) (aNil))))))) (dNext)) (
  dSeq (sAsg (dAnd (dVar 5) (dCmp cEq (dVar 2) (dC (.int 1)))) (gName 5)) (
  dSeq (sIf (tOr (tV (dCmp cEq (dVar 3) (dC (.int 0)))) (tV (dCmp cEq (dVar 3) (dVar 4)))) (dRet (dIf (tV (dCmp cEq (dVar 3) (dC (.int 0)))) (dTup (aCons (dVar 4) (aCons (dVar 5) (aCons (dVar 6) (aNil))))) (dTup aNil))) (dNext)) (
  dSeq (sAsg (dIf (tV (dCmp cEq (dVar 4) (dC (.int 1)))) (dTup (aCons (dVar 6) (aCons (dVar 2) (aNil)))) (dTup (aCons (dVar 2) (aCons (dVar 6) (aNil))))) (gTup [gName 7, gName 8])) (
  dSeq (sIf (tV (dCmp cIn (dVar 0) (dLst (aCons (dC (.str [108, 97, 116, 101, 114])) (aCons (dC (.str [101, 97, 114, 108, 105, 101, 114])) (aNil)))))) (sAsg (dAnd (dVar 5) (dCmp cEq (dVar 4) (dIf (tV (dCmp cEq (dVar 0) (dC (.str [108, 97, 116, 101, 114])))) (dC (.int 1)) (dC (.int 2))))) (gName 9)) (sAsg (dAnd (dNot (dVar 5)) (dOr (dCmp cEq (dVar 0) (dC (.str [115, 116, 114, 97, 110, 103, 101]))) (dCmp cEq (dCmp cEq (dVar 8) (dC (.int 2))) (dCmp cEq (dVar 0) (dC (.str [102, 105, 108, 108, 105, 110, 103])))))) (gName 9))) (
  dRet (dIf (tAnd (tV (dCmp cNe (dVar 7) (dC (.int 2)))) (tV (dVar 9))) (dTup (aCons (dC (.int 3)) (aCons (dC (.bl false)) (aCons (dC (.int 0)) (aNil))))) (dTup aNil)))))))))
def f__law_foreign : Fn := dDef 4 10 b__law_foreign

/-- _law_has_none._law_step(state, letter, mark); names 0:state 1:letter 2:mark 3:sort 4:laid 5:machine 6:later 7:place -/
def b__law_has_none__law_step : DS :=
  dSeq (sAsg (dTup (aCons (dCall f__law_stage (aCons (dVar 4) (aCons (dIx (dVar 0) (dC (.int 0))) (aCons (dVar 1) (aNil))))) (aCons (dCall f__law_foreign (aCons (dVar 3) (aCons (dIx (dVar 0) (dC (.int 1))) (aCons (dVar 1) (aCons (dVar 2) (aNil)))))) (aNil)))) (gName 6)) (
  dSeq (sAsg (dCall f__law_after (aCons (dVar 5) (aCons (dIx (dVar 0) (dC (.int 2))) (aCons (dVar 1) (aCons (dVar 2) (aNil)))))) (gName 7)) (
  dRet (dIf (tOr (tV (dCmp cLt (dIx (dVar 6) (dC (.int 0))) (dC (.int 0)))) (tOr (tV (dCmp cEqT0 (dIx (dVar 6) (dC (.int 1))) (dTup aNil))) (tV (dCmp cLt (dVar 7) (dC (.int 0)))))) (dTup aNil) (dBin oAdd (dVar 6) (dTup (aCons (dVar 7) (aNil)))))))
def c__law_has_none__law_step : Clo := cloFn 3 8 b__law_has_none__law_step

/-- _law_has_none._law_wrong(state); names 0:state 1:laid 2:machine -/
def b__law_has_none__law_wrong : DS :=
  dRet (dAnd (dCall f__law_ends (aCons (dVar 1) (aCons (dIx (dVar 0) (dC (.int 0))) (aNil)))) (dAnd (dCmp cEq (dIx (dIx (dVar 0) (dC (.int 1))) (dC (.int 0))) (dC (.int 3))) (dCall f__law_accepts (aCons (dVar 2) (aCons (dIx (dVar 0) (dC (.int 2))) (aNil))))))
def c__law_has_none__law_wrong : Clo := cloFn 1 3 b__law_has_none__law_wrong

def clos : Nat → Option Clo
  | 0 => some c_holds_layer_step
  | 1 => some c_holds_layer_is_wrong
  | 2 => some c_holds_none_step
  | 3 => some c_holds_none_is_wrong
  | 4 => some c__law_takes_all__law_step
  | 5 => some c__law_takes_all__law_wrong
  | 6 => some c__law_has_none__law_step
  | 7 => some c__law_has_none__law_wrong
  | _ => none

/-- _law_spring(script, at); names 0:script 1:at 2:cell 3:older 4:digits -/
def b__law_spring : DS :=
  dSeq (sAsg (dBin oAdd (dBin oMul (dC (.int 104711)) (dVar 1)) (dBin oMul (dC (.int 31)) (dB bLen (aCons (dVar 0) (aNil))))) (gName 2)) (
  dSeq (sIf (tV (dCmp cLt (dVar 1) (dB bLen (aCons (dVar 0) (aNil))))) (sAsg (dIx (dVar 0) (dVar 1)) (gName 2)) (sFor (iSeq (dSl (dVar 0) (oNone) (oSome (dC (.int 5))))) (gName 3) (sAsg (dBin oMod (dB bInt (aCons (dBin oAdd (dBin oMul (dVar 2) (dC (.int 38699))) (dVar 3)) (aNil))) (dC (.int 2147483549))) (gName 2)))) (
  dSeq (sAsg (dIf (tV (dCmp cGe (dB bAbs (aCons (dVar 2) (aNil))) (dBin oPow (dC (.int 10)) (dC (.int 18))))) (dB bAbs (aCons (dVar 2) (aNil))) (dC (.int 0))) (gName 4)) (
  dRet (dLst (aCons (dBin oMod (dB bInt (aCons (dBin oAdd (dBin oMul (dVar 2) (dC (.int 92821))) (dVar 1)) (aNil))) (dC (.int 2147483587))) (aCons (dBin oMod (dB bInt (aCons (dBin oAdd (dBin oAdd (dBin oMul (dVar 2) (dVar 2)) (dBin oMul (dC (.int 68917)) (dVar 1))) (dC (.int 5))) (aNil))) (dC (.int 2147483563))) (aCons (dVar 4) (aNil))))))))
def f__law_spring : Fn := dDef 2 5 b__law_spring

/-- _law_take(spring, many); names 0:spring 1:many 2:one 3:other 4:digit -/
def b__law_take : DS :=
  dSeq (sAsg (dTup (aCons (dB bInt (aCons (dIx (dVar 0) (dC (.int 0))) (aNil))) (aCons (dB bInt (aCons (dIx (dVar 0) (dC (.int 1))) (aNil))) (aNil)))) (gTup [gName 2, gName 3])) (
  dSeq (sAsg (dVar 3) (gSub (dVar 0) (dC (.int 0)))) (
  dSeq (sAsg (dBin oMod (dB bInt (aCons (dBin oAdd (dBin oAdd (dBin oMul (dVar 2) (dC (.int 47903))) (dBin oMul (dVar 3) (dBin oAdd (dBin oMod (dB bInt (aCons (dVar 3) (aNil))) (dC (.int 30011))) (dC (.int 1013))))) (dC (.int 29))) (aNil))) (dC (.int 2147483563))) (gSub (dVar 0) (dC (.int 1)))) (
  dSeq (sIf (tV (dCmp cGt (dIx (dVar 0) (dC (.int 2))) (dC (.int 0)))) (dSeq (sAsg (dB bDivmod (aCons (dIx (dVar 0) (dC (.int 2))) (aCons (dVar 1) (aNil)))) (gTup [gSub (dVar 0) (dC (.int 2)), gName 4])) (
  dRet (dVar 4))) (dNext)) (
  dRet (dBin oMod (dB bInt (aCons (dBin oFdiv (dIx (dVar 0) (dC (.int 1))) (dC (.int 128))) (aNil))) (dVar 1))))))
def f__law_take : Fn := dDef 2 5 b__law_take

/-- _law_kind(spring); names 0:spring -/
def b__law_kind : DS :=
  dRet (dIx (dLst (aCons (dC (.str [102, 105, 108, 108, 105, 110, 103])) (aCons (dC (.str [111, 116, 104, 101, 114])) (aCons (dC (.str [115, 116, 114, 97, 110, 103, 101])) (aCons (dC (.str [108, 97, 116, 101, 114])) (aCons (dC (.str [101, 97, 114, 108, 105, 101, 114])) (aNil))))))) (dCall f__law_take (aCons (dVar 0) (aCons (dC (.int 5)) (aNil)))))
def f__law_kind : Fn := dDef 1 1 b__law_kind

/-- _law_plan(spring); names 0:spring -/
def b__law_plan : DS :=
  dRet (dIx (dLst (aCons (dC (.str [98, 101, 104, 105, 110, 100])) (aCons (dC (.str [102, 114, 111, 110, 116])) (aCons (dC (.str [106, 111, 105, 110, 101, 100])) (aCons (dC (.str [112, 97, 99, 107, 101, 100])) (aCons (dC (.str [97, 110, 121])) (aNil))))))) (dCall f__law_take (aCons (dVar 0) (aCons (dC (.int 5)) (aNil)))))
def f__law_plan : Fn := dDef 1 1 b__law_plan

/-- _law_layer(spring, room); names 0:spring 1:room 2:word 3:scope 4:form 5:own 6:spare 7:number 8:way -/
def b__law_layer : DS :=
  dSeq (sAsg (dIx (dLst (aCons (dC (.str [108, 111, 111, 107])) (aCons (dC (.str [97, 100, 100])) (aCons (dC (.str [108, 111, 111, 107])) (aCons (dC (.str [99, 108, 101, 97, 114])) (aCons (dC (.str [108, 111, 111, 107])) (aNil))))))) (dCall f__law_take (aCons (dVar 0) (aCons (dC (.int 5)) (aNil))))) (gName 2)) (
  dSeq (sIf (tOr (tV (dCmp cEq (dVar 2) (dC (.str [99, 108, 101, 97, 114])))) (tV (dCmp cLt (dVar 1) (dC (.int 1))))) (dRet (dTup (aCons (dC (.str [99, 108, 101, 97, 114])) (aCons (dC (.str [])) (aCons (dC (.str [])) (aCons (dC (.int 0)) (aCons (dC (.int 1)) (aCons (dC (.bl false)) (aCons (dC (.bl false)) (aNil)))))))))) (dNext)) (
  dSeq (sAsg (dTup (aCons (dIx (dLst (aCons (dC (.str [114, 111, 119])) (aCons (dC (.str [116, 114, 117, 101])) (aCons (dC (.str [108, 105, 110, 101])) (aNil))))) (dCall f__law_take (aCons (dVar 0) (aCons (dC (.int 3)) (aNil))))) (aCons (dCall f__law_take (aCons (dVar 0) (aCons (dC (.int 6)) (aNil)))) (aNil)))) (gTup [gName 3, gName 4])) (
  dSeq (sAsg (dTup (aCons (dOr (dCmp cEq (dVar 2) (dC (.str [97, 100, 100]))) (dCmp cEq (dCall f__law_take (aCons (dVar 0) (aCons (dC (.int 2)) (aNil)))) (dC (.int 0)))) (aCons (dCmp cEq (dCall f__law_take (aCons (dVar 0) (aCons (dC (.int 4)) (aNil)))) (dC (.int 0))) (aNil)))) (gTup [gName 5, gName 6])) (
  dSeq (sIf (tV (dCmp cEq (dVar 4) (dC (.int 5)))) (dRet (dTup (aCons (dVar 2) (aCons (dC (.str [114, 111, 119])) (aCons (dIx (dLst (aCons (dC (.str [102, 105, 114, 115, 116])) (aCons (dC (.str [108, 97, 115, 116])) (aNil)))) (dCall f__law_take (aCons (dVar 0) (aCons (dC (.int 2)) (aNil))))) (aCons (dC (.int 0)) (aCons (dC (.int 1)) (aCons (dVar 5) (aCons (dVar 6) (aNil)))))))))) (dNext)) (
  dSeq (sAsg (dBin oAdd (dC (.int 1)) (dCall f__law_take (aCons (dVar 0) (aCons (dB bMin2 (aCons (dVar 1) (aCons (dC (.int 3)) (aNil)))) (aNil))))) (gName 7)) (
  dSeq (sIf (tV (dCmp cEq (dVar 4) (dC (.int 4)))) (dRet (dTup (aCons (dVar 2) (aCons (dVar 3) (aCons (dIx (dLst (aCons (dC (.str [97, 116, 32, 98, 97, 99, 107])) (aCons (dC (.str [97, 116, 32, 97, 104, 101, 97, 100])) (aNil)))) (dCall f__law_take (aCons (dVar 0) (aCons (dC (.int 2)) (aNil))))) (aCons (dVar 7) (aCons (dC (.int 1)) (aCons (dVar 5) (aCons (dVar 6) (aNil)))))))))) (dNext)) (
  dSeq (sAsg (dIx (dLst (aCons (dC (.str [98, 97, 99, 107])) (aCons (dC (.str [97, 104, 101, 97, 100])) (aCons (dC (.str [97, 114, 111, 117, 110, 100])) (aNil))))) (dCall f__law_take (aCons (dVar 0) (aCons (dC (.int 3)) (aNil))))) (gName 8)) (
  dSeq (sIf (tV (dCmp cEq (dVar 4) (dC (.int 3)))) (dRet (dTup (aCons (dVar 2) (aCons (dVar 3) (aCons (dVar 8) (aCons (dC (.int 0)) (aCons (dVar 7) (aCons (dVar 5) (aCons (dVar 6) (aNil)))))))))) (dNext)) (
  dRet (dTup (aCons (dVar 2) (aCons (dVar 3) (aCons (dVar 8) (aCons (dVar 7) (aCons (dIx (dLst (aCons (dC (.int 1)) (aCons (dC (.int 1)) (aCons (dC (.int 2)) (aCons (dC (.int 3)) (aNil)))))) (dCall f__law_take (aCons (dVar 0) (aCons (dC (.int 4)) (aNil))))) (aCons (dVar 5) (aCons (dVar 6) (aNil))))))))))))))))))
def f__law_layer : Fn := dDef 2 9 b__law_layer

/-- _law_fitting(layer); names 0:layer 1:word 2:scope 3:way 4:number 5:found -/
def b__law_fitting : DS :=
  dSeq (sAsg (dSl (dVar 0) (oNone) (oSome (dC (.int 4)))) (gTup [gName 1, gName 2, gName 3, gName 4])) (
  dSeq (sAsg (dIf (tV (dCmp cNe (dVar 1) (dC (.str [99, 108, 101, 97, 114])))) (dLst (aCons (dC (.int 7)) (aNil))) (dLst (aCons (dC (.int 0)) (aCons (dC (.int 2)) (aCons (dC (.int 3)) (aCons (dC (.int 4)) (aCons (dC (.int 5)) (aCons (dC (.int 6)) (aCons (dC (.int 7)) (aNil)))))))))) (gName 5)) (
  dSeq (sIf (tV (dCmp cEq (dVar 2) (dC (.str [114, 111, 119])))) (dExpr (dM .lst mAppend (dVar 5) (aCons (dC (.int 3)) (aNil)))) (dNext)) (
  dSeq (sIf (tV (dCmp cIn (dVar 3) (dLst (aCons (dC (.str [98, 97, 99, 107])) (aCons (dC (.str [97, 116, 32, 98, 97, 99, 107])) (aCons (dC (.str [102, 105, 114, 115, 116])) (aNil))))))) (dExpr (dM .lst mAppend (dVar 5) (aCons (dC (.int 4)) (aNil)))) (dNext)) (
  dSeq (sIf (tV (dCmp cIn (dVar 3) (dLst (aCons (dC (.str [97, 104, 101, 97, 100])) (aCons (dC (.str [97, 116, 32, 97, 104, 101, 97, 100])) (aCons (dC (.str [108, 97, 115, 116])) (aNil))))))) (dExpr (dM .lst mAppend (dVar 5) (aCons (dC (.int 5)) (aNil)))) (dNext)) (
  dRet (dBin oAdd (dBin oAdd (dVar 5) (dIf (tV (dCmp cEq (dVar 2) (dC (.str [116, 114, 117, 101])))) (dLst (aCons (dC (.int 2)) (aNil))) (dLst (aNil)))) (dIf (tV (dCmp cEq (dVar 4) (dC (.int 1)))) (dLst (aCons (dC (.int 6)) (aNil))) (dLst (aNil)))))))))
def f__law_fitting : Fn := dDef 1 6 b__law_fitting

/-- _law_bent(spring, machine); names 0:spring 1:machine 2:way 3:at 4:place 5:state 6:new 7:thing 8:bent -/
def b__law_bent : DS :=
  dSeq (sAsg (dTup (aCons (dCall f__law_take (aCons (dVar 0) (aCons (dC (.int 4)) (aNil)))) (aCons (dCall f__law_take (aCons (dVar 0) (aCons (dB bLen (aCons (dVar 1) (aNil))) (aNil)))) (aCons (dCall f__law_take (aCons (dVar 0) (aCons (dC (.int 13)) (aNil)))) (aNil))))) (gTup [gName 2, gName 3, gName 4])) (
  dSeq (sIf (tV (dCmp cEq (dVar 2) (dC (.int 0)))) (dRet (dBin oAdd (dVar 1) (dTup (aCons (dIx (dVar 1) (dVar 3)) (aNil))))) (dNext)) (
  dSeq (sIf (tV (dCmp cEq (dVar 2) (dC (.int 1)))) (dRet (dVar 1)) (dNext)) (
  dSeq (sAsg (dIx (dVar 1) (dVar 3)) (gName 5)) (
  dSeq (sAsg (dBin oAdd (dLst (aCons (dC .non) (aNil))) (dListRg (dB bLen (aCons (dVar 1) (aNil))))) (gName 6)) (
  dSeq (sAsg (dIf (tV (dCmp cEq (dVar 4) (dC (.int 12)))) (dNot (dIx (dVar 5) (dC (.int 12)))) (dIx (dVar 6) (dCall f__law_take (aCons (dVar 0) (aCons (dB bLen (aCons (dVar 6) (aNil))) (aNil)))))) (gName 7)) (
  dSeq (sAsg (dBin oAdd (dBin oAdd (dSl (dVar 5) (oNone) (oSome (dVar 4))) (dTup (aCons (dVar 7) (aNil)))) (dSl (dVar 5) (oSome (dBin oAdd (dVar 4) (dC (.int 1)))) (oNone))) (gName 8)) (
  dRet (dBin oAdd (dBin oAdd (dSl (dVar 1) (oNone) (oSome (dVar 3))) (dTup (aCons (dVar 8) (aNil)))) (dSl (dVar 1) (oSome (dBin oAdd (dVar 3) (dC (.int 1)))) (oNone))))))))))
def f__law_bent : Fn := dDef 2 9 b__law_bent

/-- _law_machine(way); names 0:way 1:stop 2:after 3:still 4:row 5:begin 6:turn 7:last -/
def b__law_machine : DS :=
  dSeq (sAsg (dTup (aCons (dTup (aCons (dC .non) (aCons (dC .non) (aCons (dC .non) (aCons (dC .non) (aNil)))))) (aCons (dTup (aCons (dC (.int 1)) (aCons (dC (.int 1)) (aCons (dC .non) (aCons (dC .non) (aNil)))))) (aCons (dTup (aCons (dC (.int 2)) (aCons (dC .non) (aCons (dC .non) (aCons (dC .non) (aNil)))))) (aNil))))) (gTup [gName 1, gName 2, gName 3])) (
  dSeq (sAsg (dTup (aCons (dTup (aCons (dC (.int 0)) (aCons (dC (.int 0)) (aCons (dC (.int 1)) (aCons (dC (.int 1)) (aNil)))))) (aCons (dTup (aCons (dC (.int 0)) (aCons (dC (.int 1)) (aCons (dC (.int 1)) (aCons (dC (.int 2)) (aNil)))))) (aCons (dTup (aCons (dC (.int 1)) (aCons (dC (.int 2)) (aCons (dC (.int 2)) (aCons (dC .non) (aNil)))))) (aNil))))) (gTup [gName 4, gName 5, gName 6])) (
  dSeq (sIf (tV (dCmp cEq (dVar 0) (dC (.int 0)))) (dRet (dTup (aCons (dBin oAdd (dBin oMulT (dTup (aCons (dC (.int 0)) (aCons (dC .non) (aCons (dC .non) (aCons (dC (.int 1)) (aNil)))))) (dC (.int 3))) (dTup (aCons (dC (.bl false)) (aNil)))) (aCons (dBin oAdd (dBin oMulT (dTup (aCons (dC (.int 1)) (aCons (dC .non) (aCons (dC .non) (aCons (dC .non) (aNil)))))) (dC (.int 3))) (dTup (aCons (dC (.bl true)) (aNil)))) (aNil))))) (dNext)) (
  dSeq (sIf (tV (dCmp cIn (dVar 0) (dLst (aCons (dC (.int 1)) (aCons (dC (.int 2)) (aNil)))))) (dRet (dTup (aCons (dBin oAdd (dBin oAdd (dVar 4) (dVar 4)) (dTup (aCons (dC (.int 0)) (aCons (dC (.int 0)) (aCons (dC .non) (aCons (dIf (tV (dCmp cEq (dVar 0) (dC (.int 1)))) (dC .non) (dC (.int 1))) (aCons (dC (.bl false)) (aNil)))))))) (aCons (dBin oAdd (dBin oMulT (dVar 2) (dC (.int 3))) (dTup (aCons (dC (.bl true)) (aNil)))) (aNil))))) (dNext)) (
  dSeq (sAsg (dBin oAdd (dBin oMulT (dVar 3) (dC (.int 3))) (dTup (aCons (dC (.bl true)) (aNil)))) (gName 7)) (
  dSeq (sIf (tV (dCmp cEq (dVar 0) (dC (.int 3)))) (dRet (dTup (aCons (dBin oAdd (dBin oMulT (dVar 5) (dC (.int 2))) (dTup (aCons (dC (.int 0)) (aCons (dC .non) (aCons (dC .non) (aCons (dC (.int 2)) (aCons (dC (.bl false)) (aNil)))))))) (aCons (dBin oAdd (dBin oAdd (dBin oAdd (dVar 1) (dVar 6)) (dVar 1)) (dTup (aCons (dC (.bl false)) (aNil)))) (aCons (dVar 7) (aNil)))))) (dNext)) (
  dSeq (sIf (tV (dCmp cEq (dVar 0) (dC (.int 4)))) (dRet (dTup (aCons (dBin oAdd (dBin oMulT (dTup (aCons (dC (.int 0)) (aCons (dC .non) (aCons (dC (.int 1)) (aCons (dC (.int 2)) (aNil)))))) (dC (.int 3))) (dTup (aCons (dC (.bl false)) (aNil)))) (aCons (dBin oAdd (dBin oMulT (dTup (aCons (dC (.int 1)) (aCons (dC (.int 2)) (aCons (dC .non) (aCons (dC .non) (aNil)))))) (dC (.int 3))) (dTup (aCons (dC (.bl false)) (aNil)))) (aCons (dVar 7) (aNil)))))) (dNext)) (
  dSeq (sIf (tV (dCmp cEq (dVar 0) (dC (.int 5)))) (dRet (dTup (aCons (dBin oAdd (dBin oMulT (dTup (aCons (dC (.int 0)) (aCons (dC (.int 1)) (aCons (dC .non) (aCons (dC (.int 2)) (aNil)))))) (dC (.int 3))) (dTup (aCons (dC (.bl false)) (aNil)))) (aCons (dBin oAdd (dBin oMulT (dTup (aCons (dC (.int 1)) (aCons (dC .non) (aCons (dC (.int 2)) (aCons (dC .non) (aNil)))))) (dC (.int 3))) (dTup (aCons (dC (.bl false)) (aNil)))) (aCons (dVar 7) (aNil)))))) (dNext)) (
  dSeq (sIf (tV (dCmp cEq (dVar 0) (dC (.int 6)))) (dRet (dTup (aCons (dBin oAdd (dBin oMulT (dVar 5) (dC (.int 3))) (dTup (aCons (dC (.bl false)) (aNil)))) (aCons (dBin oAdd (dBin oMulT (dTup (aCons (dC .non) (aCons (dC (.int 2)) (aCons (dC (.int 2)) (aCons (dC .non) (aNil)))))) (dC (.int 3))) (dTup (aCons (dC (.bl false)) (aNil)))) (aCons (dVar 7) (aNil)))))) (dNext)) (
  dRet (dTup (aCons (dBin oAdd (dBin oMulT (dTup (aCons (dC (.int 0)) (aCons (dC (.int 1)) (aCons (dC (.int 2)) (aCons (dC (.int 3)) (aNil)))))) (dC (.int 3))) (dTup (aCons (dC (.bl false)) (aNil)))) (aCons (dBin oAdd (dBin oMulT (dTup (aCons (dC (.int 1)) (aCons (dC .non) (aCons (dC (.int 3)) (aCons (dC .non) (aNil)))))) (dC (.int 3))) (dTup (aCons (dC (.bl false)) (aNil)))) (aCons (dBin oAdd (dBin oMulT (dTup (aCons (dC (.int 2)) (aCons (dC (.int 3)) (aCons (dC .non) (aCons (dC .non) (aNil)))))) (dC (.int 3))) (dTup (aCons (dC (.bl false)) (aNil)))) (aCons (dBin oAdd (dBin oMulT (dTup (aCons (dC (.int 3)) (aCons (dC .non) (aCons (dC .non) (aCons (dC .non) (aNil)))))) (dC (.int 3))) (dTup (aCons (dC (.bl true)) (aNil)))) (aNil)))))))))))))))
def f__law_machine : Fn := dDef 1 8 b__law_machine

/-- _law_reaches(start, marks, step, wrong); names 0:start 1:marks 2:step 3:wrong 4:seen 5:waiting 6:turn 7:state 8:bits 9:later -/
def b__law_reaches : DS :=
  dSeq (sAsg (dTup (aCons (dNs1 (dVar 0)) (aCons (dLst (aCons (dVar 0) (aNil))) (aNil)))) (gTup [gName 4, gName 5])) (
  dSeq (sFor (iRange1 (aCons (dC (.int 60000)) (aNil))) (gName 6) (dSeq (sIf (tV (dCmp cEq (dVar 5) (dLst (aNil)))) (dRet (dC (.bl false))) (dNext)) (
  dSeq (sAsg (dM .lst mPop (dVar 5) (aNil)) (gName 7)) (
  dSeq (sIf (tV (dCallF 3 clos (aCons (dVar 7) (aNil)))) (dRet (dC (.bl true))) (dNext)) (
  sFor (iRange1 (aCons (dBin oMul (dC (.int 3)) (dVar 1)) (aNil))) (gName 8) (dSeq (sAsg (dCallF 2 clos (aCons (dVar 7) (aCons (dBin oFdiv (dVar 8) (dVar 1)) (aCons (dBin oMod (dB bInt (aCons (dVar 8) (aNil))) (dVar 1)) (aNil))))) (gName 9)) (
  sIf (tAnd (tV (dCmp cNeT0 (dVar 9) (dTup aNil))) (tV (dCmp cNinN (dVar 9) (dVar 4)))) (dSeq (sAsg (dC (.bl true)) (gNs (dVar 4) (dVar 9))) (
  dExpr (dM .lst mAppend (dVar 5) (aCons (dVar 9) (aNil))))) (dNext)))))))) (
  dRet (dC (.bl true))))
def f__law_reaches : Fn := dDef 4 10 b__law_reaches

/-- _law_takes_all(layer, laid, machine); names 0:layer 1:laid 2:machine 3:_law_step 4:_law_wrong -/
def b__law_takes_all : DS :=
  sHo 3 4 (dRet (dNot (dHo f__law_reaches 4 [0, 1, 2] 5 [1, 2] (aCons (dTup (aCons (dC (.int 0)) (aCons (dTup (aCons (dC (.int 0)) (aCons (dC (.int 0)) (aCons (dC (.bl false)) (aCons (dC (.int 0)) (aNil)))))) (aCons (dC (.int 0)) (aNil))))) (aCons (dC (.int 4)) (aNil))))))
def f__law_takes_all : Fn := dDef 3 5 b__law_takes_all

/-- _law_has_none(sort, laid, machine); names 0:sort 1:laid 2:machine 3:_law_step 4:_law_wrong -/
def b__law_has_none : DS :=
  sHo 3 4 (dRet (dNot (dHo f__law_reaches 6 [0, 1, 2] 7 [1, 2] (aCons (dTup (aCons (dC (.int 0)) (aCons (dTup (aCons (dC (.int 0)) (aCons (dC (.bl false)) (aCons (dC (.int 0)) (aNil))))) (aCons (dC (.int 0)) (aNil))))) (aCons (dC (.int 4)) (aNil))))))
def f__law_has_none : Fn := dDef 3 5 b__law_has_none

/-- Part.__init__(self, heads, span, more); names 0:self 1:heads 2:span 3:more -/
def b_PartX_initX : DS :=
  dSeq (sAsg (dVar 1) (gTup [gFld 1953653072 1685221239 (dVar 0), gFld 1953653072 435678045043 (dVar 0)])) (
  dSeq (sAsg (dVar 2) (gTup [gFld 1953653072 7954807 (dVar 0), gFld 1953653072 125779768604014 (dVar 0)])) (
  sAsg (dVar 3) (gTup [gFld 1953653072 521610294885 (dVar 0), gFld 1953653072 7239535 (dVar 0), gFld 1953653072 435710685299 (dVar 0)])))
def f_PartX_initX : Fn := dDef 4 4 b_PartX_initX

/-- figure_at(figure); names 0:figure 1:number 2:other -/
def b_figure_at : DS :=
  dSeq (sFor (iEnum (aCons (dC c_FIGURES) (aNil))) (gTup [gName 1, gName 2]) (sIf (tV (dCmp cEq (dVar 2) (dVar 0))) (dRet (dVar 1)) (dNext))) (
  dRet (dC .non))
def f_figure_at : Fn := dDef 1 3 b_figure_at

/-- span_of(scope, words); names 0:scope 1:words -/
def b_span_of : DS :=
  dSeq (sIf (tV (dCmp cIn (dIx (dVar 1) (dC (.int 0))) (dTup (aCons (dC (.str [102, 105, 114, 115, 116])) (aCons (dC (.str [108, 97, 115, 116])) (aNil)))))) (dRet (dIf (tV (dCmp cEq (dVar 0) (dC (.str [114, 111, 119])))) (dTup (aCons (dTup (aCons (dIx (dVar 1) (dC (.int 0))) (aCons (dC (.int 0)) (aNil)))) (aCons (dC (.int 1)) (aNil)))) (dC .non))) (dNext)) (
  dSeq (sIf (tAnd (tV (dCmp cGt (dB bLen (aCons (dVar 1) (aNil))) (dC (.int 1)))) (tAnd (tV (dCmp cIn (dIx (dVar 1) (dC (.int 0))) (dTup (aCons (dC (.str [98, 97, 99, 107])) (aCons (dC (.str [97, 104, 101, 97, 100])) (aCons (dC (.str [97, 114, 111, 117, 110, 100])) (aNil))))))) (tV (dCmp cIn (dIx (dVar 1) (dC (.int 1))) (dC c_FIGURES))))) (dRet (dTup (aCons (dTup (aCons (dIx (dVar 1) (dC (.int 0))) (aCons (dCall f_figure_at (aCons (dIx (dVar 1) (dC (.int 1))) (aNil))) (aNil)))) (aCons (dC (.int 2)) (aNil))))) (dNext)) (
  dSeq (sIf (tAnd (tV (dCmp cGt (dB bLen (aCons (dVar 1) (aNil))) (dC (.int 2)))) (tAnd (tV (dCmp cEq (dIx (dVar 1) (dC (.int 0))) (dC (.str [97, 116])))) (tAnd (tV (dCmp cIn (dIx (dVar 1) (dC (.int 1))) (dSl (dC c_FIGURES) (oSome (dC (.int 1))) (oNone)))) (tV (dCmp cIn (dIx (dVar 1) (dC (.int 2))) (dTup (aCons (dC (.str [98, 97, 99, 107])) (aCons (dC (.str [97, 104, 101, 97, 100])) (aNil))))))))) (dRet (dTup (aCons (dTup (aCons (dFmt [97, 116, 32] (dIx (dVar 1) (dC (.int 2)))) (aCons (dCall f_figure_at (aCons (dIx (dVar 1) (dC (.int 1))) (aNil))) (aNil)))) (aCons (dC (.int 3)) (aNil))))) (dNext)) (
  dRet (dC .non))))
def f_span_of : Fn := dDef 2 2 b_span_of

/-- part_of(layer); names 0:layer 1:words 2:found 3:span 4:many 5:rest 6:every 7:own -/
def b_part_of : DS :=
  dSeq (sIf (tNot (tV (dIsi .str (dVar 0)))) (dRet (dC .non)) (dNext)) (
  dSeq (sAsg (dM .str mSplit (dVar 0) (aCons (dC (.str [32])) (aNil))) (gName 1)) (
  dSeq (sIf (tV (dCmp cEq (dVar 1) (dLst (aCons (dC (.str [99, 108, 101, 97, 114])) (aNil))))) (dRet (dMake 1953653072 f_PartX_initX (aCons (dTup (aCons (dC (.str [99, 108, 101, 97, 114])) (aCons (dC (.str [])) (aNil)))) (aCons (dTup (aCons (dC (.str [])) (aCons (dC (.int 0)) (aNil)))) (aCons (dTup (aCons (dC (.int 1)) (aCons (dC (.bl false)) (aCons (dC (.bl false)) (aNil))))) (aNil)))))) (dNext)) (
  dSeq (sIf (tOr (tV (dCmp cLt (dB bLen (aCons (dVar 1) (aNil))) (dC (.int 3)))) (tOr (tV (dCmp cNin (dIx (dVar 1) (dC (.int 0))) (dTup (aCons (dC (.str [108, 111, 111, 107])) (aCons (dC (.str [97, 100, 100])) (aNil)))))) (tV (dCmp cNin (dIx (dVar 1) (dC (.int 1))) (dTup (aCons (dC (.str [114, 111, 119])) (aCons (dC (.str [116, 114, 117, 101])) (aCons (dC (.str [108, 105, 110, 101])) (aNil))))))))) (dRet (dC .non)) (dNext)) (
  dSeq (sAsg (dCall f_span_of (aCons (dIx (dVar 1) (dC (.int 1))) (aCons (dSl (dVar 1) (oSome (dC (.int 2))) (oNone)) (aNil)))) (gName 2)) (
  dSeq (sIf (tV (dIsN (dVar 2))) (dRet (dC .non)) (dNext)) (
  dSeq (sAsg (dVar 2) (gTup [gName 3, gName 4])) (
  dSeq (sAsg (dTup (aCons (dSl (dVar 1) (oSome (dBin oAdd (dC (.int 2)) (dVar 4))) (oNone)) (aCons (dC (.int 1)) (aNil)))) (gTup [gName 5, gName 6])) (
  dSeq (sIf (tAnd (tV (dCmp cEq (dSl (dVar 5) (oNone) (oSome (dC (.int 1)))) (dLst (aCons (dC (.str [101, 118, 101, 114, 121])) (aNil))))) (tAnd (tV (dCmp cIn (dIx (dVar 3) (dC (.int 0))) (dTup (aCons (dC (.str [98, 97, 99, 107])) (aCons (dC (.str [97, 104, 101, 97, 100])) (aCons (dC (.str [97, 114, 111, 117, 110, 100])) (aNil))))))) (tV (dCmp cIn (dSl (dVar 5) (oSome (dC (.int 1))) (oSome (dC (.int 2)))) (dTup (aCons (dLst (aCons (dC (.str [50])) (aNil))) (aCons (dLst (aCons (dC (.str [51])) (aNil))) (aNil)))))))) (sAsg (dTup (aCons (dSl (dVar 5) (oSome (dC (.int 2))) (oNone)) (aCons (dB bInt (aCons (dIx (dVar 5) (dC (.int 1))) (aNil))) (aNil)))) (gTup [gName 5, gName 6])) (dNext)) (
  dSeq (sAsg (dOr (dCmp cEq (dIx (dVar 1) (dC (.int 0))) (dC (.str [97, 100, 100]))) (dCmp cEq (dSl (dVar 5) (oNone) (oSome (dC (.int 1)))) (dLst (aCons (dC (.str [111, 119, 110])) (aNil))))) (gName 7)) (
  dSeq (sIf (tAnd (tV (dCmp cEq (dIx (dVar 1) (dC (.int 0))) (dC (.str [108, 111, 111, 107])))) (tV (dVar 7))) (sAsg (dSl (dVar 5) (oSome (dC (.int 1))) (oNone)) (gName 5)) (dNext)) (
  dSeq (sIf (tV (dCmp cNin (dVar 5) (dTup (aCons (dLst (aNil)) (aCons (dLst (aCons (dC (.str [102, 111, 114])) (aCons (dC (.str [116, 114, 117, 101])) (aNil)))) (aNil)))))) (dRet (dC .non)) (dNext)) (
  dRet (dMake 1953653072 f_PartX_initX (aCons (dTup (aCons (dIx (dVar 1) (dC (.int 0))) (aCons (dIx (dVar 1) (dC (.int 1))) (aNil)))) (aCons (dVar 3) (aCons (dTup (aCons (dVar 6) (aCons (dVar 7) (aCons (dCmp cNe (dVar 5) (dLst (aNil))) (aNil))))) (aNil)))))))))))))))))
def f_part_of : Fn := dDef 1 8 b_part_of

/-- width_of(part); names 0:part -/
def b_width_of : DS :=
  dSeq (sIf (tV (dCmp cEq (dFld 1953653072 1685221239 (dVar 0)) (dC (.str [99, 108, 101, 97, 114])))) (dRet (dC (.int 0))) (dNext)) (
  dSeq (sIf (tV (dCmp cIn (dFld 1953653072 7954807 (dVar 0)) (dTup (aCons (dC (.str [102, 105, 114, 115, 116])) (aCons (dC (.str [108, 97, 115, 116])) (aNil)))))) (dRet (dC (.int 1))) (dNext)) (
  dRet (dIf (tV (dCmp cEq (dFld 1953653072 125779768604014 (dVar 0)) (dC (.int 0)))) (dFld 1953653072 521610294885 (dVar 0)) (dFld 1953653072 125779768604014 (dVar 0)))))
def f_width_of : Fn := dDef 1 1 b_width_of

/-- first_wrong(layers); names 0:layers 1:whole 2:index 3:layer 4:part -/
def b_first_wrong : DS :=
  dSeq (sAsg (dC (.int 0)) (gName 1)) (
  dSeq (sFor (iEnum (aCons (dVar 0) (aNil))) (gTup [gName 2, gName 3]) (dSeq (sAsg (dCall f_part_of (aCons (dVar 3) (aNil))) (gName 4)) (
  dSeq (sIf (tOr (tV (dCmp cEq (dVar 2) (dC c_MOST_LAYERS))) (tOr (tV (dIsN (dVar 4))) (tV (dCmp cGt (dBin oAdd (dVar 1) (dCall f_width_of (aCons (dVar 4) (aNil)))) (dC c_MOST_WIDTH))))) (dRet (dVar 2)) (dNext)) (
  sAug aAdd 1 (dCall f_width_of (aCons (dVar 4) (aNil))))))) (
  dRet (dC .non)))
def f_first_wrong : Fn := dDef 1 5 b_first_wrong

/-- Program.__init__(self, layers); names 0:self 1:layers 2:wrong -/
def b_ProgramX_initX : DS :=
  dSeq (sIf (tOr (tNot (tV (dIsi .tuple (dVar 1)))) (tV (dCmp cEqT0 (dVar 1) (dTup aNil)))) (sBad) (dNext)) (
  dSeq (sAsg (dCall f_first_wrong (aCons (dVar 1) (aNil))) (gName 2)) (
  dSeq (sIf (tV (dNotN (dVar 2))) (sBad) (dNext)) (
  sAsg (dVar 1) (gFld 30787916450984528 495622973804 (dVar 0)))))
def f_ProgramX_initX : Fn := dDef 2 3 b_ProgramX_initX

/-- Program.read(cls, text); names 0:cls 1:text 2:lines 3:wrong -/
def b_Program_read : DS :=
  dSeq (sIf (tNot (tV (dIsi .str (dVar 1)))) (sBad) (dNext)) (
  dSeq (sAsg (dM .str mSplit (dVar 1) (aCons (dC (.str [10])) (aNil))) (gName 2)) (
  dSeq (sAsg (dCall f_first_wrong (aCons (dVar 2) (aNil))) (gName 3)) (
  dSeq (sIf (tV (dNotN (dVar 3))) (sRaise 8606188017116213847 517097156201 (dVar 3)) (dNext)) (
  dRet (dMakeV 30787916450984528 f_ProgramX_initX (dVar 0) (aCons (dB bTuple (aCons (dVar 2) (aNil))) (aNil)))))))
def f_Program_read : Fn := dDef 2 4 b_Program_read

/-- program_of(value); names 0:value -/
def b_program_of : DS :=
  dSeq (sIf (tNot (tV (dIsi .str (dVar 0)))) (dRet (dC .non)) (dNext)) (
  sCatch 8606188017116213847 (dRet (dCallC f_Program_read 30787916450984528 (aCons (dVar 0) (aNil)))) (dRet (dC .non)))
def f_program_of : Fn := dDef 1 1 b_program_of

/-- Program.layers(self); names 0:self -/
def b_Program_layers : DS :=
  dRet (dFld 30787916450984528 495622973804 (dVar 0))
def f_Program_layers : Fn := dDef 1 1 b_Program_layers

/-- parts_of(program); names 0:program 1:layer -/
def b_parts_of : DS :=
  dRet (dLc [1] (iSeq (dProp 30787916450984528 126935165919596 f_Program_layers (dVar 0))) (gName 1) (tYes) (dCall f_part_of (aCons (dVar 1) (aNil))))
def f_parts_of : Fn := dDef 1 2 b_parts_of

/-- is_integer(value); names 0:value -/
def b_is_integer : DS :=
  dRet (dAnd (dIsi .int (dVar 0)) (dNot (dIsi .bool (dVar 0))))
def f_is_integer : Fn := dDef 1 1 b_is_integer

/-- is_within(value, low, high); names 0:value 1:low 2:high -/
def b_is_within : DS :=
  dRet (dAnd (dCall f_is_integer (aCons (dVar 0) (aNil))) (dChain cLe cLe (dVar 1) (dVar 0) (dVar 2)))
def f_is_within : Fn := dDef 3 3 b_is_within

/-- is_state(value, many); names 0:value 1:many 2:later -/
def b_is_state : DS :=
  dSeq (sIf (tOr (tNot (tV (dIsi .tuple (dVar 0)))) (tOr (tV (dCmp cNe (dB bLen (aCons (dVar 0) (aNil))) (dC c_ELEMENTS))) (tNot (tV (dIsi .bool (dIx (dVar 0) (dUn oNeg (dC (.int 1))))))))) (dRet (dC (.bl false))) (dNext)) (
  dRet (dB bAll (aCons (dLc [2] (iSeq (dSl (dVar 0) (oNone) (oSome (dUn oNeg (dC (.int 1)))))) (gName 2) (tYes) (dOr (dIsN (dVar 2)) (dCall f_is_within (aCons (dVar 2) (aCons (dC (.int 0)) (aCons (dBin oSub (dVar 1) (dC (.int 1))) (aNil))))))) (aNil))))
def f_is_state : Fn := dDef 2 3 b_is_state

/-- is_machine(value); names 0:value 1:state -/
def b_is_machine : DS :=
  dRet (dAnd (dIsi .tuple (dVar 0)) (dAnd (dCmp cNeT0 (dVar 0) (dTup aNil)) (dB bAll (aCons (dLc [1] (iSeq (dVar 0)) (gName 1) (tYes) (dCall f_is_state (aCons (dVar 1) (aCons (dB bLen (aCons (dVar 0) (aNil))) (aNil))))) (aNil)))))
def f_is_machine : Fn := dDef 1 2 b_is_machine

/-- are_machines(value, many); names 0:value 1:many 2:machine -/
def b_are_machines : DS :=
  dRet (dAnd (dIsi .tuple (dVar 0)) (dAnd (dCmp cEq (dB bLen (aCons (dVar 0) (aNil))) (dVar 1)) (dB bAll (aCons (dLc [2] (iSeq (dVar 0)) (gName 2) (tYes) (dCall f_is_machine (aCons (dVar 2) (aNil)))) (aNil)))))
def f_are_machines : Fn := dDef 2 3 b_are_machines

/-- is_reached(start, step, is_wrong); names 0:start 1:step 2:is_wrong 3:seen 4:waiting 5:state 6:letter 7:bits 8:later -/
def b_is_reached : DS :=
  dSeq (sAsg (dTup (aCons (dNs1 (dVar 0)) (aCons (dLst (aCons (dVar 0) (aNil))) (aNil)))) (gTup [gName 3, gName 4])) (
  dSeq (whileN (tL (dVar 4)) (dSeq (sAsg (dM .lst mPop (dVar 4) (aNil)) (gName 5)) (
  dSeq (sIf (tV (dCallF 2 clos (aCons (dVar 5) (aNil)))) (dRet (dC (.bl true))) (dNext)) (
  sFor (iRange1 (aCons (dC (.int 3)) (aNil))) (gName 6) (sFor (iRange1 (aCons (dC (.int 8)) (aNil))) (gName 7) (dSeq (sAsg (dCallF 1 clos (aCons (dVar 5) (aCons (dVar 6) (aCons (dVar 7) (aNil))))) (gName 8)) (
  sIf (tAnd (tV (dNotN (dVar 8))) (tV (dCmp cNinN (dVar 8) (dVar 3)))) (dSeq (sAsg (dC (.bl true)) (gNs (dVar 3) (dVar 8))) (
  dExpr (dM .lst mAppend (dVar 4) (aCons (dVar 8) (aNil))))) (dNext))))))) 1000000000) (
  dRet (dC (.bl false))))
def f_is_reached : Fn := dDef 3 9 b_is_reached

/-- holds_layer(part, plan, inner, outer); names 0:part 1:plan 2:inner 3:outer 4:step 5:is_wrong -/
def b_holds_layer : DS :=
  sHo 4 5 (dRet (dNot (dHo f_is_reached 0 [0, 1, 2, 3] 1 [1, 2, 3] (aCons (dTup (aCons (dC (.int 0)) (aCons (dC (.int 0)) (aCons (dTup (aCons (dC (.int 0)) (aCons (dC (.int 0)) (aNil)))) (aCons (dC (.int 0)) (aCons (dC (.int 0)) (aNil))))))) (aNil)))))
def f_holds_layer : Fn := dDef 4 6 b_holds_layer

/-- holds_layers(parts, plan, machines); names 0:parts 1:plan 2:machines 3:at 4:part -/
def b_holds_layers : DS :=
  dRet (dB bAll (aCons (dLc [3, 4] (iEnum (aCons (dVar 0) (aNil))) (gTup [gName 3, gName 4]) (tYes) (dCall f_holds_layer (aCons (dVar 4) (aCons (dVar 1) (aCons (dIx (dVar 2) (dVar 3)) (aCons (dIx (dVar 2) (dBin oAdd (dVar 3) (dC (.int 1)))) (aNil))))))) (aNil)))
def f_holds_layers : Fn := dDef 3 5 b_holds_layers

/-- holds_none(plan, kind, machine); names 0:plan 1:kind 2:machine 3:step 4:is_wrong -/
def b_holds_none : DS :=
  sHo 3 4 (dRet (dNot (dHo f_is_reached 2 [0, 1, 2] 3 [0, 2] (aCons (dTup (aCons (dC (.int 0)) (aCons (dTup (aCons (dC (.int 0)) (aCons (dC (.bl false)) (aNil)))) (aCons (dC (.int 0)) (aNil))))) (aNil)))))
def f_holds_none : Fn := dDef 3 5 b_holds_none

/-- shows_never(parts, kind, plan, machines); names 0:parts 1:kind 2:plan 3:machines -/
def b_shows_never : DS :=
  dSeq (sIf (tNot (tV (dCall f_are_machines (aCons (dVar 3) (aCons (dB bLen (aCons (dVar 0) (aNil))) (aNil)))))) (dRet (dC (.bl false))) (dNext)) (
  dRet (dAnd (dCall f_holds_layers (aCons (dVar 0) (aCons (dVar 2) (aCons (dTup (aCons (dC c_ALONE) (aStar (dVar 3) (aNil)))) (aNil))))) (dCall f_holds_none (aCons (dVar 2) (aCons (dVar 1) (aCons (dIx (dVar 3) (dUn oNeg (dC (.int 1)))) (aNil)))))))
def f_shows_never : Fn := dDef 4 4 b_shows_never

/-- accepts(claim, certificate); names 0:claim 1:certificate 2:word 3:plan 4:program 5:other 6:kind 7:parts -/
def b_accepts : DS :=
  dSeq (sIf (tOr (tNot (tV (dIsi .tuple (dVar 0)))) (tOr (tV (dCmp cEqT0 (dVar 0) (dTup aNil))) (tNot (tV (dIsi .str (dIx (dVar 0) (dC (.int 0)))))))) (dRet (dC (.bl false))) (dNext)) (
  dSeq (sAsg (dTup (aCons (dIx (dVar 0) (dC (.int 0))) (aCons (dIx (dVar 0) (dUn oNeg (dC (.int 1)))) (aNil)))) (gTup [gName 2, gName 3])) (
  dSeq (sIf (tOr (tV (dCmp cNe (dGetC c_SIZES (dVar 2) (dC (.int 0))) (dB bLen (aCons (dVar 0) (aNil))))) (tOr (tNot (tV (dIsi .str (dVar 3)))) (tV (dCmp cNin (dVar 3) (dC c_PLANS))))) (dRet (dC (.bl false))) (dNext)) (
  dSeq (sAsg (dCall f_program_of (aCons (dIx (dVar 0) (dC (.int 1))) (aNil))) (gName 4)) (
  dSeq (sIf (tV (dIsN (dVar 4))) (dRet (dC (.bl false))) (dNext)) (
  dSeq (sIf (tV (dCmp cEq (dVar 2) (dC (.str [109, 111, 114, 101])))) (dRet (dBad)) (dNext)) (
  dSeq (sIf (tV (dCmp cEq (dVar 2) (dC (.str [117, 110, 108, 105, 107, 101])))) (dSeq (sAsg (dCall f_program_of (aCons (dIx (dVar 0) (dC (.int 2))) (aNil))) (gName 5)) (
  dRet (dAnd (dNotN (dVar 5)) (dBad)))) (dNext)) (
  dSeq (sAsg (dTup (aCons (dIx (dVar 0) (dC (.int 2))) (aCons (dCall f_parts_of (aCons (dVar 4) (aNil))) (aNil)))) (gTup [gName 6, gName 7])) (
  dSeq (sIf (tOr (tNot (tV (dIsi .str (dVar 6)))) (tV (dCmp cNin (dVar 6) (dC c_KINDS)))) (dRet (dC (.bl false))) (dNext)) (
  dSeq (sIf (tV (dCmp cEq (dVar 2) (dC (.str [110, 101, 118, 101, 114])))) (dRet (dCall f_shows_never (aCons (dVar 7) (aCons (dVar 6) (aCons (dVar 3) (aCons (dVar 1) (aNil))))))) (dNext)) (
  dSeq (sIf (tV (dCmp cEq (dVar 2) (dC (.str [101, 118, 101, 114])))) (dRet (dBad)) (dNext)) (
  dRet (dBad))))))))))))
def f_accepts : Fn := dDef 2 8 b_accepts

/-- _law_text(layer); names 0:layer 1:word 2:scope 3:way 4:number 5:every 6:own 7:spare 8:far 9:found -/
def b__law_text : DS :=
  dSeq (sAsg (dVar 0) (gTup [gName 1, gName 2, gName 3, gName 4, gName 5, gName 6, gName 7])) (
  dSeq (sIf (tV (dCmp cEq (dVar 1) (dC (.str [99, 108, 101, 97, 114])))) (dRet (dVar 1)) (dNext)) (
  dSeq (sAsg (dTup (aCons (dIf (tV (dCmp cGt (dVar 4) (dC (.int 0)))) (dB bStr (aCons (dVar 4) (aNil))) (dC (.str [97, 108, 108]))) (aCons (dBin oAdd (dBin oAdd (dBin oAdd (dVar 1) (dC (.str [32]))) (dVar 2)) (dC (.str [32]))) (aNil)))) (gTup [gName 8, gName 9])) (
  dSeq (sIf (tV (dCmp cIn (dVar 3) (dLst (aCons (dC (.str [102, 105, 114, 115, 116])) (aCons (dC (.str [108, 97, 115, 116])) (aNil)))))) (sAsg (dBin oAdd (dVar 9) (dVar 3)) (gName 9)) (sIf (tV (dCmp cIn (dVar 3) (dLst (aCons (dC (.str [97, 116, 32, 98, 97, 99, 107])) (aCons (dC (.str [97, 116, 32, 97, 104, 101, 97, 100])) (aNil)))))) (sAsg (dBin oAdd (dBin oAdd (dBin oAdd (dVar 9) (dC (.str [97, 116, 32]))) (dVar 8)) (dSl (dVar 3) (oSome (dC (.int 2))) (oNone))) (gName 9)) (sAsg (dBin oAdd (dBin oAdd (dBin oAdd (dBin oAdd (dVar 9) (dVar 3)) (dC (.str [32]))) (dVar 8)) (dIf (tV (dCmp cGt (dVar 5) (dC (.int 1)))) (dBin oAdd (dC (.str [32, 101, 118, 101, 114, 121, 32])) (dB bStr (aCons (dVar 5) (aNil)))) (dC (.str [])))) (gName 9)))) (
  dSeq (sIf (tAnd (tV (dVar 6)) (tV (dCmp cEq (dVar 1) (dC (.str [108, 111, 111, 107]))))) (sAsg (dBin oAdd (dVar 9) (dC (.str [32, 111, 119, 110]))) (gName 9)) (dNext)) (
  dRet (dBin oAdd (dVar 9) (dIf (tV (dVar 7)) (dC (.str [32, 102, 111, 114, 32, 116, 114, 117, 101])) (dC (.str [])))))))))
def f__law_text : Fn := dDef 1 10 b__law_text

/-- _law_judged_right(spring); names 0:spring 1:layer 2:laid 3:sort 4:good 5:way 6:fit 7:machine 8:due -/
def b__law_judged_right : DS :=
  dSeq (sAsg (dTup (aCons (dCall f__law_layer (aCons (dVar 0) (aCons (dC (.int 3)) (aNil)))) (aCons (dCall f__law_plan (aCons (dVar 0) (aNil))) (aCons (dCall f__law_kind (aCons (dVar 0) (aNil))) (aNil))))) (gTup [gName 1, gName 2, gName 3])) (
  dSeq (sAsg (dCall f__law_fitting (aCons (dVar 1) (aNil))) (gName 4)) (
  dSeq (sAsg (dIf (tV (dCmp cGt (dCall f__law_take (aCons (dVar 0) (aCons (dC (.int 5)) (aNil)))) (dC (.int 0)))) (dIx (dVar 4) (dCall f__law_take (aCons (dVar 0) (aCons (dB bLen (aCons (dVar 4) (aNil))) (aNil))))) (dCall f__law_take (aCons (dVar 0) (aCons (dC (.int 8)) (aNil))))) (gName 5)) (
  dSeq (sIf (tV (dCmp cEq (dCall f__law_take (aCons (dVar 0) (aCons (dC (.int 2)) (aNil)))) (dC (.int 0)))) (dSeq (sAsg (dLst (aCons (dLst (aCons (dC (.str [108, 97, 116, 101, 114])) (aNil))) (aCons (dLst (aCons (dC (.str [102, 105, 108, 108, 105, 110, 103])) (aNil))) (aCons (dLst (aCons (dC (.str [102, 105, 108, 108, 105, 110, 103])) (aNil))) (aCons (dLst (aCons (dC (.str [102, 105, 108, 108, 105, 110, 103])) (aCons (dC (.str [111, 116, 104, 101, 114])) (aCons (dC (.str [115, 116, 114, 97, 110, 103, 101])) (aNil))))) (aCons (dLst (aCons (dC (.str [108, 97, 116, 101, 114])) (aNil))) (aCons (dLst (aCons (dC (.str [101, 97, 114, 108, 105, 101, 114])) (aNil))) (aCons (dLst (aCons (dC (.str [108, 97, 116, 101, 114])) (aNil))) (aNil))))))))) (gName 6)) (
  dSeq (sAsg (dIx (dBin oAdd (dVar 6) (dLst (aCons (dLst (aCons (dC (.str [102, 105, 108, 108, 105, 110, 103])) (aNil))) (aNil)))) (dVar 5)) (gName 6)) (
  sAsg (dIx (dVar 6) (dCall f__law_take (aCons (dVar 0) (aCons (dB bLen (aCons (dVar 6) (aNil))) (aNil))))) (gName 3)))) (dNext)) (
  dSeq (sAsg (dCall f__law_bent (aCons (dVar 0) (aCons (dCall f__law_machine (aCons (dVar 5) (aNil))) (aNil)))) (gName 7)) (
  dSeq (sAsg (dAnd (dCall f__law_takes_all (aCons (dVar 1) (aCons (dVar 2) (aCons (dVar 7) (aNil))))) (dCall f__law_has_none (aCons (dVar 3) (aCons (dVar 2) (aCons (dVar 7) (aNil)))))) (gName 8)) (
  dRet (dCmp cEq (dB bReprB (aCons (dCall f_accepts (aCons (dTup (aCons (dC (.str [110, 101, 118, 101, 114])) (aCons (dCall f__law_text (aCons (dVar 1) (aNil))) (aCons (dVar 3) (aCons (dVar 2) (aNil)))))) (aCons (dTup (aCons (dVar 7) (aNil))) (aNil)))) (aNil))) (dB bReprB (aCons (dVar 8) (aNil))))))))))
def f__law_judged_right : Fn := dDef 1 9 b__law_judged_right

/-- law(script); names 0:script 1:at 2:spring -/
def b_law : DS :=
  dSeq (sFor (iRange1 (aCons (dB bMax2 (aCons (dC (.int 2)) (aCons (dB bMin2 (aCons (dB bLen (aCons (dVar 0) (aNil))) (aCons (dC (.int 3)) (aNil)))) (aNil)))) (aNil))) (gName 1) (dSeq (sAsg (dCall f__law_spring (aCons (dVar 0) (aCons (dVar 1) (aNil)))) (gName 2)) (
  sIf (tOr (tNot (tV (dCall f__law_judged_right (aCons (dVar 2) (aNil))))) (tNot (tV (dCall f__law_judged_right (aCons (dVar 2) (aNil)))))) (dRet (dC (.bl false))) (dNext)))) (
  dRet (dC (.bl true)))
def f_law : Fn := dDef 1 3 b_law

end DL
end S_K72Mir
section S_K72Walk
set_option Elab.async false
set_option linter.all false
set_option maxRecDepth 100000
set_option maxHeartbeats 0
/-! Walk: each def has its denotation, printed by gen.py -/
namespace DW
open DL
open PySem PySem.Spec PyProof.Rows L2 He
abbrev prog : Program := (PySem.Challenge.rw_filledrows_k72_small_machines_judged).prog
def top (i : Nat) : Stmt := PySem.Challenge.pw_filledrows_k72_small_machines_judged.main.body.getD i (.Pass ⟨0, 0, 0, 0⟩)
def cls (i j : Nat) : Stmt := match top i with
  | .ClassDef _ _ _ b _ _ _ _ _ _ _ => b.getD j (.Pass ⟨0, 0, 0, 0⟩)
  | s => s
def d_machine_after : He5.DefA := ⟨fun K => ga K "machine_after", "machine_after", "machine_after", defArgs (top 43), defBody (top 43), defScope (top 43), [], []⟩
def d_took_itself : He5.DefA := ⟨fun K => ga K "took_itself", "took_itself", "took_itself", defArgs (top 47), defBody (top 47), defScope (top 47), [], []⟩
def d_began : He5.DefA := ⟨fun K => ga K "began", "began", "began", defArgs (top 48), defBody (top 48), defScope (top 48), [], []⟩
def d_farther : He5.DefA := ⟨fun K => ga K "farther", "farther", "farther", defArgs (top 49), defBody (top 49), defScope (top 49), [], []⟩
def d_is_right_distance : He5.DefA := ⟨fun K => ga K "is_right_distance", "is_right_distance", "is_right_distance", defArgs (top 50), defBody (top 50), defScope (top 50), [], []⟩
def d_taking_after : He5.DefA := ⟨fun K => ga K "taking_after", "taking_after", "taking_after", defArgs (top 51), defBody (top 51), defScope (top 51), [], []⟩
def d_plan_after : He5.DefA := ⟨fun K => ga K "plan_after", "plan_after", "plan_after", defArgs (top 45), defBody (top 45), defScope (top 45), [], []⟩
def d_plan_may_end : He5.DefA := ⟨fun K => ga K "plan_may_end", "plan_may_end", "plan_may_end", defArgs (top 46), defBody (top 46), defScope (top 46), [], []⟩
def d_is_accepting : He5.DefA := ⟨fun K => ga K "is_accepting", "is_accepting", "is_accepting", defArgs (top 44), defBody (top 44), defScope (top 44), [], []⟩
def d_kind_after : He5.DefA := ⟨fun K => ga K "kind_after", "kind_after", "kind_after", defArgs (top 52), defBody (top 52), defScope (top 52), [], []⟩
def d__law_farther : He5.DefA := ⟨fun K => ga K "_law_farther", "_law_farther", "_law_farther", defArgs (top 86), defBody (top 86), defScope (top 86), [], []⟩
def d__law_taken : He5.DefA := ⟨fun K => ga K "_law_taken", "_law_taken", "_law_taken", defArgs (top 87), defBody (top 87), defScope (top 87), [], []⟩
def d__law_taking : He5.DefA := ⟨fun K => ga K "_law_taking", "_law_taking", "_law_taking", defArgs (top 88), defBody (top 88), defScope (top 88), [], []⟩
def d__law_stage : He5.DefA := ⟨fun K => ga K "_law_stage", "_law_stage", "_law_stage", defArgs (top 84), defBody (top 84), defScope (top 84), [], []⟩
def d__law_after : He5.DefA := ⟨fun K => ga K "_law_after", "_law_after", "_law_after", defArgs (top 91), defBody (top 91), defScope (top 91), [], []⟩
def d__law_ends : He5.DefA := ⟨fun K => ga K "_law_ends", "_law_ends", "_law_ends", defArgs (top 85), defBody (top 85), defScope (top 85), [], []⟩
def d__law_accepts : He5.DefA := ⟨fun K => ga K "_law_accepts", "_law_accepts", "_law_accepts", defArgs (top 92), defBody (top 92), defScope (top 92), [], []⟩
def d__law_foreign : He5.DefA := ⟨fun K => ga K "_law_foreign", "_law_foreign", "_law_foreign", defArgs (top 89), defBody (top 89), defScope (top 89), [], []⟩
def d__law_spring : He5.DefA := ⟨fun K => ga K "_law_spring", "_law_spring", "_law_spring", defArgs (top 78), defBody (top 78), defScope (top 78), [], []⟩
def d__law_take : He5.DefA := ⟨fun K => ga K "_law_take", "_law_take", "_law_take", defArgs (top 79), defBody (top 79), defScope (top 79), [], []⟩
def d__law_kind : He5.DefA := ⟨fun K => ga K "_law_kind", "_law_kind", "_law_kind", defArgs (top 82), defBody (top 82), defScope (top 82), [], []⟩
def d__law_plan : He5.DefA := ⟨fun K => ga K "_law_plan", "_law_plan", "_law_plan", defArgs (top 83), defBody (top 83), defScope (top 83), [], []⟩
def d__law_layer : He5.DefA := ⟨fun K => ga K "_law_layer", "_law_layer", "_law_layer", defArgs (top 80), defBody (top 80), defScope (top 80), [], []⟩
def d__law_fitting : He5.DefA := ⟨fun K => ga K "_law_fitting", "_law_fitting", "_law_fitting", defArgs (top 94), defBody (top 94), defScope (top 94), [], []⟩
def d__law_bent : He5.DefA := ⟨fun K => ga K "_law_bent", "_law_bent", "_law_bent", defArgs (top 95), defBody (top 95), defScope (top 95), [], []⟩
def d__law_machine : He5.DefA := ⟨fun K => ga K "_law_machine", "_law_machine", "_law_machine", defArgs (top 93), defBody (top 93), defScope (top 93), [], []⟩
def d__law_reaches : He5.DefA := ⟨fun K => ga K "_law_reaches", "_law_reaches", "_law_reaches", defArgs (top 90), defBody (top 90), defScope (top 90), [], []⟩
def d__law_takes_all : He5.DefA := ⟨fun K => ga K "_law_takes_all", "_law_takes_all", "_law_takes_all", defArgs (top 96), defBody (top 96), defScope (top 96), [], []⟩
def d__law_has_none : He5.DefA := ⟨fun K => ga K "_law_has_none", "_law_has_none", "_law_has_none", defArgs (top 97), defBody (top 97), defScope (top 97), [], []⟩
def d_PartX_initX : He5.DefA := ⟨fun K => ma K (ga K "Part") "__init__", "__init__", "Part.__init__", defArgs (cls 27 0), defBody (cls 27 0), defScope (cls 27 0), [], []⟩
def d_figure_at : He5.DefA := ⟨fun K => ga K "figure_at", "figure_at", "figure_at", defArgs (top 28), defBody (top 28), defScope (top 28), [], []⟩
def d_span_of : He5.DefA := ⟨fun K => ga K "span_of", "span_of", "span_of", defArgs (top 29), defBody (top 29), defScope (top 29), [], []⟩
def d_part_of : He5.DefA := ⟨fun K => ga K "part_of", "part_of", "part_of", defArgs (top 30), defBody (top 30), defScope (top 30), [], []⟩
def d_width_of : He5.DefA := ⟨fun K => ga K "width_of", "width_of", "width_of", defArgs (top 31), defBody (top 31), defScope (top 31), [], []⟩
def d_first_wrong : He5.DefA := ⟨fun K => ga K "first_wrong", "first_wrong", "first_wrong", defArgs (top 32), defBody (top 32), defScope (top 32), [], []⟩
def d_ProgramX_initX : He5.DefA := ⟨fun K => ma K (ga K "Program") "__init__", "__init__", "Program.__init__", defArgs (cls 33 0), defBody (cls 33 0), defScope (cls 33 0), [], []⟩
def d_Program_read : He5.DefA := ⟨fun K => He5.wf K (ga K "Program") "classmethod" "read", "read", "Program.read", defArgs (cls 33 1), defBody (cls 33 1), defScope (cls 33 1), [], []⟩
def d_program_of : He5.DefA := ⟨fun K => ga K "program_of", "program_of", "program_of", defArgs (top 75), defBody (top 75), defScope (top 75), [], []⟩
def d_Program_layers : He5.DefA := ⟨fun K => He5.wf K (ga K "Program") "property" "layers", "layers", "Program.layers", defArgs (cls 33 2), defBody (cls 33 2), defScope (cls 33 2), [], []⟩
def d_parts_of : He5.DefA := ⟨fun K => ga K "parts_of", "parts_of", "parts_of", defArgs (top 35), defBody (top 35), defScope (top 35), [], []⟩
def d_is_integer : He5.DefA := ⟨fun K => ga K "is_integer", "is_integer", "is_integer", defArgs (top 15), defBody (top 15), defScope (top 15), [], []⟩
def d_is_within : He5.DefA := ⟨fun K => ga K "is_within", "is_within", "is_within", defArgs (top 16), defBody (top 16), defScope (top 16), [], []⟩
def d_is_state : He5.DefA := ⟨fun K => ga K "is_state", "is_state", "is_state", defArgs (top 40), defBody (top 40), defScope (top 40), [], []⟩
def d_is_machine : He5.DefA := ⟨fun K => ga K "is_machine", "is_machine", "is_machine", defArgs (top 41), defBody (top 41), defScope (top 41), [], []⟩
def d_are_machines : He5.DefA := ⟨fun K => ga K "are_machines", "are_machines", "are_machines", defArgs (top 42), defBody (top 42), defScope (top 42), [], []⟩
def d_is_reached : He5.DefA := ⟨fun K => ga K "is_reached", "is_reached", "is_reached", defArgs (top 63), defBody (top 63), defScope (top 63), [], []⟩
def d_holds_layer : He5.DefA := ⟨fun K => ga K "holds_layer", "holds_layer", "holds_layer", defArgs (top 64), defBody (top 64), defScope (top 64), [], []⟩
def d_holds_layers : He5.DefA := ⟨fun K => ga K "holds_layers", "holds_layers", "holds_layers", defArgs (top 67), defBody (top 67), defScope (top 67), [], []⟩
def d_holds_none : He5.DefA := ⟨fun K => ga K "holds_none", "holds_none", "holds_none", defArgs (top 66), defBody (top 66), defScope (top 66), [], []⟩
def d_shows_never : He5.DefA := ⟨fun K => ga K "shows_never", "shows_never", "shows_never", defArgs (top 68), defBody (top 68), defScope (top 68), [], []⟩
def d_accepts : He5.DefA := ⟨fun K => ga K "accepts", "accepts", "accepts", defArgs (top 76), defBody (top 76), defScope (top 76), [], []⟩
def d__law_text : He5.DefA := ⟨fun K => ga K "_law_text", "_law_text", "_law_text", defArgs (top 81), defBody (top 81), defScope (top 81), [], []⟩
def d__law_judged_right : He5.DefA := ⟨fun K => ga K "_law_judged_right", "_law_judged_right", "_law_judged_right", defArgs (top 98), defBody (top 98), defScope (top 98), [], []⟩
def d_law : He5.DefA := ⟨fun K => ga K "law", "law", "law", defArgs (top 99), defBody (top 99), defScope (top 99), [], []⟩
def d_WrongRow_init : He5.DefA := ⟨fun K => ma K (ga K "WrongRow") "__init__", "__init__", "WrongRow.__init__", defArgs (cls 8 0), defBody (cls 8 0), defScope (cls 8 0), [], []⟩
def need : List Str := (["machine_after", "Part", "took_itself", "began", "farther", "is_right_distance", "taking_after", "plan_after", "plan_may_end", "is_accepting"] : List Str) ++ (["kind_after", "_law_farther", "_law_taken", "_law_taking", "_law_stage", "_law_after", "_law_ends", "_law_accepts", "_law_foreign", "_law_spring"] : List Str) ++ (["_law_take", "_law_kind", "_law_plan", "_law_layer", "_law_fitting", "_law_machine", "_law_bent", "_law_reaches", "_law_takes_all", "_law_has_none"] : List Str) ++ (["SIZES", "figure_at", "span_of", "part_of", "width_of", "first_wrong", "WrongRow", "Program", "program_of", "parts_of"] : List Str) ++ (["is_integer", "is_within", "is_state", "is_machine", "are_machines", "is_reached", "holds_layer", "holds_layers", "holds_none", "shows_never"] : List Str) ++ (["_law_text", "accepts", "_law_judged_right", "law", "PLANS", "FIGURES", "MOST_LAYERS", "MOST_WIDTH", "KINDS", "ELEMENTS"] : List Str) ++ (["ALONE"] : List Str)
def fa : List Fa := [.free "len", .free "abs", .free "int", .free "str", .free "divmod", .free "list", .free "tuple", .free "sum", .free "all", .free "any", .free "repr", .free "isinstance", .free "min", .free "max", .free "range", .free "enumerate", .free "zip", .free "sorted", .free "set", .free "dict", .free "bool", .glo "machine_after", .glo "Part", .cls "Part", .noat "Part" "word", .noat "Part" "own", .noat "Part" "spare", .noat "Part" "way", .glo "took_itself", .noat "Part" "scope", .glo "began", .noat "Part" "number", .noat "Part" "every", .glo "farther", .glo "is_right_distance", .glo "taking_after", .glo "plan_after", .glo "plan_may_end", .glo "is_accepting", .glo "kind_after", .glo "_law_farther", .glo "_law_taken", .glo "_law_taking", .glo "_law_stage", .glo "_law_after", .glo "_law_ends", .glo "_law_accepts", .glo "_law_foreign", .glo "_law_spring", .glo "_law_take", .glo "_law_kind", .glo "_law_plan", .glo "_law_layer", .glo "_law_fitting", .glo "_law_machine", .glo "_law_bent", .glo "_law_reaches", .glo "_law_takes_all", .glo "_law_has_none", .glo "SIZES", .mkr "Part", .glo "figure_at", .glo "span_of", .glo "part_of", .glo "width_of", .glo "first_wrong", .glo "WrongRow", .glo "Program", .cls "Program", .noat "Program" "lines", .mkr "Program", .glo "program_of", .glo "parts_of", .glo "is_integer", .glo "is_within", .glo "is_state", .glo "is_machine", .glo "are_machines", .glo "is_reached", .glo "holds_layer", .glo "holds_layers", .glo "holds_none", .glo "shows_never", .glo "_law_text", .glo "accepts", .glo "_law_judged_right", .glo "law"]
def fb : List Fb := [.tab "SIZES" DL.c_SIZES, .con "PLANS" DL.c_PLANS, .con "FIGURES" DL.c_FIGURES, .con "MOST_LAYERS" DL.c_MOST_LAYERS, .con "MOST_WIDTH" DL.c_MOST_WIDTH, .exc "WrongRow" (nameOf 517097156201), .cm "Program" "read", .prop "Program" "layers", .con "KINDS" DL.c_KINDS, .con "ELEMENTS" DL.c_ELEMENTS, .con "ALONE" DL.c_ALONE]
def fn : List He5.DefA := [d_machine_after, d_took_itself, d_began, d_farther, d_is_right_distance, d_taking_after, d_plan_after, d_plan_may_end, d_is_accepting, d_kind_after, d__law_farther, d__law_taken, d__law_taking, d__law_stage, d__law_after, d__law_ends, d__law_accepts, d__law_foreign, d__law_spring, d__law_take, d__law_kind, d__law_plan, d__law_layer, d__law_fitting, d__law_bent, d__law_machine, d__law_reaches, d__law_takes_all, d__law_has_none, d_PartX_initX, d_figure_at, d_span_of, d_part_of, d_width_of, d_first_wrong, d_ProgramX_initX, d_Program_read, d_program_of, d_Program_layers, d_parts_of, d_is_integer, d_is_within, d_is_state, d_is_machine, d_are_machines, d_is_reached, d_holds_layer, d_holds_layers, d_holds_none, d_shows_never, d_accepts, d__law_text, d__law_judged_right, d_law, d_WrongRow_init]
def ts : List Tab := [(fun K => ga K "SIZES", DL.c_SIZES.map fun q => mkS q.1)]
section
variable [tbs : TabsT] [TC : TabsC]
structure TopOk (P : Program) (w : World) (K : PySem.W.Frag) (mg : Str → Option Value) (base : Heap) : Prop where
  bf : BF mg
  d_machine_after : ∃ fd, FunD K d_machine_after.name d_machine_after.qual (defArgs (top 43)) (defBody (top 43)) (defScope (top 43)) [] [] (ga K "machine_after") fd
  d_took_itself : ∃ fd, FunD K d_took_itself.name d_took_itself.qual (defArgs (top 47)) (defBody (top 47)) (defScope (top 47)) [] [] (ga K "took_itself") fd
  d_began : ∃ fd, FunD K d_began.name d_began.qual (defArgs (top 48)) (defBody (top 48)) (defScope (top 48)) [] [] (ga K "began") fd
  d_farther : ∃ fd, FunD K d_farther.name d_farther.qual (defArgs (top 49)) (defBody (top 49)) (defScope (top 49)) [] [] (ga K "farther") fd
  d_is_right_distance : ∃ fd, FunD K d_is_right_distance.name d_is_right_distance.qual (defArgs (top 50)) (defBody (top 50)) (defScope (top 50)) [] [] (ga K "is_right_distance") fd
  d_taking_after : ∃ fd, FunD K d_taking_after.name d_taking_after.qual (defArgs (top 51)) (defBody (top 51)) (defScope (top 51)) [] [] (ga K "taking_after") fd
  d_plan_after : ∃ fd, FunD K d_plan_after.name d_plan_after.qual (defArgs (top 45)) (defBody (top 45)) (defScope (top 45)) [] [] (ga K "plan_after") fd
  d_plan_may_end : ∃ fd, FunD K d_plan_may_end.name d_plan_may_end.qual (defArgs (top 46)) (defBody (top 46)) (defScope (top 46)) [] [] (ga K "plan_may_end") fd
  d_is_accepting : ∃ fd, FunD K d_is_accepting.name d_is_accepting.qual (defArgs (top 44)) (defBody (top 44)) (defScope (top 44)) [] [] (ga K "is_accepting") fd
  d_kind_after : ∃ fd, FunD K d_kind_after.name d_kind_after.qual (defArgs (top 52)) (defBody (top 52)) (defScope (top 52)) [] [] (ga K "kind_after") fd
  d__law_farther : ∃ fd, FunD K d__law_farther.name d__law_farther.qual (defArgs (top 86)) (defBody (top 86)) (defScope (top 86)) [] [] (ga K "_law_farther") fd
  d__law_taken : ∃ fd, FunD K d__law_taken.name d__law_taken.qual (defArgs (top 87)) (defBody (top 87)) (defScope (top 87)) [] [] (ga K "_law_taken") fd
  d__law_taking : ∃ fd, FunD K d__law_taking.name d__law_taking.qual (defArgs (top 88)) (defBody (top 88)) (defScope (top 88)) [] [] (ga K "_law_taking") fd
  d__law_stage : ∃ fd, FunD K d__law_stage.name d__law_stage.qual (defArgs (top 84)) (defBody (top 84)) (defScope (top 84)) [] [] (ga K "_law_stage") fd
  d__law_after : ∃ fd, FunD K d__law_after.name d__law_after.qual (defArgs (top 91)) (defBody (top 91)) (defScope (top 91)) [] [] (ga K "_law_after") fd
  d__law_ends : ∃ fd, FunD K d__law_ends.name d__law_ends.qual (defArgs (top 85)) (defBody (top 85)) (defScope (top 85)) [] [] (ga K "_law_ends") fd
  d__law_accepts : ∃ fd, FunD K d__law_accepts.name d__law_accepts.qual (defArgs (top 92)) (defBody (top 92)) (defScope (top 92)) [] [] (ga K "_law_accepts") fd
  d__law_foreign : ∃ fd, FunD K d__law_foreign.name d__law_foreign.qual (defArgs (top 89)) (defBody (top 89)) (defScope (top 89)) [] [] (ga K "_law_foreign") fd
  d__law_spring : ∃ fd, FunD K d__law_spring.name d__law_spring.qual (defArgs (top 78)) (defBody (top 78)) (defScope (top 78)) [] [] (ga K "_law_spring") fd
  d__law_take : ∃ fd, FunD K d__law_take.name d__law_take.qual (defArgs (top 79)) (defBody (top 79)) (defScope (top 79)) [] [] (ga K "_law_take") fd
  d__law_kind : ∃ fd, FunD K d__law_kind.name d__law_kind.qual (defArgs (top 82)) (defBody (top 82)) (defScope (top 82)) [] [] (ga K "_law_kind") fd
  d__law_plan : ∃ fd, FunD K d__law_plan.name d__law_plan.qual (defArgs (top 83)) (defBody (top 83)) (defScope (top 83)) [] [] (ga K "_law_plan") fd
  d__law_layer : ∃ fd, FunD K d__law_layer.name d__law_layer.qual (defArgs (top 80)) (defBody (top 80)) (defScope (top 80)) [] [] (ga K "_law_layer") fd
  d__law_fitting : ∃ fd, FunD K d__law_fitting.name d__law_fitting.qual (defArgs (top 94)) (defBody (top 94)) (defScope (top 94)) [] [] (ga K "_law_fitting") fd
  d__law_bent : ∃ fd, FunD K d__law_bent.name d__law_bent.qual (defArgs (top 95)) (defBody (top 95)) (defScope (top 95)) [] [] (ga K "_law_bent") fd
  d__law_machine : ∃ fd, FunD K d__law_machine.name d__law_machine.qual (defArgs (top 93)) (defBody (top 93)) (defScope (top 93)) [] [] (ga K "_law_machine") fd
  d__law_reaches : ∃ fd, FunD K d__law_reaches.name d__law_reaches.qual (defArgs (top 90)) (defBody (top 90)) (defScope (top 90)) [] [] (ga K "_law_reaches") fd
  d__law_takes_all : ∃ fd, FunD K d__law_takes_all.name d__law_takes_all.qual (defArgs (top 96)) (defBody (top 96)) (defScope (top 96)) [] [] (ga K "_law_takes_all") fd
  d__law_has_none : ∃ fd, FunD K d__law_has_none.name d__law_has_none.qual (defArgs (top 97)) (defBody (top 97)) (defScope (top 97)) [] [] (ga K "_law_has_none") fd
  d_PartX_initX : ∃ fd, FunD K d_PartX_initX.name d_PartX_initX.qual (defArgs (cls 27 0)) (defBody (cls 27 0)) (defScope (cls 27 0)) [] [] (ma K (ga K "Part") "__init__") fd
  d_figure_at : ∃ fd, FunD K d_figure_at.name d_figure_at.qual (defArgs (top 28)) (defBody (top 28)) (defScope (top 28)) [] [] (ga K "figure_at") fd
  d_span_of : ∃ fd, FunD K d_span_of.name d_span_of.qual (defArgs (top 29)) (defBody (top 29)) (defScope (top 29)) [] [] (ga K "span_of") fd
  d_part_of : ∃ fd, FunD K d_part_of.name d_part_of.qual (defArgs (top 30)) (defBody (top 30)) (defScope (top 30)) [] [] (ga K "part_of") fd
  d_width_of : ∃ fd, FunD K d_width_of.name d_width_of.qual (defArgs (top 31)) (defBody (top 31)) (defScope (top 31)) [] [] (ga K "width_of") fd
  d_first_wrong : ∃ fd, FunD K d_first_wrong.name d_first_wrong.qual (defArgs (top 32)) (defBody (top 32)) (defScope (top 32)) [] [] (ga K "first_wrong") fd
  d_ProgramX_initX : ∃ fd, FunD K d_ProgramX_initX.name d_ProgramX_initX.qual (defArgs (cls 33 0)) (defBody (cls 33 0)) (defScope (cls 33 0)) [] [] (ma K (ga K "Program") "__init__") fd
  d_Program_read : ∃ fd, FunD K d_Program_read.name d_Program_read.qual (defArgs (cls 33 1)) (defBody (cls 33 1)) (defScope (cls 33 1)) [] [] (He5.wf K (ga K "Program") "classmethod" "read") fd
  d_program_of : ∃ fd, FunD K d_program_of.name d_program_of.qual (defArgs (top 75)) (defBody (top 75)) (defScope (top 75)) [] [] (ga K "program_of") fd
  d_Program_layers : ∃ fd, FunD K d_Program_layers.name d_Program_layers.qual (defArgs (cls 33 2)) (defBody (cls 33 2)) (defScope (cls 33 2)) [] [] (He5.wf K (ga K "Program") "property" "layers") fd
  d_parts_of : ∃ fd, FunD K d_parts_of.name d_parts_of.qual (defArgs (top 35)) (defBody (top 35)) (defScope (top 35)) [] [] (ga K "parts_of") fd
  d_is_integer : ∃ fd, FunD K d_is_integer.name d_is_integer.qual (defArgs (top 15)) (defBody (top 15)) (defScope (top 15)) [] [] (ga K "is_integer") fd
  d_is_within : ∃ fd, FunD K d_is_within.name d_is_within.qual (defArgs (top 16)) (defBody (top 16)) (defScope (top 16)) [] [] (ga K "is_within") fd
  d_is_state : ∃ fd, FunD K d_is_state.name d_is_state.qual (defArgs (top 40)) (defBody (top 40)) (defScope (top 40)) [] [] (ga K "is_state") fd
  d_is_machine : ∃ fd, FunD K d_is_machine.name d_is_machine.qual (defArgs (top 41)) (defBody (top 41)) (defScope (top 41)) [] [] (ga K "is_machine") fd
  d_are_machines : ∃ fd, FunD K d_are_machines.name d_are_machines.qual (defArgs (top 42)) (defBody (top 42)) (defScope (top 42)) [] [] (ga K "are_machines") fd
  d_is_reached : ∃ fd, FunD K d_is_reached.name d_is_reached.qual (defArgs (top 63)) (defBody (top 63)) (defScope (top 63)) [] [] (ga K "is_reached") fd
  d_holds_layer : ∃ fd, FunD K d_holds_layer.name d_holds_layer.qual (defArgs (top 64)) (defBody (top 64)) (defScope (top 64)) [] [] (ga K "holds_layer") fd
  d_holds_layers : ∃ fd, FunD K d_holds_layers.name d_holds_layers.qual (defArgs (top 67)) (defBody (top 67)) (defScope (top 67)) [] [] (ga K "holds_layers") fd
  d_holds_none : ∃ fd, FunD K d_holds_none.name d_holds_none.qual (defArgs (top 66)) (defBody (top 66)) (defScope (top 66)) [] [] (ga K "holds_none") fd
  d_shows_never : ∃ fd, FunD K d_shows_never.name d_shows_never.qual (defArgs (top 68)) (defBody (top 68)) (defScope (top 68)) [] [] (ga K "shows_never") fd
  d_accepts : ∃ fd, FunD K d_accepts.name d_accepts.qual (defArgs (top 76)) (defBody (top 76)) (defScope (top 76)) [] [] (ga K "accepts") fd
  d__law_text : ∃ fd, FunD K d__law_text.name d__law_text.qual (defArgs (top 81)) (defBody (top 81)) (defScope (top 81)) [] [] (ga K "_law_text") fd
  d__law_judged_right : ∃ fd, FunD K d__law_judged_right.name d__law_judged_right.qual (defArgs (top 98)) (defBody (top 98)) (defScope (top 98)) [] [] (ga K "_law_judged_right") fd
  d_law : ∃ fd, FunD K d_law.name d_law.qual (defArgs (top 99)) (defBody (top 99)) (defScope (top 99)) [] [] (ga K "law") fd
  g_machine_after : mg "machine_after" = some (.ref (ga K "machine_after"))
  C_Part : ClsOk K mg 1953653072 (ga K "Part")
  n_Part_word : NoAttr K (ga K "Part") "word"
  n_Part_own : NoAttr K (ga K "Part") "own"
  n_Part_spare : NoAttr K (ga K "Part") "spare"
  n_Part_way : NoAttr K (ga K "Part") "way"
  g_took_itself : mg "took_itself" = some (.ref (ga K "took_itself"))
  n_Part_scope : NoAttr K (ga K "Part") "scope"
  g_began : mg "began" = some (.ref (ga K "began"))
  n_Part_number : NoAttr K (ga K "Part") "number"
  n_Part_every : NoAttr K (ga K "Part") "every"
  g_farther : mg "farther" = some (.ref (ga K "farther"))
  g_is_right_distance : mg "is_right_distance" = some (.ref (ga K "is_right_distance"))
  g_taking_after : mg "taking_after" = some (.ref (ga K "taking_after"))
  g_plan_after : mg "plan_after" = some (.ref (ga K "plan_after"))
  g_plan_may_end : mg "plan_may_end" = some (.ref (ga K "plan_may_end"))
  g_is_accepting : mg "is_accepting" = some (.ref (ga K "is_accepting"))
  g_kind_after : mg "kind_after" = some (.ref (ga K "kind_after"))
  gXlaw_farther : mg "_law_farther" = some (.ref (ga K "_law_farther"))
  gXlaw_taken : mg "_law_taken" = some (.ref (ga K "_law_taken"))
  gXlaw_taking : mg "_law_taking" = some (.ref (ga K "_law_taking"))
  gXlaw_stage : mg "_law_stage" = some (.ref (ga K "_law_stage"))
  gXlaw_after : mg "_law_after" = some (.ref (ga K "_law_after"))
  gXlaw_ends : mg "_law_ends" = some (.ref (ga K "_law_ends"))
  gXlaw_accepts : mg "_law_accepts" = some (.ref (ga K "_law_accepts"))
  gXlaw_foreign : mg "_law_foreign" = some (.ref (ga K "_law_foreign"))
  gXlaw_spring : mg "_law_spring" = some (.ref (ga K "_law_spring"))
  gXlaw_take : mg "_law_take" = some (.ref (ga K "_law_take"))
  gXlaw_kind : mg "_law_kind" = some (.ref (ga K "_law_kind"))
  gXlaw_plan : mg "_law_plan" = some (.ref (ga K "_law_plan"))
  gXlaw_layer : mg "_law_layer" = some (.ref (ga K "_law_layer"))
  gXlaw_fitting : mg "_law_fitting" = some (.ref (ga K "_law_fitting"))
  gXlaw_machine : mg "_law_machine" = some (.ref (ga K "_law_machine"))
  gXlaw_bent : mg "_law_bent" = some (.ref (ga K "_law_bent"))
  gXlaw_reaches : mg "_law_reaches" = some (.ref (ga K "_law_reaches"))
  gXlaw_takes_all : mg "_law_takes_all" = some (.ref (ga K "_law_takes_all"))
  gXlaw_has_none : mg "_law_has_none" = some (.ref (ga K "_law_has_none"))
  t_SIZES : TabOk K w mg "SIZES" DL.c_SIZES
  c_PLANS : GlobV K mg "PLANS" DL.c_PLANS
  mk_Part : Mk K (ga K "Part") (ma K (ga K "Part") "__init__")
  c_FIGURES : GlobV K mg "FIGURES" DL.c_FIGURES
  g_figure_at : mg "figure_at" = some (.ref (ga K "figure_at"))
  g_span_of : mg "span_of" = some (.ref (ga K "span_of"))
  g_part_of : mg "part_of" = some (.ref (ga K "part_of"))
  c_MOST_LAYERS : GlobV K mg "MOST_LAYERS" DL.c_MOST_LAYERS
  g_width_of : mg "width_of" = some (.ref (ga K "width_of"))
  c_MOST_WIDTH : GlobV K mg "MOST_WIDTH" DL.c_MOST_WIDTH
  g_first_wrong : mg "first_wrong" = some (.ref (ga K "first_wrong"))
  X_WrongRow_index : ExcK K mg 8606188017116213847 517097156201 (ga K "WrongRow") (ma K (ga K "WrongRow") "__init__")
  XI_WrongRow_index : InitOk P w K mg base (ma K (ga K "WrongRow") "__init__") (nameOf 517097156201)
  C_Program : ClsOk K mg 30787916450984528 (ga K "Program")
  n_Program_lines : NoAttr K (ga K "Program") "lines"
  mk_Program : Mk K (ga K "Program") (ma K (ga K "Program") "__init__")
  cm_Program_read : CmOk K mg 30787916450984528 (ga K "Program") "read" (He5.wf K (ga K "Program") "classmethod" "read")
  g_WrongRow : mg "WrongRow" = some (.ref (ga K "WrongRow"))
  XE_WrongRow : PySem.W.exmOne K (.ref (ga K "WrongRow")) (.ref (ga K "WrongRow")) = some true
  g_program_of : mg "program_of" = some (.ref (ga K "program_of"))
  p_Program_layers : PropOf K (ga K "Program") "layers" (ma K (ga K "Program") "layers") (He5.wf K (ga K "Program") "property" "layers")
  g_parts_of : mg "parts_of" = some (.ref (ga K "parts_of"))
  c_KINDS : GlobV K mg "KINDS" DL.c_KINDS
  c_ELEMENTS : GlobV K mg "ELEMENTS" DL.c_ELEMENTS
  g_is_integer : mg "is_integer" = some (.ref (ga K "is_integer"))
  g_is_within : mg "is_within" = some (.ref (ga K "is_within"))
  g_is_state : mg "is_state" = some (.ref (ga K "is_state"))
  g_is_machine : mg "is_machine" = some (.ref (ga K "is_machine"))
  g_are_machines : mg "are_machines" = some (.ref (ga K "are_machines"))
  g_is_reached : mg "is_reached" = some (.ref (ga K "is_reached"))
  g_holds_layer : mg "holds_layer" = some (.ref (ga K "holds_layer"))
  c_ALONE : GlobV K mg "ALONE" DL.c_ALONE
  g_holds_layers : mg "holds_layers" = some (.ref (ga K "holds_layers"))
  g_holds_none : mg "holds_none" = some (.ref (ga K "holds_none"))
  g_shows_never : mg "shows_never" = some (.ref (ga K "shows_never"))
  gXlaw_text : mg "_law_text" = some (.ref (ga K "_law_text"))
  g_accepts : mg "accepts" = some (.ref (ga K "accepts"))
  gXlaw_judged_right : mg "_law_judged_right" = some (.ref (ga K "_law_judged_right"))
  hP : tbs.P = P
  hw : tbs.w = w
variable {P : Program} {w : World} {K : PySem.W.Frag} {mg : Str → Option Value} {base : Heap}
theorem topOk {h : Heap} (X : K.In h) (G : h.Ns mainGlobals mg) (c : SaysM fa fb fn ts w K) (hP : tbs.P = P) (hw : tbs.w = w) : TopOk P w K mg base where
  bf := ⟨free_ok X G (c.fact 0 rfl), free_ok X G (c.fact 1 rfl), free_ok X G (c.fact 2 rfl), free_ok X G (c.fact 3 rfl), free_ok X G (c.fact 4 rfl), free_ok X G (c.fact 5 rfl), free_ok X G (c.fact 6 rfl), free_ok X G (c.fact 7 rfl), free_ok X G (c.fact 8 rfl), free_ok X G (c.fact 9 rfl), free_ok X G (c.fact 10 rfl), free_ok X G (c.fact 11 rfl), free_ok X G (c.fact 12 rfl), free_ok X G (c.fact 13 rfl), free_ok X G (c.fact 14 rfl), free_ok X G (c.fact 15 rfl), free_ok X G (c.fact 16 rfl), free_ok X G (c.fact 17 rfl), free_ok X G (c.fact 18 rfl), free_ok X G (c.fact 19 rfl), free_ok X G (c.fact 20 rfl)⟩
  d_machine_after := c.def_ 0 (d := d_machine_after) rfl
  d_took_itself := c.def_ 1 (d := d_took_itself) rfl
  d_began := c.def_ 2 (d := d_began) rfl
  d_farther := c.def_ 3 (d := d_farther) rfl
  d_is_right_distance := c.def_ 4 (d := d_is_right_distance) rfl
  d_taking_after := c.def_ 5 (d := d_taking_after) rfl
  d_plan_after := c.def_ 6 (d := d_plan_after) rfl
  d_plan_may_end := c.def_ 7 (d := d_plan_may_end) rfl
  d_is_accepting := c.def_ 8 (d := d_is_accepting) rfl
  d_kind_after := c.def_ 9 (d := d_kind_after) rfl
  d__law_farther := c.def_ 10 (d := d__law_farther) rfl
  d__law_taken := c.def_ 11 (d := d__law_taken) rfl
  d__law_taking := c.def_ 12 (d := d__law_taking) rfl
  d__law_stage := c.def_ 13 (d := d__law_stage) rfl
  d__law_after := c.def_ 14 (d := d__law_after) rfl
  d__law_ends := c.def_ 15 (d := d__law_ends) rfl
  d__law_accepts := c.def_ 16 (d := d__law_accepts) rfl
  d__law_foreign := c.def_ 17 (d := d__law_foreign) rfl
  d__law_spring := c.def_ 18 (d := d__law_spring) rfl
  d__law_take := c.def_ 19 (d := d__law_take) rfl
  d__law_kind := c.def_ 20 (d := d__law_kind) rfl
  d__law_plan := c.def_ 21 (d := d__law_plan) rfl
  d__law_layer := c.def_ 22 (d := d__law_layer) rfl
  d__law_fitting := c.def_ 23 (d := d__law_fitting) rfl
  d__law_bent := c.def_ 24 (d := d__law_bent) rfl
  d__law_machine := c.def_ 25 (d := d__law_machine) rfl
  d__law_reaches := c.def_ 26 (d := d__law_reaches) rfl
  d__law_takes_all := c.def_ 27 (d := d__law_takes_all) rfl
  d__law_has_none := c.def_ 28 (d := d__law_has_none) rfl
  d_PartX_initX := c.def_ 29 (d := d_PartX_initX) rfl
  d_figure_at := c.def_ 30 (d := d_figure_at) rfl
  d_span_of := c.def_ 31 (d := d_span_of) rfl
  d_part_of := c.def_ 32 (d := d_part_of) rfl
  d_width_of := c.def_ 33 (d := d_width_of) rfl
  d_first_wrong := c.def_ 34 (d := d_first_wrong) rfl
  d_ProgramX_initX := c.def_ 35 (d := d_ProgramX_initX) rfl
  d_Program_read := c.def_ 36 (d := d_Program_read) rfl
  d_program_of := c.def_ 37 (d := d_program_of) rfl
  d_Program_layers := c.def_ 38 (d := d_Program_layers) rfl
  d_parts_of := c.def_ 39 (d := d_parts_of) rfl
  d_is_integer := c.def_ 40 (d := d_is_integer) rfl
  d_is_within := c.def_ 41 (d := d_is_within) rfl
  d_is_state := c.def_ 42 (d := d_is_state) rfl
  d_is_machine := c.def_ 43 (d := d_is_machine) rfl
  d_are_machines := c.def_ 44 (d := d_are_machines) rfl
  d_is_reached := c.def_ 45 (d := d_is_reached) rfl
  d_holds_layer := c.def_ 46 (d := d_holds_layer) rfl
  d_holds_layers := c.def_ 47 (d := d_holds_layers) rfl
  d_holds_none := c.def_ 48 (d := d_holds_none) rfl
  d_shows_never := c.def_ 49 (d := d_shows_never) rfl
  d_accepts := c.def_ 50 (d := d_accepts) rfl
  d__law_text := c.def_ 51 (d := d__law_text) rfl
  d__law_judged_right := c.def_ 52 (d := d__law_judged_right) rfl
  d_law := c.def_ 53 (d := d_law) rfl
  g_machine_after := glo_ok X G (c.fact 21 rfl)
  C_Part := clsOk X G (by decide +kernel) (c.fact 22 rfl) (c.fact 23 rfl)
  n_Part_word := noat_ok (c.fact 24 rfl)
  n_Part_own := noat_ok (c.fact 25 rfl)
  n_Part_spare := noat_ok (c.fact 26 rfl)
  n_Part_way := noat_ok (c.fact 27 rfl)
  g_took_itself := glo_ok X G (c.fact 28 rfl)
  n_Part_scope := noat_ok (c.fact 29 rfl)
  g_began := glo_ok X G (c.fact 30 rfl)
  n_Part_number := noat_ok (c.fact 31 rfl)
  n_Part_every := noat_ok (c.fact 32 rfl)
  g_farther := glo_ok X G (c.fact 33 rfl)
  g_is_right_distance := glo_ok X G (c.fact 34 rfl)
  g_taking_after := glo_ok X G (c.fact 35 rfl)
  g_plan_after := glo_ok X G (c.fact 36 rfl)
  g_plan_may_end := glo_ok X G (c.fact 37 rfl)
  g_is_accepting := glo_ok X G (c.fact 38 rfl)
  g_kind_after := glo_ok X G (c.fact 39 rfl)
  gXlaw_farther := glo_ok X G (c.fact 40 rfl)
  gXlaw_taken := glo_ok X G (c.fact 41 rfl)
  gXlaw_taking := glo_ok X G (c.fact 42 rfl)
  gXlaw_stage := glo_ok X G (c.fact 43 rfl)
  gXlaw_after := glo_ok X G (c.fact 44 rfl)
  gXlaw_ends := glo_ok X G (c.fact 45 rfl)
  gXlaw_accepts := glo_ok X G (c.fact 46 rfl)
  gXlaw_foreign := glo_ok X G (c.fact 47 rfl)
  gXlaw_spring := glo_ok X G (c.fact 48 rfl)
  gXlaw_take := glo_ok X G (c.fact 49 rfl)
  gXlaw_kind := glo_ok X G (c.fact 50 rfl)
  gXlaw_plan := glo_ok X G (c.fact 51 rfl)
  gXlaw_layer := glo_ok X G (c.fact 52 rfl)
  gXlaw_fitting := glo_ok X G (c.fact 53 rfl)
  gXlaw_machine := glo_ok X G (c.fact 54 rfl)
  gXlaw_bent := glo_ok X G (c.fact 55 rfl)
  gXlaw_reaches := glo_ok X G (c.fact 56 rfl)
  gXlaw_takes_all := glo_ok X G (c.fact 57 rfl)
  gXlaw_has_none := glo_ok X G (c.fact 58 rfl)
  t_SIZES := tab_ok X G (c.fact 59 rfl) (c.more 0 rfl) (c.tab 0 (t := (fun K => ga K "SIZES", DL.c_SIZES.map fun q => mkS q.1)) rfl)
  c_PLANS := con_ok X G (c.more 1 rfl)
  mk_Part := mkr_ok (c.fact 60 rfl)
  c_FIGURES := con_ok X G (c.more 2 rfl)
  g_figure_at := glo_ok X G (c.fact 61 rfl)
  g_span_of := glo_ok X G (c.fact 62 rfl)
  g_part_of := glo_ok X G (c.fact 63 rfl)
  c_MOST_LAYERS := con_ok X G (c.more 3 rfl)
  g_width_of := glo_ok X G (c.fact 64 rfl)
  c_MOST_WIDTH := con_ok X G (c.more 4 rfl)
  g_first_wrong := glo_ok X G (c.fact 65 rfl)
  X_WrongRow_index := (excK_ok X G (f := 517097156201) (by decide +kernel) (c.fact 66 rfl) (c.more 5 rfl)).1
  XI_WrongRow_index := initOk_of (s0 := "self") (s1 := "index") (c.def_ 54 (d := d_WrongRow_init) rfl) ⟨rfl, rfl, rfl, by decide +kernel, rfl, by decide +kernel, by decide +kernel⟩ rfl rfl rfl (fun _ _ _ _ _ _ us hl => match us, hl with | [_, _], _ => rfl)
  C_Program := clsOk X G (by decide +kernel) (c.fact 67 rfl) (c.fact 68 rfl)
  n_Program_lines := noat_ok (c.fact 69 rfl)
  mk_Program := mkr_ok (c.fact 70 rfl)
  cm_Program_read := cm_ok X G (by decide +kernel) (c.fact 67 rfl) (c.more 6 rfl)
  g_WrongRow := glo_ok X G (c.fact 66 rfl)
  XE_WrongRow := (excK_ok (mg := mg) (c := 8606188017116213847) X G (f := 517097156201) (by decide +kernel) (c.fact 66 rfl) (c.more 5 rfl)).2
  g_program_of := glo_ok X G (c.fact 71 rfl)
  p_Program_layers := propB_ok (c.more 7 rfl)
  g_parts_of := glo_ok X G (c.fact 72 rfl)
  c_KINDS := con_ok X G (c.more 8 rfl)
  c_ELEMENTS := con_ok X G (c.more 9 rfl)
  g_is_integer := glo_ok X G (c.fact 73 rfl)
  g_is_within := glo_ok X G (c.fact 74 rfl)
  g_is_state := glo_ok X G (c.fact 75 rfl)
  g_is_machine := glo_ok X G (c.fact 76 rfl)
  g_are_machines := glo_ok X G (c.fact 77 rfl)
  g_is_reached := glo_ok X G (c.fact 78 rfl)
  g_holds_layer := glo_ok X G (c.fact 79 rfl)
  c_ALONE := con_ok X G (c.more 10 rfl)
  g_holds_layers := glo_ok X G (c.fact 80 rfl)
  g_holds_none := glo_ok X G (c.fact 81 rfl)
  g_shows_never := glo_ok X G (c.fact 82 rfl)
  gXlaw_text := glo_ok X G (c.fact 83 rfl)
  g_accepts := glo_ok X G (c.fact 84 rfl)
  gXlaw_judged_right := glo_ok X G (c.fact 85 rfl)
  hP := hP
  hw := hw
def sub (s : Stmt) (j : Nat) : Stmt := (defBody s).getD j (.Pass ⟨0, 0, 0, 0⟩)
def posS : Stmt → Pos
  | .FunctionDef _ _ _ _ _ _ _ _ _ p => p
  | _ => ⟨0, 0, 0, 0⟩
/-- the tables of the code objects -/
def nt : List Str := ["_law_takes_all", "_law_has_none", "holds_layer", "holds_none"]
def quals : List (Pos × Str) := [(posS (sub (top 64) 0), "holds_layer.<locals>.step"), (posS (sub (top 64) 1), "holds_layer.<locals>.is_wrong"), (posS (sub (top 66) 0), "holds_none.<locals>.step"), (posS (sub (top 66) 1), "holds_none.<locals>.is_wrong"), (posS (sub (top 96) 0), "_law_takes_all.<locals>._law_step"), (posS (sub (top 96) 1), "_law_takes_all.<locals>._law_wrong"), (posS (sub (top 97) 0), "_law_has_none.<locals>._law_step"), (posS (sub (top 97) 1), "_law_has_none.<locals>._law_wrong")]
def nm (l c : Nat) : Str := match quals.find? fun q => q.1.line == l && q.1.col == c with
  | some q => q.2
  | none => ""
structure TabH (K : PySem.W.Frag) (mg : Str → Option Value) (base : Heap) : Prop where
  at_ : ∀ x ∈ nt, ∃ c Pt, codeAt K (ga K x) = some c ∧ LamX.TabB base mg c Pt ∧ (Pt, nm) ∈ tbs.T
  all : ∀ p ∈ tbs.T, p.2 = nm
theorem G_machine_after (TT : ∀ TC : TabsC, TopOk (TC := TC) P w K mg base) : DefOk P w K mg base 1 (ga K "machine_after") ["machine", "state", "letter", "mark"] DL.f_machine_after := by
  have T := TT TC
  obtain ⟨fd, F⟩ := T.d_machine_after
  have hN : (["machine", "state", "letter", "mark"] : List Str).Nodup := by decide +kernel
  refine def_ok (N := ["machine", "state", "letter", "mark"]) (ps := ["machine", "state", "letter", "mark"]) (n := 4) F ⟨rfl, rfl, rfl, hN, rfl, by decide +kernel, by decide +kernel⟩ rfl (by decide) (fun _ _ _ _ _ _ us hl => match us, hl with | [_, _, _, _], _ => rfl) fun cdv A outer s H E hr => ?_
  have hu := hr.units
  have tk := takes_of (X := cxOf (L2.CX P w) P w K mg base ["machine", "state", "letter", "mark"] d_machine_after.qual (defScope (top 43)) (ga K "machine_after") cdv A outer s H E) (E := E) rfl rfl rfl rfl
  unfold DL.b_machine_after
  exact (ss_one (ss_ret (se_if (st_isN (sv 1)) se_non (se_ix (se_ix (sv 0) (sv 1)) (se_bin so_oAdd (se_bin so_oMul se_int (sv 2)) (sv 3))))))
theorem G_took_itself (TT : ∀ TC : TabsC, TopOk (TC := TC) P w K mg base) : DefOk P w K mg base 1 (ga K "took_itself") ["part", "letter"] DL.f_took_itself := by
  have T := TT TC
  obtain ⟨fd, F⟩ := T.d_took_itself
  have hN : (["part", "letter"] : List Str).Nodup := by decide +kernel
  refine def_ok (N := ["part", "letter"]) (ps := ["part", "letter"]) (n := 2) F ⟨rfl, rfl, rfl, hN, rfl, by decide +kernel, by decide +kernel⟩ rfl (by decide) (fun _ _ _ _ _ _ us hl => match us, hl with | [_, _], _ => rfl) fun cdv A outer s H E hr => ?_
  have hu := hr.units
  have tk := takes_of (X := cxOf (L2.CX P w) P w K mg base ["part", "letter"] d_took_itself.qual (defScope (top 47)) (ga K "took_itself") cdv A outer s H E) (E := E) rfl rfl rfl rfl
  unfold DL.b_took_itself
  exact (ss_cons (ss_if (st_cmp (so_cEq hu) (se_fld T.C_Part T.n_Part_word (by decide +kernel) (sv 0)) se_str) (ss_one (ss_ret (se_if (st_cmp (so_cEq hu) (sv 1) se_int) se_non (se_tup (sa_cons se_int (sa_cons se_int sa_nil)))))) ss_nil)
  (ss_cons (ss_if (st_pt (st_or (st_val (se_fld T.C_Part T.n_Part_own (by decide +kernel) (sv 0))) (st_or (st_pt (st_and (st_val (se_fld T.C_Part T.n_Part_spare (by decide +kernel) (sv 0))) (st_and1 (st_cmp (so_cEq hu) (sv 1) se_int)))) (st_or1 (st_pt (st_and (st_cmp (so_cEq hu) (se_fld T.C_Part T.n_Part_way (by decide +kernel) (sv 0)) se_str) (st_and1 (st_cmp (so_cEq hu) (sv 1) se_int)))))))) (ss_one (ss_ret (se_tup (sa_cons se_int (sa_cons se_int sa_nil))))) ss_nil)
  (ss_one (ss_ret (se_if (st_pt (st_and (st_cmp (so_cEq hu) (se_fld T.C_Part T.n_Part_way (by decide +kernel) (sv 0)) se_str) (st_and1 (st_cmp (so_cNe hu) (sv 1) se_int)))) (se_tup (sa_cons se_int (sa_cons se_int sa_nil))) se_non)))))
theorem G_began (TT : ∀ TC : TabsC, TopOk (TC := TC) P w K mg base) : DefOk P w K mg base 1 (ga K "began") ["part", "letter", "mark"] DL.f_began := by
  have T := TT TC
  obtain ⟨fd, F⟩ := T.d_began
  have hN : (["part", "letter", "mark", "waits"] : List Str).Nodup := by decide +kernel
  refine def_ok (N := ["part", "letter", "mark", "waits"]) (ps := ["part", "letter", "mark"]) (n := 4) F ⟨rfl, rfl, rfl, hN, rfl, by decide +kernel, by decide +kernel⟩ rfl (by decide) (fun _ _ _ _ _ _ us hl => match us, hl with | [_, _, _], _ => rfl) fun cdv A outer s H E hr => ?_
  have hu := hr.units
  have tk := takes_of (X := cxOf (L2.CX P w) P w K mg base ["part", "letter", "mark", "waits"] d_began.qual (defScope (top 48)) (ga K "began") cdv A outer s H E) (E := E) rfl rfl rfl rfl
  unfold DL.b_began
  exact (ss_cons (ss_if (st_pt (st_or (st_cmp (so_cEq hu) (se_fld T.C_Part T.n_Part_word (by decide +kernel) (sv 0)) se_str) (st_or1 (st_pt (st_and (st_cmp (so_cEq hu) (sv 1) se_int) (st_and1 (st_cmp (so_cEq hu) (se_fld T.C_Part T.n_Part_scope (by decide +kernel) (sv 0)) se_str))))))) (ss_one (ss_ret se_non)) ss_nil)
  (ss_cons (ss_if (st_cmp (so_cEq hu) (sv 2) se_int) (ss_cons (ss_asg (se_cmp (so_cIn hu) (se_fld T.C_Part T.n_Part_way (by decide +kernel) (sv 0)) (se_tup (sa_cons se_str (sa_cons se_str (sa_cons se_str (sa_cons se_str sa_nil)))))) (sg_name 3 hN))
  (ss_one (ss_ret (se_if (st_pt (st_and (st_val (sv 3)) (st_and1 (st_not (st_pt (st_and (st_val (se_fld T.C_Part T.n_Part_spare (by decide +kernel) (sv 0))) (st_and1 (st_cmp (so_cEq hu) (sv 1) se_int)))))))) (se_tup (sa_cons se_int (sa_cons se_int sa_nil))) se_non)))) ss_nil)
  (ss_cons (ss_if (st_pt (st_and (st_cmp (so_cEq hu) (sv 1) se_int) (st_and1 (st_cmp (so_cEq hu) (se_fld T.C_Part T.n_Part_scope (by decide +kernel) (sv 0)) se_str)))) (ss_one (ss_ret se_non)) ss_nil)
  (ss_one (ss_ret (se_if (st_pt (st_or (st_cmp (so_cIn hu) (se_fld T.C_Part T.n_Part_way (by decide +kernel) (sv 0)) (se_tup (sa_cons se_str (sa_cons se_str (sa_cons se_str sa_nil))))) (st_or1 (st_pt (st_and (st_cmp (so_cEq hu) (se_fld T.C_Part T.n_Part_way (by decide +kernel) (sv 0)) se_str) (st_and1 (st_cmp (so_cEq hu) (sv 1) se_int))))))) (se_tup (sa_cons se_int (sa_cons se_int sa_nil))) se_non))))))
theorem G_farther (TT : ∀ TC : TabsC, TopOk (TC := TC) P w K mg base) : DefOk P w K mg base 1 (ga K "farther") ["part", "gap"] DL.f_farther := by
  have T := TT TC
  obtain ⟨fd, F⟩ := T.d_farther
  have hN : (["part", "gap"] : List Str).Nodup := by decide +kernel
  refine def_ok (N := ["part", "gap"]) (ps := ["part", "gap"]) (n := 2) F ⟨rfl, rfl, rfl, hN, rfl, by decide +kernel, by decide +kernel⟩ rfl (by decide) (fun _ _ _ _ _ _ us hl => match us, hl with | [_, _], _ => rfl) fun cdv A outer s H E hr => ?_
  have hu := hr.units
  have tk := takes_of (X := cxOf (L2.CX P w) P w K mg base ["part", "gap"] d_farther.qual (defScope (top 49)) (ga K "farther") cdv A outer s H E) (E := E) rfl rfl rfl rfl
  unfold DL.b_farther
  exact (ss_cons (ss_if (st_cmp (so_cIn hu) (se_fld T.C_Part T.n_Part_way (by decide +kernel) (sv 0)) (se_tup (sa_cons se_str (sa_cons se_str sa_nil)))) (ss_one (ss_ret se_int)) ss_nil)
  (ss_cons (ss_if (st_cmp (so_cEq hu) (se_fld T.C_Part T.n_Part_number (by decide +kernel) (sv 0)) se_int) (ss_one (ss_ret (se_bin so_oMod (se_bin so_oAdd (sv 1) se_int) (se_fld T.C_Part T.n_Part_every (by decide +kernel) (sv 0))))) ss_nil)
  (ss_one (ss_ret (se_if (st_cmp so_cLt (sv 1) (se_fld T.C_Part T.n_Part_number (by decide +kernel) (sv 0))) (se_bin so_oAdd (sv 1) se_int) se_non)))))
theorem G_is_right_distance (TT : ∀ TC : TabsC, TopOk (TC := TC) P w K mg base) : DefOk P w K mg base 1 (ga K "is_right_distance") ["part", "gap"] DL.f_is_right_distance := by
  have T := TT TC
  obtain ⟨fd, F⟩ := T.d_is_right_distance
  have hN : (["part", "gap"] : List Str).Nodup := by decide +kernel
  refine def_ok (N := ["part", "gap"]) (ps := ["part", "gap"]) (n := 2) F ⟨rfl, rfl, rfl, hN, rfl, by decide +kernel, by decide +kernel⟩ rfl (by decide) (fun _ _ _ _ _ _ us hl => match us, hl with | [_, _], _ => rfl) fun cdv A outer s H E hr => ?_
  have hu := hr.units
  have tk := takes_of (X := cxOf (L2.CX P w) P w K mg base ["part", "gap"] d_is_right_distance.qual (defScope (top 50)) (ga K "is_right_distance") cdv A outer s H E) (E := E) rfl rfl rfl rfl
  unfold DL.b_is_right_distance
  exact (ss_one (ss_ret (se_if (st_cmp (so_cIn hu) (se_fld T.C_Part T.n_Part_way (by decide +kernel) (sv 0)) (se_tup (sa_cons se_str (sa_cons se_str sa_nil)))) (se_cmp (so_cEq hu) (sv 1) (se_fld T.C_Part T.n_Part_number (by decide +kernel) (sv 0))) (se_cmp (so_cEq hu) (se_bin so_oMod (sv 1) (se_fld T.C_Part T.n_Part_every (by decide +kernel) (sv 0))) se_int))))
theorem G_taking_after (TT : ∀ TC : TabsC, TopOk (TC := TC) P w K mg base) : DefOk P w K mg base 2 (ga K "taking_after") ["part", "state", "letter", "mark"] DL.f_taking_after := by
  have T := TT TC
  obtain ⟨fd, F⟩ := T.d_taking_after
  have hN : (["part", "state", "letter", "mark", "phase", "gap", "longer"] : List Str).Nodup := by decide +kernel
  refine def_ok (N := ["part", "state", "letter", "mark", "phase", "gap", "longer"]) (ps := ["part", "state", "letter", "mark"]) (n := 7) F ⟨rfl, rfl, rfl, hN, rfl, by decide +kernel, by decide +kernel⟩ rfl (by decide) (fun _ _ _ _ _ _ us hl => match us, hl with | [_, _, _, _], _ => rfl) fun cdv A outer s H E hr => ?_
  have hu := hr.units
  have tk := takes_of (X := cxOf (L2.CX P w) P w K mg base ["part", "state", "letter", "mark", "phase", "gap", "longer"] d_taking_after.qual (defScope (top 51)) (ga K "taking_after") cdv A outer s H E) (E := E) rfl rfl rfl rfl
  unfold DL.b_taking_after
  exact (ss_cons (ss_asg (sv 1) (sg_tup rfl (sgs_cons (sg_name 4 hN) (sgs_cons (sg_name 5 hN) sgs_nil))))
  (ss_cons (ss_if (st_cmp so_cGt (sv 4) se_int) (ss_one (ss_ret (se_if (st_pt (st_and (st_cmp (so_cEq hu) (sv 3) se_int) (st_and1 (st_not (st_pt (st_and (st_cmp (so_cEq hu) (sv 4) se_int) (st_and1 (st_cmp (so_cEq hu) (sv 2) se_int)))))))) (se_tup (sa_cons se_int (sa_cons se_int sa_nil))) se_non))) ss_nil)
  (ss_cons (ss_if (st_cmp (so_cEq hu) (sv 4) se_int) (ss_cons (ss_if (st_cmp (so_cEq hu) (sv 3) se_int) (ss_one (ss_ret (se_call ((G_took_itself TT).mono (by decide)) rfl T.g_took_itself hr tk (sa_cons (sv 0) (sa_cons (sv 2) sa_nil))))) ss_nil)
  (ss_one (ss_ret (se_if (st_cmp (so_cEq hu) (sv 3) se_int) (sv 1) (se_call ((G_began TT).mono (by decide)) rfl T.g_began hr tk (sa_cons (sv 0) (sa_cons (sv 2) (sa_cons (sv 3) sa_nil)))))))) ss_nil)
  (ss_cons (ss_asg (se_call ((G_farther TT).mono (by decide)) rfl T.g_farther hr tk (sa_cons (sv 0) (sa_cons (sv 5) sa_nil))) (sg_name 6 hN))
  (ss_cons (ss_if (st_pt (st_or (st_isN (sv 6)) (st_or1 (st_pt (st_and (st_cmp (so_cEq hu) (se_fld T.C_Part T.n_Part_scope (by decide +kernel) (sv 0)) se_str) (st_and1 (st_cmp (so_cNe hu) (sv 2) se_int))))))) (ss_one (ss_ret se_non)) ss_nil)
  (ss_cons (ss_if (st_cmp (so_cEq hu) (sv 3) se_int) (ss_one (ss_ret (se_tup (sa_cons (sv 4) (sa_cons (sv 6) sa_nil))))) ss_nil)
  (ss_cons (ss_if (st_pt (st_or (st_cmp (so_cNe hu) (sv 3) (se_bin so_oSub se_int (sv 4))) (st_or1 (st_not (st_val (se_call ((G_is_right_distance TT).mono (by decide)) rfl T.g_is_right_distance hr tk (sa_cons (sv 0) (sa_cons (sv 6) sa_nil)))))))) (ss_one (ss_ret se_non)) ss_nil)
  (ss_cons (ss_if (st_pt (st_and (st_cmp (so_cEq hu) (sv 2) se_int) (st_and1 (st_ifE (st_cmp (so_cEq hu) (sv 3) se_int) (st_cmp (so_cEq hu) (se_fld T.C_Part T.n_Part_scope (by decide +kernel) (sv 0)) se_str) (st_val (se_fld T.C_Part T.n_Part_spare (by decide +kernel) (sv 0))))))) (ss_one (ss_ret se_non)) ss_nil)
  (ss_one (ss_ret (se_if (st_cmp (so_cEq hu) (se_fld T.C_Part T.n_Part_way (by decide +kernel) (sv 0)) se_str) (se_tup (sa_cons se_int (sa_cons se_int sa_nil))) (se_tup (sa_cons se_int (sa_cons se_int sa_nil))))))))))))))
theorem G_plan_after (TT : ∀ TC : TabsC, TopOk (TC := TC) P w K mg base) : DefOk P w K mg base 1 (ga K "plan_after") ["plan", "stage", "letter"] DL.f_plan_after := by
  have T := TT TC
  obtain ⟨fd, F⟩ := T.d_plan_after
  have hN : (["plan", "stage", "letter"] : List Str).Nodup := by decide +kernel
  refine def_ok (N := ["plan", "stage", "letter"]) (ps := ["plan", "stage", "letter"]) (n := 3) F ⟨rfl, rfl, rfl, hN, rfl, by decide +kernel, by decide +kernel⟩ rfl (by decide) (fun _ _ _ _ _ _ us hl => match us, hl with | [_, _, _], _ => rfl) fun cdv A outer s H E hr => ?_
  have hu := hr.units
  have tk := takes_of (X := cxOf (L2.CX P w) P w K mg base ["plan", "stage", "letter"] d_plan_after.qual (defScope (top 45)) (ga K "plan_after") cdv A outer s H E) (E := E) rfl rfl rfl rfl
  unfold DL.b_plan_after
  exact (ss_cons (ss_if (st_cmp (so_cEq hu) (sv 2) se_int) (ss_one (ss_ret (se_if (st_cmp (so_cEq hu) (sv 1) se_int) se_int se_non))) ss_nil)
  (ss_cons (ss_if (st_cmp (so_cEq hu) (sv 2) se_int) (ss_cons (ss_if (st_pt (st_or (st_pt (st_and (st_cmp (so_cEq hu) (sv 1) se_int) (st_and1 (st_cmp (so_cIn hu) (sv 0) (se_tup (sa_cons se_str (sa_cons se_str sa_nil))))))) (st_or1 (st_pt (st_and (st_cmp (so_cEq hu) (sv 1) se_int) (st_and1 (st_cmp (so_cNe hu) (sv 0) se_str))))))) (ss_one (ss_ret se_non)) ss_nil)
  (ss_one (ss_ret se_int))) ss_nil)
  (ss_cons (ss_if (st_cmp so_cLt (sv 1) se_int) (ss_one (ss_ret (se_if (st_pt (st_or (st_cmp (so_cEq hu) (sv 1) se_int) (st_or1 (st_cmp (so_cIn hu) (sv 0) (se_tup (sa_cons se_str (sa_cons se_str sa_nil))))))) se_int se_non))) ss_nil)
  (ss_one (ss_ret (se_if (st_pt (st_or (st_cmp (so_cEq hu) (sv 1) se_int) (st_or1 (st_cmp (so_cIn hu) (sv 0) (se_tup (sa_cons se_str (sa_cons se_str (sa_cons se_str sa_nil)))))))) se_int se_non))))))
theorem G_plan_may_end (TT : ∀ TC : TabsC, TopOk (TC := TC) P w K mg base) : DefOk P w K mg base 1 (ga K "plan_may_end") ["plan", "stage"] DL.f_plan_may_end := by
  have T := TT TC
  obtain ⟨fd, F⟩ := T.d_plan_may_end
  have hN : (["plan", "stage"] : List Str).Nodup := by decide +kernel
  refine def_ok (N := ["plan", "stage"]) (ps := ["plan", "stage"]) (n := 2) F ⟨rfl, rfl, rfl, hN, rfl, by decide +kernel, by decide +kernel⟩ rfl (by decide) (fun _ _ _ _ _ _ us hl => match us, hl with | [_, _], _ => rfl) fun cdv A outer s H E hr => ?_
  have hu := hr.units
  have tk := takes_of (X := cxOf (L2.CX P w) P w K mg base ["plan", "stage"] d_plan_may_end.qual (defScope (top 46)) (ga K "plan_may_end") cdv A outer s H E) (E := E) rfl rfl rfl rfl
  unfold DL.b_plan_may_end
  exact (ss_one (ss_ret (se_or (se_cmp so_cGt (sv 1) se_int) (se_one (se_and (se_cmp (so_cEq hu) (sv 1) se_int) (se_one (se_cmp (so_cEq hu) (sv 0) se_str)))))))
theorem G_is_accepting (TT : ∀ TC : TabsC, TopOk (TC := TC) P w K mg base) : DefOk P w K mg base 1 (ga K "is_accepting") ["machine", "state"] DL.f_is_accepting := by
  have T := TT TC
  obtain ⟨fd, F⟩ := T.d_is_accepting
  have hN : (["machine", "state"] : List Str).Nodup := by decide +kernel
  refine def_ok (N := ["machine", "state"]) (ps := ["machine", "state"]) (n := 2) F ⟨rfl, rfl, rfl, hN, rfl, by decide +kernel, by decide +kernel⟩ rfl (by decide) (fun _ _ _ _ _ _ us hl => match us, hl with | [_, _], _ => rfl) fun cdv A outer s H E hr => ?_
  have hu := hr.units
  have tk := takes_of (X := cxOf (L2.CX P w) P w K mg base ["machine", "state"] d_is_accepting.qual (defScope (top 44)) (ga K "is_accepting") cdv A outer s H E) (E := E) rfl rfl rfl rfl
  unfold DL.b_is_accepting
  exact (ss_one (ss_ret (se_and (se_notN (sv 1)) (se_one (se_ix (se_ix (sv 0) (sv 1)) (se_neg se_int))))))
theorem G_kind_after (TT : ∀ TC : TabsC, TopOk (TC := TC) P w K mg base) : DefOk P w K mg base 1 (ga K "kind_after") ["kind", "state", "letter", "mark"] DL.f_kind_after := by
  have T := TT TC
  obtain ⟨fd, F⟩ := T.d_kind_after
  have hN : (["kind", "state", "letter", "mark", "phase", "joined", "still"] : List Str).Nodup := by decide +kernel
  refine def_ok (N := ["kind", "state", "letter", "mark", "phase", "joined", "still"]) (ps := ["kind", "state", "letter", "mark"]) (n := 7) F ⟨rfl, rfl, rfl, hN, rfl, by decide +kernel, by decide +kernel⟩ rfl (by decide) (fun _ _ _ _ _ _ us hl => match us, hl with | [_, _, _, _], _ => rfl) fun cdv A outer s H E hr => ?_
  have hu := hr.units
  have tk := takes_of (X := cxOf (L2.CX P w) P w K mg base ["kind", "state", "letter", "mark", "phase", "joined", "still"] d_kind_after.qual (defScope (top 52)) (ga K "kind_after") cdv A outer s H E) (E := E) rfl rfl rfl rfl
  unfold DL.b_kind_after
  exact (ss_cons (ss_asg (sv 1) (sg_tup rfl (sgs_cons (sg_name 4 hN) (sgs_cons (sg_name 5 hN) sgs_nil))))
  (ss_cons (ss_asg (se_and (sv 5) (se_one (se_cmp (so_cEq hu) (sv 2) se_int))) (sg_name 6 hN))
  (ss_cons (ss_if (st_cmp (so_cEq hu) (sv 3) se_int) (ss_one (ss_ret (se_tup (sa_cons (sv 4) (sa_cons (se_and (sv 6) (se_one (se_cmp (so_cIn hu) (sv 4) (se_tup (sa_cons se_int (sa_cons se_int sa_nil)))))) sa_nil))))) ss_nil)
  (ss_cons (ss_if (st_pt (st_or (st_cmp (so_cEq hu) (sv 3) se_int) (st_or (st_cmp (so_cEq hu) (sv 4) se_int) (st_or (st_cmp (so_cEq hu) (sv 4) (sv 3)) (st_or1 (st_pt (st_and (st_cmp (so_cEq hu) (sv 3) se_int) (st_and1 (st_cmp (so_cEq hu) (sv 2) se_int))))))))) (ss_one (ss_ret se_non)) ss_nil)
  (ss_cons (ss_if (st_pt (st_and (st_cmp (so_cEq hu) (sv 3) se_int) (st_and1 (st_pt (st_or (st_pt (st_and (st_cmp (so_cEq hu) (sv 0) se_str) (st_and1 (st_cmp (so_cNe hu) (sv 2) se_int)))) (st_or1 (st_pt (st_and (st_cmp (so_cIn hu) (sv 0) (se_tup (sa_cons se_str (sa_cons se_str sa_nil)))) (st_and1 (st_cmp (so_cEq hu) (sv 2) se_int)))))))))) (ss_one (ss_ret se_non)) ss_nil)
  (ss_cons (ss_if (st_cmp (so_cEq hu) (sv 4) se_int) (ss_one (ss_ret (se_if (st_cmp (so_cEq hu) (sv 0) (se_if (st_cmp (so_cEq hu) (sv 3) se_int) se_str se_str)) se_non (se_tup (sa_cons (sv 3) (sa_cons (se_cmp (so_cNe hu) (sv 2) se_int) sa_nil)))))) ss_nil)
  (ss_cons (ss_if (st_cmp (so_cIn hu) (sv 0) (se_tup (sa_cons se_str (sa_cons se_str sa_nil)))) (ss_one (ss_ret (se_if (st_val (sv 6)) (se_tup (sa_cons se_int (sa_cons se_bl sa_nil))) se_non))) ss_nil)
  (ss_one (ss_ret (se_if (st_val (sv 6)) se_non (se_tup (sa_cons se_int (sa_cons se_bl sa_nil)))))))))))))
theorem G__law_farther (TT : ∀ TC : TabsC, TopOk (TC := TC) P w K mg base) : DefOk P w K mg base 1 (ga K "_law_farther") ["layer", "gap"] DL.f__law_farther := by
  have T := TT TC
  obtain ⟨fd, F⟩ := T.d__law_farther
  have hN : (["layer", "gap", "way", "number", "every"] : List Str).Nodup := by decide +kernel
  refine def_ok (N := ["layer", "gap", "way", "number", "every"]) (ps := ["layer", "gap"]) (n := 5) F ⟨rfl, rfl, rfl, hN, rfl, by decide +kernel, by decide +kernel⟩ rfl (by decide) (fun _ _ _ _ _ _ us hl => match us, hl with | [_, _], _ => rfl) fun cdv A outer s H E hr => ?_
  have hu := hr.units
  have tk := takes_of (X := cxOf (L2.CX P w) P w K mg base ["layer", "gap", "way", "number", "every"] d__law_farther.qual (defScope (top 86)) (ga K "_law_farther") cdv A outer s H E) (E := E) rfl rfl rfl rfl
  unfold DL.b__law_farther
  exact (ss_cons (ss_asg (se_slice (sv 0) (so_some se_int) (so_some se_int)) (sg_tup rfl (sgs_cons (sg_name 2 hN) (sgs_cons (sg_name 3 hN) (sgs_cons (sg_name 4 hN) sgs_nil)))))
  (ss_cons (ss_if (st_pt (st_or (st_cmp (so_cEq hu) (se_ix (sv 0) se_int) se_str) (st_or1 (st_cmp (so_cIn hu) (sv 2) (se_lst (sa_cons se_str (sa_cons se_str sa_nil))))))) (ss_one (ss_ret se_int)) ss_nil)
  (ss_cons (ss_if (st_cmp so_cGt (sv 3) se_int) (ss_one (ss_ret (se_if (st_cmp so_cLt (sv 1) (sv 3)) (se_bin so_oAdd (sv 1) se_int) se_int))) ss_nil)
  (ss_one (ss_ret (se_if (st_cmp so_cLt (sv 1) (sv 4)) (se_bin so_oAdd (sv 1) se_int) se_int))))))
theorem G__law_taken (TT : ∀ TC : TabsC, TopOk (TC := TC) P w K mg base) : DefOk P w K mg base 1 (ga K "_law_taken") ["layer", "mine", "its", "far", "joined"] DL.f__law_taken := by
  have T := TT TC
  obtain ⟨fd, F⟩ := T.d__law_taken
  have hN : (["layer", "mine", "its", "far", "joined", "word", "scope", "way", "number", "every", "own", "spare"] : List Str).Nodup := by decide +kernel
  refine def_ok (N := ["layer", "mine", "its", "far", "joined", "word", "scope", "way", "number", "every", "own", "spare"]) (ps := ["layer", "mine", "its", "far", "joined"]) (n := 12) F ⟨rfl, rfl, rfl, hN, rfl, by decide +kernel, by decide +kernel⟩ rfl (by decide) (fun _ _ _ _ _ _ us hl => match us, hl with | [_, _, _, _, _], _ => rfl) fun cdv A outer s H E hr => ?_
  have hu := hr.units
  have tk := takes_of (X := cxOf (L2.CX P w) P w K mg base ["layer", "mine", "its", "far", "joined", "word", "scope", "way", "number", "every", "own", "spare"] d__law_taken.qual (defScope (top 87)) (ga K "_law_taken") cdv A outer s H E) (E := E) rfl rfl rfl rfl
  unfold DL.b__law_taken
  exact (ss_cons (ss_asg (sv 0) (sg_tup rfl (sgs_cons (sg_name 5 hN) (sgs_cons (sg_name 6 hN) (sgs_cons (sg_name 7 hN) (sgs_cons (sg_name 8 hN) (sgs_cons (sg_name 9 hN) (sgs_cons (sg_name 10 hN) (sgs_cons (sg_name 11 hN) sgs_nil)))))))))
  (ss_cons (ss_if (st_pt (st_or (st_cmp (so_cEq hu) (sv 5) se_str) (st_or1 (st_pt (st_and (st_val (sv 11)) (st_and1 (st_cmp (so_cEq hu) (sv 1) se_int))))))) (ss_one (ss_ret (se_and (se_cmp (so_cEq hu) (sv 3) se_int) (se_one (se_or (se_cmp (so_cNe hu) (sv 5) se_str) (se_one (se_cmp (so_cNe hu) (sv 1) se_int))))))) ss_nil)
  (ss_cons (ss_if (st_pt (st_and (st_val (sv 10)) (st_and1 (st_cmp (so_cEq hu) (sv 3) se_int)))) (ss_one (ss_ret se_bl)) ss_nil)
  (ss_cons (ss_if (st_pt (st_or (st_pt (st_and (st_cmp (so_cEq hu) (sv 6) se_str) (st_and1 (st_not (st_val (sv 4)))))) (st_or1 (st_pt (st_and (st_cmp (so_cEq hu) (sv 6) se_str) (st_and1 (st_cmp (so_cEq hu) (sv 2) se_int))))))) (ss_one (ss_ret se_bl)) ss_nil)
  (ss_cons (ss_if (st_cmp (so_cIn hu) (sv 7) (se_lst (sa_cons se_str (sa_cons se_str sa_nil)))) (ss_one (ss_ret (se_if (st_cmp (so_cEq hu) (sv 7) se_str) (se_cmp (so_cEq hu) (sv 2) se_int) (se_cmp so_cGe (sv 3) se_int)))) ss_nil)
  (ss_cons (ss_if (st_cmp (so_cIn hu) (sv 7) (se_lst (sa_cons se_str (sa_cons se_str sa_nil)))) (ss_one (ss_ret (se_cmp (so_cEq hu) (sv 3) (se_if (st_cmp (so_cEq hu) (sv 7) se_str) (sv 8) (se_neg (sv 8)))))) ss_nil)
  (ss_cons (ss_if (st_pt (st_or (st_cmp (so_cEq hu) (sv 3) se_int) (st_or (st_pt (st_and (st_cmp (so_cEq hu) (sv 7) se_str) (st_and1 (st_cmp so_cGt (sv 3) se_int)))) (st_or1 (st_pt (st_and (st_cmp (so_cEq hu) (sv 7) se_str) (st_and1 (st_cmp so_cLt (sv 3) se_int)))))))) (ss_one (ss_ret se_bl)) ss_nil)
  (ss_one (ss_ret (se_cmp (so_cEq hu) (se_bin so_oMod (se_ty sb_int T.bf.int boot_int rfl (sa_cons (se_b sb_abs T.bf.abs boot_abs rfl (sa_cons (sv 3) sa_nil)) sa_nil)) (sv 9)) se_int))))))))))
theorem G__law_taking (TT : ∀ TC : TabsC, TopOk (TC := TC) P w K mg base) : DefOk P w K mg base 2 (ga K "_law_taking") ["layer", "state", "letter", "mark"] DL.f__law_taking := by
  have T := TT TC
  obtain ⟨fd, F⟩ := T.d__law_taking
  have hN : (["layer", "state", "letter", "mark", "met", "gap", "joined", "first", "far", "mine", "its", "itself"] : List Str).Nodup := by decide +kernel
  refine def_ok (N := ["layer", "state", "letter", "mark", "met", "gap", "joined", "first", "far", "mine", "its", "itself"]) (ps := ["layer", "state", "letter", "mark"]) (n := 12) F ⟨rfl, rfl, rfl, hN, rfl, by decide +kernel, by decide +kernel⟩ rfl (by decide) (fun _ _ _ _ _ _ us hl => match us, hl with | [_, _, _, _], _ => rfl) fun cdv A outer s H E hr => ?_
  have hu := hr.units
  have tk := takes_of (X := cxOf (L2.CX P w) P w K mg base ["layer", "state", "letter", "mark", "met", "gap", "joined", "first", "far", "mine", "its", "itself"] d__law_taking.qual (defScope (top 88)) (ga K "_law_taking") cdv A outer s H E) (E := E) rfl rfl rfl rfl
  unfold DL.b__law_taking
  exact (ss_cons (ss_asg (sv 1) (sg_tup rfl (sgs_cons (sg_name 4 hN) (sgs_cons (sg_name 5 hN) (sgs_cons (sg_name 6 hN) (sgs_cons (sg_name 7 hN) sgs_nil))))))
  (ss_cons (ss_if (st_cmp so_cGt (sv 4) se_int) (ss_one (ss_ret (se_if (st_pt (st_and (st_cmp (so_cEq hu) (sv 3) se_int) (st_and1 (st_pt (st_or (st_cmp (so_cEq hu) (sv 4) se_int) (st_or1 (st_cmp (so_cNe hu) (sv 2) se_int))))))) (se_tup (sa_cons se_int (sa_cons se_int (sa_cons se_bl (sa_cons se_int sa_nil))))) (se_tup sa_nil)))) ss_nil)
  (ss_cons (ss_if (st_pt (st_and (st_cmp (so_cEq hu) (sv 4) se_int) (st_and1 (st_cmp so_cLt (sv 3) se_int)))) (ss_one (ss_ret (se_if (st_cmp (so_cEq hu) (sv 3) se_int) (sv 1) (se_tup (sa_cons (sv 3) (sa_cons se_int (sa_cons (se_cmp (so_cNe hu) (sv 2) se_int) (sa_cons (sv 2) sa_nil)))))))) ss_nil)
  (ss_cons (by first | exact (ss_par2 rfl (sa_cons se_int (sa_cons (se_and (se_cmp (so_cNe hu) (sv 2) se_int) (se_one (se_or (se_cmp (so_cEq hu) (sv 4) se_int) (se_one (se_and (sv 6) (se_one (se_cmp (so_cEq hu) (sv 2) se_int))))))) sa_nil)) hN rfl rfl (by decide) rfl rfl rfl rfl) | exact (ss_asg (se_tup (sa_cons se_int (sa_cons (se_and (se_cmp (so_cNe hu) (sv 2) se_int) (se_one (se_or (se_cmp (so_cEq hu) (sv 4) se_int) (se_one (se_and (sv 6) (se_one (se_cmp (so_cEq hu) (sv 2) se_int))))))) sa_nil))) (sg_tup rfl (sgs_cons (sg_name 8 hN) (sgs_cons (sg_name 6 hN) sgs_nil)))))
  (ss_cons (ss_if (st_cmp so_cGt (sv 4) se_int) (ss_cons (ss_asg (se_call ((G__law_farther TT).mono (by decide)) rfl T.gXlaw_farther hr tk (sa_cons (sv 0) (sa_cons (sv 5) sa_nil))) (sg_name 8 hN))
  (ss_cons (ss_if (st_pt (st_or (st_cmp (so_cEq hu) (sv 8) se_int) (st_or1 (st_pt (st_and (st_cmp (so_cNe hu) (sv 3) se_int) (st_and1 (st_cmp (so_cNe hu) (sv 3) (se_bin so_oSub se_int (sv 4))))))))) (ss_one (ss_ret (se_tup sa_nil))) ss_nil)
  (ss_one (ss_if (st_cmp (so_cEq hu) (sv 3) se_int) (ss_one (ss_ret (se_tup (sa_cons (sv 4) (sa_cons (sv 8) (sa_cons (sv 6) (sa_cons (sv 7) sa_nil))))))) ss_nil)))) ss_nil)
  (ss_cons (ss_asg (se_if (st_cmp (so_cEq hu) (sv 4) se_int) (se_tup (sa_cons (sv 2) (sa_cons (sv 2) sa_nil))) (se_if (st_cmp (so_cEq hu) (sv 4) se_int) (se_tup (sa_cons (sv 7) (sa_cons (sv 2) sa_nil))) (se_tup (sa_cons (sv 2) (sa_cons (sv 7) sa_nil))))) (sg_tup rfl (sgs_cons (sg_name 9 hN) (sgs_cons (sg_name 10 hN) sgs_nil))))
  (ss_cons (ss_if (st_not (st_val (se_call ((G__law_taken TT).mono (by decide)) rfl T.gXlaw_taken hr tk (sa_cons (sv 0) (sa_cons (sv 9) (sa_cons (sv 10) (sa_cons (se_if (st_cmp (so_cEq hu) (sv 4) se_int) (sv 8) (se_neg (sv 8))) (sa_cons (sv 6) sa_nil)))))))) (ss_one (ss_ret (se_tup sa_nil))) ss_nil)
  (ss_cons (ss_asg (se_and (se_cmp (so_cEq hu) (sv 8) se_int) (se_one (se_ix (sv 0) se_int))) (sg_name 11 hN))
  (ss_one (ss_ret (se_tup (sa_cons (se_if (st_pt (st_and (st_cmp (so_cEq hu) (se_ix (sv 0) se_int) se_str) (st_and (st_cmp (so_cNe hu) (sv 9) se_int) (st_and1 (st_not (st_val (sv 11))))))) se_int se_int) (sa_cons se_int (sa_cons se_bl (sa_cons se_int sa_nil)))))))))))))))
theorem G__law_stage (TT : ∀ TC : TabsC, TopOk (TC := TC) P w K mg base) : DefOk P w K mg base 1 (ga K "_law_stage") ["laid", "stage", "letter"] DL.f__law_stage := by
  have T := TT TC
  obtain ⟨fd, F⟩ := T.d__law_stage
  have hN : (["laid", "stage", "letter", "right"] : List Str).Nodup := by decide +kernel
  refine def_ok (N := ["laid", "stage", "letter", "right"]) (ps := ["laid", "stage", "letter"]) (n := 4) F ⟨rfl, rfl, rfl, hN, rfl, by decide +kernel, by decide +kernel⟩ rfl (by decide) (fun _ _ _ _ _ _ us hl => match us, hl with | [_, _, _], _ => rfl) fun cdv A outer s H E hr => ?_
  have hu := hr.units
  have tk := takes_of (X := cxOf (L2.CX P w) P w K mg base ["laid", "stage", "letter", "right"] d__law_stage.qual (defScope (top 84)) (ga K "_law_stage") cdv A outer s H E) (E := E) rfl rfl rfl rfl
  unfold DL.b__law_stage
  exact (ss_cons (ss_if (st_cmp (so_cEq hu) (sv 2) se_int) (ss_one (ss_ret (se_if (st_cmp (so_cEq hu) (sv 1) se_int) se_int (se_neg se_int)))) ss_nil)
  (ss_cons (ss_if (st_cmp (so_cEq hu) (sv 2) se_int) (ss_cons (ss_asg (se_ix (se_lst (sa_cons se_bl (sa_cons (se_cmp (so_cIn hu) (sv 0) (se_lst (sa_cons se_str (sa_cons se_str (sa_cons se_str sa_nil))))) (sa_cons (se_cmp (so_cIn hu) (sv 0) (se_lst (sa_cons se_str (sa_cons se_str sa_nil)))) sa_nil)))) (sv 1)) (sg_name 3 hN))
  (ss_one (ss_ret (se_if (st_val (sv 3)) se_int (se_neg se_int))))) ss_nil)
  (ss_one (ss_ret (se_if (st_val (se_ix (se_lst (sa_cons (se_cmp (so_cIn hu) (sv 0) (se_lst (sa_cons se_str (sa_cons se_str sa_nil)))) (sa_cons (se_cmp (so_cIn hu) (sv 0) (se_lst (sa_cons se_str (sa_cons se_str (sa_cons se_str sa_nil))))) (sa_cons se_bl sa_nil)))) (sv 1))) se_int (se_neg se_int))))))
theorem G__law_after (TT : ∀ TC : TabsC, TopOk (TC := TC) P w K mg base) : DefOk P w K mg base 1 (ga K "_law_after") ["machine", "state", "letter", "mark"] DL.f__law_after := by
  have T := TT TC
  obtain ⟨fd, F⟩ := T.d__law_after
  have hN : (["machine", "state", "letter", "mark", "later"] : List Str).Nodup := by decide +kernel
  refine def_ok (N := ["machine", "state", "letter", "mark", "later"]) (ps := ["machine", "state", "letter", "mark"]) (n := 5) F ⟨rfl, rfl, rfl, hN, rfl, by decide +kernel, by decide +kernel⟩ rfl (by decide) (fun _ _ _ _ _ _ us hl => match us, hl with | [_, _, _, _], _ => rfl) fun cdv A outer s H E hr => ?_
  have hu := hr.units
  have tk := takes_of (X := cxOf (L2.CX P w) P w K mg base ["machine", "state", "letter", "mark", "later"] d__law_after.qual (defScope (top 91)) (ga K "_law_after") cdv A outer s H E) (E := E) rfl rfl rfl rfl
  unfold DL.b__law_after
  exact (ss_cons (ss_asg (se_if (st_cmp so_cGe (sv 1) se_int) (se_ix (se_ix (sv 0) (sv 1)) (se_bin so_oAdd (se_bin so_oMul se_int (sv 2)) (sv 3))) se_non) (sg_name 4 hN))
  (ss_one (ss_ret (se_if (st_isN (sv 4)) (se_neg se_int) (sv 4)))))
theorem G__law_ends (TT : ∀ TC : TabsC, TopOk (TC := TC) P w K mg base) : DefOk P w K mg base 1 (ga K "_law_ends") ["laid", "stage"] DL.f__law_ends := by
  have T := TT TC
  obtain ⟨fd, F⟩ := T.d__law_ends
  have hN : (["laid", "stage"] : List Str).Nodup := by decide +kernel
  refine def_ok (N := ["laid", "stage"]) (ps := ["laid", "stage"]) (n := 2) F ⟨rfl, rfl, rfl, hN, rfl, by decide +kernel, by decide +kernel⟩ rfl (by decide) (fun _ _ _ _ _ _ us hl => match us, hl with | [_, _], _ => rfl) fun cdv A outer s H E hr => ?_
  have hu := hr.units
  have tk := takes_of (X := cxOf (L2.CX P w) P w K mg base ["laid", "stage"] d__law_ends.qual (defScope (top 85)) (ga K "_law_ends") cdv A outer s H E) (E := E) rfl rfl rfl rfl
  unfold DL.b__law_ends
  exact (ss_one (ss_ret (se_or (se_cmp (so_cEq hu) (sv 1) se_int) (se_one (se_and (se_cmp (so_cEq hu) (sv 1) se_int) (se_one (se_cmp (so_cIn hu) (sv 0) (se_lst (sa_cons se_str (sa_cons se_str (sa_cons se_str sa_nil)))))))))))
theorem G__law_accepts (TT : ∀ TC : TabsC, TopOk (TC := TC) P w K mg base) : DefOk P w K mg base 1 (ga K "_law_accepts") ["machine", "state"] DL.f__law_accepts := by
  have T := TT TC
  obtain ⟨fd, F⟩ := T.d__law_accepts
  have hN : (["machine", "state"] : List Str).Nodup := by decide +kernel
  refine def_ok (N := ["machine", "state"]) (ps := ["machine", "state"]) (n := 2) F ⟨rfl, rfl, rfl, hN, rfl, by decide +kernel, by decide +kernel⟩ rfl (by decide) (fun _ _ _ _ _ _ us hl => match us, hl with | [_, _], _ => rfl) fun cdv A outer s H E hr => ?_
  have hu := hr.units
  have tk := takes_of (X := cxOf (L2.CX P w) P w K mg base ["machine", "state"] d__law_accepts.qual (defScope (top 92)) (ga K "_law_accepts") cdv A outer s H E) (E := E) rfl rfl rfl rfl
  unfold DL.b__law_accepts
  exact (ss_one (ss_ret (se_and (se_cmp so_cGe (sv 1) se_int) (se_one (se_ix (se_ix (sv 0) (sv 1)) se_int)))))
theorem G__law_foreign (TT : ∀ TC : TabsC, TopOk (TC := TC) P w K mg base) : DefOk P w K mg base 1 (ga K "_law_foreign") ["sort", "state", "letter", "mark"] DL.f__law_foreign := by
  have T := TT TC
  obtain ⟨fd, F⟩ := T.d__law_foreign
  have hN : (["sort", "state", "letter", "mark", "met", "joined", "first", "mine", "its", "right"] : List Str).Nodup := by decide +kernel
  refine def_ok (N := ["sort", "state", "letter", "mark", "met", "joined", "first", "mine", "its", "right"]) (ps := ["sort", "state", "letter", "mark"]) (n := 10) F ⟨rfl, rfl, rfl, hN, rfl, by decide +kernel, by decide +kernel⟩ rfl (by decide) (fun _ _ _ _ _ _ us hl => match us, hl with | [_, _, _, _], _ => rfl) fun cdv A outer s H E hr => ?_
  have hu := hr.units
  have tk := takes_of (X := cxOf (L2.CX P w) P w K mg base ["sort", "state", "letter", "mark", "met", "joined", "first", "mine", "its", "right"] d__law_foreign.qual (defScope (top 89)) (ga K "_law_foreign") cdv A outer s H E) (E := E) rfl rfl rfl rfl
  unfold DL.b__law_foreign
  exact (ss_cons (ss_asg (sv 1) (sg_tup rfl (sgs_cons (sg_name 4 hN) (sgs_cons (sg_name 5 hN) (sgs_cons (sg_name 6 hN) sgs_nil)))))
  (ss_cons (ss_if (st_pt (st_or (st_cmp (so_cEq hu) (sv 4) se_int) (st_or1 (st_cmp (so_cEq hu) (sv 3) se_int)))) (ss_one (ss_ret (se_if (st_cmp (so_cEq hu) (sv 3) se_int) (sv 1) (se_tup sa_nil)))) ss_nil)
  (ss_cons (ss_if (st_cmp (so_cEq hu) (sv 4) se_int) (ss_one (ss_ret (se_if (st_cmp (so_cEq hu) (sv 3) se_int) (sv 1) (se_tup (sa_cons (sv 3) (sa_cons (se_cmp (so_cNe hu) (sv 2) se_int) (sa_cons (sv 2) sa_nil))))))) ss_nil)
  (ss_cons (ss_asg (se_and (sv 5) (se_one (se_cmp (so_cEq hu) (sv 2) se_int))) (sg_name 5 hN))
  (ss_cons (ss_if (st_pt (st_or (st_cmp (so_cEq hu) (sv 3) se_int) (st_or1 (st_cmp (so_cEq hu) (sv 3) (sv 4))))) (ss_one (ss_ret (se_if (st_cmp (so_cEq hu) (sv 3) se_int) (se_tup (sa_cons (sv 4) (sa_cons (sv 5) (sa_cons (sv 6) sa_nil)))) (se_tup sa_nil)))) ss_nil)
  (ss_cons (ss_asg (se_if (st_cmp (so_cEq hu) (sv 4) se_int) (se_tup (sa_cons (sv 6) (sa_cons (sv 2) sa_nil))) (se_tup (sa_cons (sv 2) (sa_cons (sv 6) sa_nil)))) (sg_tup rfl (sgs_cons (sg_name 7 hN) (sgs_cons (sg_name 8 hN) sgs_nil))))
  (ss_cons (ss_if (st_cmp (so_cIn hu) (sv 0) (se_lst (sa_cons se_str (sa_cons se_str sa_nil)))) (ss_one (ss_asg (se_and (sv 5) (se_one (se_cmp (so_cEq hu) (sv 4) (se_if (st_cmp (so_cEq hu) (sv 0) se_str) se_int se_int)))) (sg_name 9 hN))) (ss_one (ss_asg (se_and (se_not (sv 5)) (se_one (se_or (se_cmp (so_cEq hu) (sv 0) se_str) (se_one (se_cmp (so_cEq hu) (se_cmp (so_cEq hu) (sv 8) se_int) (se_cmp (so_cEq hu) (sv 0) se_str)))))) (sg_name 9 hN))))
  (ss_one (ss_ret (se_if (st_pt (st_and (st_cmp (so_cNe hu) (sv 7) se_int) (st_and1 (st_val (sv 9))))) (se_tup (sa_cons se_int (sa_cons se_bl (sa_cons se_int sa_nil)))) (se_tup sa_nil)))))))))))
theorem C_holds_layer_step (TT : ∀ TC : TabsC, TopOk (TC := TC) P w K mg base) {qual : Str} {cl : List (Str × Addr)} {f c1 : Addr} : NdefX.NOk P w K mg base (L2.CX P w) 3 f (NdefX.NF.of (sub (top 64) 0) "step" qual cl c1) ["state", "letter", "bits"] ["part", "plan", "inner", "outer"] (spC K mg 3 DL.c_holds_layer_step) := by
  have T := TT TC
  have hN : (["state", "letter", "bits", "part", "plan", "inner", "outer", "stage", "met", "reader", "mine", "its", "taking", "middle", "later"] : List Str).Nodup := by decide +kernel
  refine clo_ok (N := ["state", "letter", "bits", "part", "plan", "inner", "outer", "stage", "met", "reader", "mine", "its", "taking", "middle", "later"]) (ps := ["state", "letter", "bits"]) (fr := ["part", "plan", "inner", "outer"]) (n := 15) (b := DL.b_holds_layer_step) (show NdefX.NScope ["state", "letter", "bits", "part", "plan", "inner", "outer", "stage", "met", "reader", "mine", "its", "taking", "middle", "later"] ["state", "letter", "bits"] ["part", "plan", "inner", "outer"] (C8.fnScope (sub (top 64) 0)) from NdefX.nscope_by (by decide +kernel)) rfl (fun _ _ _ us hl => match us, hl with | [_, _, _], _ => rfl) fun A outer s H E hr => ?_
  have hu := hr.units
  have tk := takes_of (X := NdefX.ncx (L2.CX P w) P w K mg base ["state", "letter", "bits", "part", "plan", "inner", "outer", "stage", "met", "reader", "mine", "its", "taking", "middle", "later"] (NdefX.NF.of (sub (top 64) 0) "step" qual cl c1) f A outer s H E) (E := E) rfl rfl rfl rfl
  unfold DL.b_holds_layer_step
  exact (ss_cons (ss_asg (sv 0) (sg_tup rfl (sgs_cons (sg_name 7 hN) (sgs_cons (sg_name 8 hN) (sgs_cons (sg_name 9 hN) (sgs_cons (sg_name 10 hN) (sgs_cons (sg_name 11 hN) sgs_nil)))))))
  (ss_cons (ss_if (st_cmp (so_cNe hu) (se_bin so_oBand (sv 8) (sv 2)) se_int) (ss_one (ss_ret se_non)) ss_nil)
  (ss_cons (by first | exact (ss_par2 rfl (sa_cons (se_bin so_oAdd (se_bin so_oMod (sv 2) se_int) (se_bin so_oMul (se_bin so_oFdiv (sv 2) se_int) se_int)) (sa_cons (se_bin so_oAdd (se_bin so_oFdiv (sv 2) se_int) (se_bin so_oMul (se_bin so_oMod (se_bin so_oFdiv (sv 2) se_int) se_int) se_int)) sa_nil)) hN rfl rfl (by decide) rfl rfl rfl rfl) | exact (ss_asg (se_tup (sa_cons (se_bin so_oAdd (se_bin so_oMod (sv 2) se_int) (se_bin so_oMul (se_bin so_oFdiv (sv 2) se_int) se_int)) (sa_cons (se_bin so_oAdd (se_bin so_oFdiv (sv 2) se_int) (se_bin so_oMul (se_bin so_oMod (se_bin so_oFdiv (sv 2) se_int) se_int) se_int)) sa_nil))) (sg_tup rfl (sgs_cons (sg_name 12 hN) (sgs_cons (sg_name 13 hN) sgs_nil)))))
  (ss_cons (ss_asg (se_tup (sa_cons (se_call ((G_plan_after TT).mono (by decide)) rfl T.g_plan_after hr tk (sa_cons (sv 4) (sa_cons (sv 7) (sa_cons (sv 1) sa_nil)))) (sa_cons (se_bin so_oAdd (sv 8) (sv 2)) (sa_cons (se_call ((G_taking_after TT).mono (by decide)) rfl T.g_taking_after hr tk (sa_cons (sv 3) (sa_cons (sv 9) (sa_cons (sv 1) (sa_cons (sv 12) sa_nil))))) (sa_cons (se_call ((G_machine_after TT).mono (by decide)) rfl T.g_machine_after hr tk (sa_cons (sv 5) (sa_cons (sv 10) (sa_cons (sv 1) (sa_cons (sv 13) sa_nil))))) (sa_cons (se_call ((G_machine_after TT).mono (by decide)) rfl T.g_machine_after hr tk (sa_cons (sv 6) (sa_cons (sv 11) (sa_cons (sv 1) (sa_cons (se_bin so_oMod (sv 2) se_int) sa_nil))))) sa_nil)))))) (sg_name 14 hN))
  (ss_one (ss_ret (se_if (st_cmp (so_cIn hu) se_non (se_slice (sv 14) so_none (so_some se_int))) se_non (sv 14))))))))
theorem C_holds_layer_is_wrong (TT : ∀ TC : TabsC, TopOk (TC := TC) P w K mg base) {qual : Str} {cl : List (Str × Addr)} {f c1 : Addr} : NdefX.NOk P w K mg base (L2.CX P w) 2 f (NdefX.NF.of (sub (top 64) 1) "is_wrong" qual cl c1) ["state"] ["plan", "inner", "outer"] (spC K mg 1 DL.c_holds_layer_is_wrong) := by
  have T := TT TC
  have hN : (["state", "plan", "inner", "outer", "stage", "met", "reader", "mine", "its"] : List Str).Nodup := by decide +kernel
  refine clo_ok (N := ["state", "plan", "inner", "outer", "stage", "met", "reader", "mine", "its"]) (ps := ["state"]) (fr := ["plan", "inner", "outer"]) (n := 9) (b := DL.b_holds_layer_is_wrong) (show NdefX.NScope ["state", "plan", "inner", "outer", "stage", "met", "reader", "mine", "its"] ["state"] ["plan", "inner", "outer"] (C8.fnScope (sub (top 64) 1)) from NdefX.nscope_by (by decide +kernel)) rfl (fun _ _ _ us hl => match us, hl with | [_], _ => rfl) fun A outer s H E hr => ?_
  have hu := hr.units
  have tk := takes_of (X := NdefX.ncx (L2.CX P w) P w K mg base ["state", "plan", "inner", "outer", "stage", "met", "reader", "mine", "its"] (NdefX.NF.of (sub (top 64) 1) "is_wrong" qual cl c1) f A outer s H E) (E := E) rfl rfl rfl rfl
  unfold DL.b_holds_layer_is_wrong
  exact (ss_cons (ss_asg (sv 0) (sg_tup rfl (sgs_cons (sg_name 4 hN) (sgs_cons (sg_name 5 hN) (sgs_cons (sg_name 6 hN) (sgs_cons (sg_name 7 hN) (sgs_cons (sg_name 8 hN) sgs_nil)))))))
  (ss_cons (ss_if (st_pt (st_or (st_cmp (so_cNe hu) (sv 5) se_int) (st_or (st_not (st_val (se_call ((G_plan_may_end TT).mono (by decide)) rfl T.g_plan_may_end hr tk (sa_cons (sv 1) (sa_cons (sv 4) sa_nil))))) (st_or1 (st_cmp so_cLt (se_ix (sv 6) se_int) se_int))))) (ss_one (ss_ret se_bl)) ss_nil)
  (ss_one (ss_ret (se_and (se_call ((G_is_accepting TT).mono (by decide)) rfl T.g_is_accepting hr tk (sa_cons (sv 2) (sa_cons (sv 7) sa_nil))) (se_one (se_not (se_call ((G_is_accepting TT).mono (by decide)) rfl T.g_is_accepting hr tk (sa_cons (sv 3) (sa_cons (sv 8) sa_nil))))))))))
theorem C_holds_none_step (TT : ∀ TC : TabsC, TopOk (TC := TC) P w K mg base) {qual : Str} {cl : List (Str × Addr)} {f c1 : Addr} : NdefX.NOk P w K mg base (L2.CX P w) 2 f (NdefX.NF.of (sub (top 66) 0) "step" qual cl c1) ["state", "letter", "bits"] ["plan", "kind", "machine"] (spC K mg 3 DL.c_holds_none_step) := by
  have T := TT TC
  have hN : (["state", "letter", "bits", "plan", "kind", "machine", "stage", "reader", "mine", "later"] : List Str).Nodup := by decide +kernel
  refine clo_ok (N := ["state", "letter", "bits", "plan", "kind", "machine", "stage", "reader", "mine", "later"]) (ps := ["state", "letter", "bits"]) (fr := ["plan", "kind", "machine"]) (n := 10) (b := DL.b_holds_none_step) (show NdefX.NScope ["state", "letter", "bits", "plan", "kind", "machine", "stage", "reader", "mine", "later"] ["state", "letter", "bits"] ["plan", "kind", "machine"] (C8.fnScope (sub (top 66) 0)) from NdefX.nscope_by (by decide +kernel)) rfl (fun _ _ _ us hl => match us, hl with | [_, _, _], _ => rfl) fun A outer s H E hr => ?_
  have hu := hr.units
  have tk := takes_of (X := NdefX.ncx (L2.CX P w) P w K mg base ["state", "letter", "bits", "plan", "kind", "machine", "stage", "reader", "mine", "later"] (NdefX.NF.of (sub (top 66) 0) "step" qual cl c1) f A outer s H E) (E := E) rfl rfl rfl rfl
  unfold DL.b_holds_none_step
  exact (ss_cons (ss_asg (sv 0) (sg_tup rfl (sgs_cons (sg_name 6 hN) (sgs_cons (sg_name 7 hN) (sgs_cons (sg_name 8 hN) sgs_nil)))))
  (ss_cons (ss_if (st_cmp so_cGt (sv 2) se_int) (ss_one (ss_ret se_non)) ss_nil)
  (ss_cons (ss_asg (se_tup (sa_cons (se_call ((G_plan_after TT).mono (by decide)) rfl T.g_plan_after hr tk (sa_cons (sv 3) (sa_cons (sv 6) (sa_cons (sv 1) sa_nil)))) (sa_cons (se_call ((G_kind_after TT).mono (by decide)) rfl T.g_kind_after hr tk (sa_cons (sv 4) (sa_cons (sv 7) (sa_cons (sv 1) (sa_cons (sv 2) sa_nil))))) (sa_cons (se_call ((G_machine_after TT).mono (by decide)) rfl T.g_machine_after hr tk (sa_cons (sv 5) (sa_cons (sv 8) (sa_cons (sv 1) (sa_cons (sv 2) sa_nil))))) sa_nil)))) (sg_name 9 hN))
  (ss_one (ss_ret (se_if (st_cmp (so_cIn hu) se_non (sv 9)) se_non (sv 9)))))))
theorem C_holds_none_is_wrong (TT : ∀ TC : TabsC, TopOk (TC := TC) P w K mg base) {qual : Str} {cl : List (Str × Addr)} {f c1 : Addr} : NdefX.NOk P w K mg base (L2.CX P w) 2 f (NdefX.NF.of (sub (top 66) 1) "is_wrong" qual cl c1) ["state"] ["plan", "machine"] (spC K mg 1 DL.c_holds_none_is_wrong) := by
  have T := TT TC
  have hN : (["state", "plan", "machine", "stage", "reader", "mine"] : List Str).Nodup := by decide +kernel
  refine clo_ok (N := ["state", "plan", "machine", "stage", "reader", "mine"]) (ps := ["state"]) (fr := ["plan", "machine"]) (n := 6) (b := DL.b_holds_none_is_wrong) (show NdefX.NScope ["state", "plan", "machine", "stage", "reader", "mine"] ["state"] ["plan", "machine"] (C8.fnScope (sub (top 66) 1)) from NdefX.nscope_by (by decide +kernel)) rfl (fun _ _ _ us hl => match us, hl with | [_], _ => rfl) fun A outer s H E hr => ?_
  have hu := hr.units
  have tk := takes_of (X := NdefX.ncx (L2.CX P w) P w K mg base ["state", "plan", "machine", "stage", "reader", "mine"] (NdefX.NF.of (sub (top 66) 1) "is_wrong" qual cl c1) f A outer s H E) (E := E) rfl rfl rfl rfl
  unfold DL.b_holds_none_is_wrong
  exact (ss_cons (ss_asg (sv 0) (sg_tup rfl (sgs_cons (sg_name 3 hN) (sgs_cons (sg_name 4 hN) (sgs_cons (sg_name 5 hN) sgs_nil)))))
  (ss_one (ss_ret (se_and (se_cmp (so_cEq hu) (se_ix (sv 4) se_int) se_int) (se_and (se_call ((G_plan_may_end TT).mono (by decide)) rfl T.g_plan_may_end hr tk (sa_cons (sv 1) (sa_cons (sv 3) sa_nil))) (se_one (se_call ((G_is_accepting TT).mono (by decide)) rfl T.g_is_accepting hr tk (sa_cons (sv 2) (sa_cons (sv 5) sa_nil)))))))))
theorem C__law_takes_all__law_step (TT : ∀ TC : TabsC, TopOk (TC := TC) P w K mg base) {qual : Str} {cl : List (Str × Addr)} {f c1 : Addr} : NdefX.NOk P w K mg base (L2.CX P w) 3 f (NdefX.NF.of (sub (top 96) 0) "_law_step" qual cl c1) ["state", "letter", "mark"] ["layer", "laid", "machine"] (spC K mg 3 DL.c__law_takes_all__law_step) := by
  have T := TT TC
  have hN : (["state", "letter", "mark", "layer", "laid", "machine", "later"] : List Str).Nodup := by decide +kernel
  refine clo_ok (N := ["state", "letter", "mark", "layer", "laid", "machine", "later"]) (ps := ["state", "letter", "mark"]) (fr := ["layer", "laid", "machine"]) (n := 7) (b := DL.b__law_takes_all__law_step) (show NdefX.NScope ["state", "letter", "mark", "layer", "laid", "machine", "later"] ["state", "letter", "mark"] ["layer", "laid", "machine"] (C8.fnScope (sub (top 96) 0)) from NdefX.nscope_by (by decide +kernel)) rfl (fun _ _ _ us hl => match us, hl with | [_, _, _], _ => rfl) fun A outer s H E hr => ?_
  have hu := hr.units
  have tk := takes_of (X := NdefX.ncx (L2.CX P w) P w K mg base ["state", "letter", "mark", "layer", "laid", "machine", "later"] (NdefX.NF.of (sub (top 96) 0) "_law_step" qual cl c1) f A outer s H E) (E := E) rfl rfl rfl rfl
  unfold DL.b__law_takes_all__law_step
  exact (ss_cons (ss_asg (se_tup (sa_cons (se_call ((G__law_stage TT).mono (by decide)) rfl T.gXlaw_stage hr tk (sa_cons (sv 4) (sa_cons (se_ix (sv 0) se_int) (sa_cons (sv 1) sa_nil)))) (sa_cons (se_call ((G__law_taking TT).mono (by decide)) rfl T.gXlaw_taking hr tk (sa_cons (sv 3) (sa_cons (se_ix (sv 0) se_int) (sa_cons (sv 1) (sa_cons (sv 2) sa_nil))))) sa_nil))) (sg_name 6 hN))
  (ss_cons (ss_if (st_pt (st_or (st_cmp so_cLt (se_ix (sv 6) se_int) se_int) (st_or1 (st_cmp (so_cEqT0 hu) (se_ix (sv 6) se_int) (se_tup sa_nil))))) (ss_one (ss_ret (se_tup sa_nil))) ss_nil)
  (ss_one (ss_ret (se_bin so_oAdd (sv 6) (se_tup (sa_cons (se_call ((G__law_after TT).mono (by decide)) rfl T.gXlaw_after hr tk (sa_cons (sv 5) (sa_cons (se_ix (sv 0) se_int) (sa_cons (sv 1) (sa_cons (sv 2) sa_nil))))) sa_nil)))))))
theorem C__law_takes_all__law_wrong (TT : ∀ TC : TabsC, TopOk (TC := TC) P w K mg base) {qual : Str} {cl : List (Str × Addr)} {f c1 : Addr} : NdefX.NOk P w K mg base (L2.CX P w) 2 f (NdefX.NF.of (sub (top 96) 1) "_law_wrong" qual cl c1) ["state"] ["laid", "machine"] (spC K mg 1 DL.c__law_takes_all__law_wrong) := by
  have T := TT TC
  have hN : (["state", "laid", "machine"] : List Str).Nodup := by decide +kernel
  refine clo_ok (N := ["state", "laid", "machine"]) (ps := ["state"]) (fr := ["laid", "machine"]) (n := 3) (b := DL.b__law_takes_all__law_wrong) (show NdefX.NScope ["state", "laid", "machine"] ["state"] ["laid", "machine"] (C8.fnScope (sub (top 96) 1)) from NdefX.nscope_by (by decide +kernel)) rfl (fun _ _ _ us hl => match us, hl with | [_], _ => rfl) fun A outer s H E hr => ?_
  have hu := hr.units
  have tk := takes_of (X := NdefX.ncx (L2.CX P w) P w K mg base ["state", "laid", "machine"] (NdefX.NF.of (sub (top 96) 1) "_law_wrong" qual cl c1) f A outer s H E) (E := E) rfl rfl rfl rfl
  unfold DL.b__law_takes_all__law_wrong
  exact (ss_cons (ss_if (st_pt (st_or (st_not (st_val (se_call ((G__law_ends TT).mono (by decide)) rfl T.gXlaw_ends hr tk (sa_cons (sv 1) (sa_cons (se_ix (sv 0) se_int) sa_nil))))) (st_or1 (st_cmp so_cLt (se_ix (se_ix (sv 0) se_int) se_int) se_int)))) (ss_one (ss_ret se_bl)) ss_nil)
  (ss_one (ss_ret (se_not (se_call ((G__law_accepts TT).mono (by decide)) rfl T.gXlaw_accepts hr tk (sa_cons (sv 2) (sa_cons (se_ix (sv 0) se_int) sa_nil)))))))
theorem C__law_has_none__law_step (TT : ∀ TC : TabsC, TopOk (TC := TC) P w K mg base) {qual : Str} {cl : List (Str × Addr)} {f c1 : Addr} : NdefX.NOk P w K mg base (L2.CX P w) 2 f (NdefX.NF.of (sub (top 97) 0) "_law_step" qual cl c1) ["state", "letter", "mark"] ["sort", "laid", "machine"] (spC K mg 3 DL.c__law_has_none__law_step) := by
  have T := TT TC
  have hN : (["state", "letter", "mark", "sort", "laid", "machine", "later", "place"] : List Str).Nodup := by decide +kernel
  refine clo_ok (N := ["state", "letter", "mark", "sort", "laid", "machine", "later", "place"]) (ps := ["state", "letter", "mark"]) (fr := ["sort", "laid", "machine"]) (n := 8) (b := DL.b__law_has_none__law_step) (show NdefX.NScope ["state", "letter", "mark", "sort", "laid", "machine", "later", "place"] ["state", "letter", "mark"] ["sort", "laid", "machine"] (C8.fnScope (sub (top 97) 0)) from NdefX.nscope_by (by decide +kernel)) rfl (fun _ _ _ us hl => match us, hl with | [_, _, _], _ => rfl) fun A outer s H E hr => ?_
  have hu := hr.units
  have tk := takes_of (X := NdefX.ncx (L2.CX P w) P w K mg base ["state", "letter", "mark", "sort", "laid", "machine", "later", "place"] (NdefX.NF.of (sub (top 97) 0) "_law_step" qual cl c1) f A outer s H E) (E := E) rfl rfl rfl rfl
  unfold DL.b__law_has_none__law_step
  exact (ss_cons (ss_asg (se_tup (sa_cons (se_call ((G__law_stage TT).mono (by decide)) rfl T.gXlaw_stage hr tk (sa_cons (sv 4) (sa_cons (se_ix (sv 0) se_int) (sa_cons (sv 1) sa_nil)))) (sa_cons (se_call ((G__law_foreign TT).mono (by decide)) rfl T.gXlaw_foreign hr tk (sa_cons (sv 3) (sa_cons (se_ix (sv 0) se_int) (sa_cons (sv 1) (sa_cons (sv 2) sa_nil))))) sa_nil))) (sg_name 6 hN))
  (ss_cons (ss_asg (se_call ((G__law_after TT).mono (by decide)) rfl T.gXlaw_after hr tk (sa_cons (sv 5) (sa_cons (se_ix (sv 0) se_int) (sa_cons (sv 1) (sa_cons (sv 2) sa_nil))))) (sg_name 7 hN))
  (ss_one (ss_ret (se_if (st_pt (st_or (st_cmp so_cLt (se_ix (sv 6) se_int) se_int) (st_or (st_cmp (so_cEqT0 hu) (se_ix (sv 6) se_int) (se_tup sa_nil)) (st_or1 (st_cmp so_cLt (sv 7) se_int))))) (se_tup sa_nil) (se_bin so_oAdd (sv 6) (se_tup (sa_cons (sv 7) sa_nil))))))))
theorem C__law_has_none__law_wrong (TT : ∀ TC : TabsC, TopOk (TC := TC) P w K mg base) {qual : Str} {cl : List (Str × Addr)} {f c1 : Addr} : NdefX.NOk P w K mg base (L2.CX P w) 2 f (NdefX.NF.of (sub (top 97) 1) "_law_wrong" qual cl c1) ["state"] ["laid", "machine"] (spC K mg 1 DL.c__law_has_none__law_wrong) := by
  have T := TT TC
  have hN : (["state", "laid", "machine"] : List Str).Nodup := by decide +kernel
  refine clo_ok (N := ["state", "laid", "machine"]) (ps := ["state"]) (fr := ["laid", "machine"]) (n := 3) (b := DL.b__law_has_none__law_wrong) (show NdefX.NScope ["state", "laid", "machine"] ["state"] ["laid", "machine"] (C8.fnScope (sub (top 97) 1)) from NdefX.nscope_by (by decide +kernel)) rfl (fun _ _ _ us hl => match us, hl with | [_], _ => rfl) fun A outer s H E hr => ?_
  have hu := hr.units
  have tk := takes_of (X := NdefX.ncx (L2.CX P w) P w K mg base ["state", "laid", "machine"] (NdefX.NF.of (sub (top 97) 1) "_law_wrong" qual cl c1) f A outer s H E) (E := E) rfl rfl rfl rfl
  unfold DL.b__law_has_none__law_wrong
  exact (ss_one (ss_ret (se_and (se_call ((G__law_ends TT).mono (by decide)) rfl T.gXlaw_ends hr tk (sa_cons (sv 1) (sa_cons (se_ix (sv 0) se_int) sa_nil))) (se_and (se_cmp (so_cEq hu) (se_ix (se_ix (sv 0) se_int) se_int) se_int) (se_one (se_call ((G__law_accepts TT).mono (by decide)) rfl T.gXlaw_accepts hr tk (sa_cons (sv 2) (sa_cons (se_ix (sv 0) se_int) sa_nil))))))))
theorem G__law_spring (TT : ∀ TC : TabsC, TopOk (TC := TC) P w K mg base) : DefOk P w K mg base 1 (ga K "_law_spring") ["script", "at"] DL.f__law_spring := by
  have T := TT TC
  obtain ⟨fd, F⟩ := T.d__law_spring
  have hN : (["script", "at", "cell", "older", "digits"] : List Str).Nodup := by decide +kernel
  refine def_ok (N := ["script", "at", "cell", "older", "digits"]) (ps := ["script", "at"]) (n := 5) F ⟨rfl, rfl, rfl, hN, rfl, by decide +kernel, by decide +kernel⟩ rfl (by decide) (fun _ _ _ _ _ _ us hl => match us, hl with | [_, _], _ => rfl) fun cdv A outer s H E hr => ?_
  have hu := hr.units
  have tk := takes_of (X := cxOf (L2.CX P w) P w K mg base ["script", "at", "cell", "older", "digits"] d__law_spring.qual (defScope (top 78)) (ga K "_law_spring") cdv A outer s H E) (E := E) rfl rfl rfl rfl
  unfold DL.b__law_spring
  exact (ss_cons (ss_asg (se_bin so_oAdd (se_bin so_oMul se_int (sv 1)) (se_bin so_oMul se_int (se_b sb_len T.bf.len boot_len rfl (sa_cons (sv 0) sa_nil)))) (sg_name 2 hN))
  (ss_cons (ss_if (st_cmp so_cLt (sv 1) (se_b sb_len T.bf.len boot_len rfl (sa_cons (sv 0) sa_nil))) (ss_one (ss_asg (se_ix (sv 0) (sv 1)) (sg_name 2 hN))) (ss_one (ss_for (si_seq (se_slice (sv 0) so_none (so_some se_int))) (sg_name 3 hN) (ss_one (ss_asg (se_bin so_oMod (se_ty sb_int T.bf.int boot_int rfl (sa_cons (se_bin so_oAdd (se_bin so_oMul (sv 2) se_int) (sv 3)) sa_nil)) se_int) (sg_name 2 hN))) rfl (passes_of rfl))))
  (ss_cons (ss_asg (se_if (st_cmp so_cGe (se_b sb_abs T.bf.abs boot_abs rfl (sa_cons (sv 2) sa_nil)) (se_bin so_oPow se_int se_int)) (se_b sb_abs T.bf.abs boot_abs rfl (sa_cons (sv 2) sa_nil)) se_int) (sg_name 4 hN))
  (ss_one (ss_ret (se_lst (sa_cons (se_bin so_oMod (se_ty sb_int T.bf.int boot_int rfl (sa_cons (se_bin so_oAdd (se_bin so_oMul (sv 2) se_int) (sv 1)) sa_nil)) se_int) (sa_cons (se_bin so_oMod (se_ty sb_int T.bf.int boot_int rfl (sa_cons (se_bin so_oAdd (se_bin so_oAdd (se_bin so_oMul (sv 2) (sv 2)) (se_bin so_oMul se_int (sv 1))) se_int) sa_nil)) se_int) (sa_cons (sv 4) sa_nil)))))))))
theorem G__law_take (TT : ∀ TC : TabsC, TopOk (TC := TC) P w K mg base) : DefOk P w K mg base 1 (ga K "_law_take") ["spring", "many"] DL.f__law_take := by
  have T := TT TC
  obtain ⟨fd, F⟩ := T.d__law_take
  have hN : (["spring", "many", "one", "other", "digit"] : List Str).Nodup := by decide +kernel
  refine def_ok (N := ["spring", "many", "one", "other", "digit"]) (ps := ["spring", "many"]) (n := 5) F ⟨rfl, rfl, rfl, hN, rfl, by decide +kernel, by decide +kernel⟩ rfl (by decide) (fun _ _ _ _ _ _ us hl => match us, hl with | [_, _], _ => rfl) fun cdv A outer s H E hr => ?_
  have hu := hr.units
  have tk := takes_of (X := cxOf (L2.CX P w) P w K mg base ["spring", "many", "one", "other", "digit"] d__law_take.qual (defScope (top 79)) (ga K "_law_take") cdv A outer s H E) (E := E) rfl rfl rfl rfl
  unfold DL.b__law_take
  exact (ss_cons (by first | exact (ss_par2 rfl (sa_cons (se_ty sb_int T.bf.int boot_int rfl (sa_cons (se_ix (sv 0) se_int) sa_nil)) (sa_cons (se_ty sb_int T.bf.int boot_int rfl (sa_cons (se_ix (sv 0) se_int) sa_nil)) sa_nil)) hN rfl rfl (by decide) rfl rfl rfl rfl) | exact (ss_asg (se_tup (sa_cons (se_ty sb_int T.bf.int boot_int rfl (sa_cons (se_ix (sv 0) se_int) sa_nil)) (sa_cons (se_ty sb_int T.bf.int boot_int rfl (sa_cons (se_ix (sv 0) se_int) sa_nil)) sa_nil))) (sg_tup rfl (sgs_cons (sg_name 2 hN) (sgs_cons (sg_name 3 hN) sgs_nil)))))
  (ss_cons (ss_asg (sv 3) (sg_sub (sv 0) se_int))
  (ss_cons (ss_asg (se_bin so_oMod (se_ty sb_int T.bf.int boot_int rfl (sa_cons (se_bin so_oAdd (se_bin so_oAdd (se_bin so_oMul (sv 2) se_int) (se_bin so_oMul (sv 3) (se_bin so_oAdd (se_bin so_oMod (se_ty sb_int T.bf.int boot_int rfl (sa_cons (sv 3) sa_nil)) se_int) se_int))) se_int) sa_nil)) se_int) (sg_sub (sv 0) se_int))
  (ss_cons (ss_if (st_cmp so_cGt (se_ix (sv 0) se_int) se_int) (ss_cons (ss_asg (se_b sb_divmod T.bf.divmod boot_divmod rfl (sa_cons (se_ix (sv 0) se_int) (sa_cons (sv 1) sa_nil))) (sg_tup rfl (sgs_cons (sg_sub (sv 0) se_int) (sgs_cons (sg_name 4 hN) sgs_nil))))
  (ss_one (ss_ret (sv 4)))) ss_nil)
  (ss_one (ss_ret (se_bin so_oMod (se_ty sb_int T.bf.int boot_int rfl (sa_cons (se_bin so_oFdiv (se_ix (sv 0) se_int) se_int) sa_nil)) (sv 1))))))))
theorem G__law_kind (TT : ∀ TC : TabsC, TopOk (TC := TC) P w K mg base) : DefOk P w K mg base 2 (ga K "_law_kind") ["spring"] DL.f__law_kind := by
  have T := TT TC
  obtain ⟨fd, F⟩ := T.d__law_kind
  have hN : (["spring"] : List Str).Nodup := by decide +kernel
  refine def_ok (N := ["spring"]) (ps := ["spring"]) (n := 1) F ⟨rfl, rfl, rfl, hN, rfl, by decide +kernel, by decide +kernel⟩ rfl (by decide) (fun _ _ _ _ _ _ us hl => match us, hl with | [_], _ => rfl) fun cdv A outer s H E hr => ?_
  have hu := hr.units
  have tk := takes_of (X := cxOf (L2.CX P w) P w K mg base ["spring"] d__law_kind.qual (defScope (top 82)) (ga K "_law_kind") cdv A outer s H E) (E := E) rfl rfl rfl rfl
  unfold DL.b__law_kind
  exact (ss_one (ss_ret (se_ix (se_lst (sa_cons se_str (sa_cons se_str (sa_cons se_str (sa_cons se_str (sa_cons se_str sa_nil)))))) (se_call ((G__law_take TT).mono (by decide)) rfl T.gXlaw_take hr tk (sa_cons (sv 0) (sa_cons se_int sa_nil))))))
theorem G__law_plan (TT : ∀ TC : TabsC, TopOk (TC := TC) P w K mg base) : DefOk P w K mg base 2 (ga K "_law_plan") ["spring"] DL.f__law_plan := by
  have T := TT TC
  obtain ⟨fd, F⟩ := T.d__law_plan
  have hN : (["spring"] : List Str).Nodup := by decide +kernel
  refine def_ok (N := ["spring"]) (ps := ["spring"]) (n := 1) F ⟨rfl, rfl, rfl, hN, rfl, by decide +kernel, by decide +kernel⟩ rfl (by decide) (fun _ _ _ _ _ _ us hl => match us, hl with | [_], _ => rfl) fun cdv A outer s H E hr => ?_
  have hu := hr.units
  have tk := takes_of (X := cxOf (L2.CX P w) P w K mg base ["spring"] d__law_plan.qual (defScope (top 83)) (ga K "_law_plan") cdv A outer s H E) (E := E) rfl rfl rfl rfl
  unfold DL.b__law_plan
  exact (ss_one (ss_ret (se_ix (se_lst (sa_cons se_str (sa_cons se_str (sa_cons se_str (sa_cons se_str (sa_cons se_str sa_nil)))))) (se_call ((G__law_take TT).mono (by decide)) rfl T.gXlaw_take hr tk (sa_cons (sv 0) (sa_cons se_int sa_nil))))))
theorem G__law_layer (TT : ∀ TC : TabsC, TopOk (TC := TC) P w K mg base) : DefOk P w K mg base 2 (ga K "_law_layer") ["spring", "room"] DL.f__law_layer := by
  have T := TT TC
  obtain ⟨fd, F⟩ := T.d__law_layer
  have hN : (["spring", "room", "word", "scope", "form", "own", "spare", "number", "way"] : List Str).Nodup := by decide +kernel
  refine def_ok (N := ["spring", "room", "word", "scope", "form", "own", "spare", "number", "way"]) (ps := ["spring", "room"]) (n := 9) F ⟨rfl, rfl, rfl, hN, rfl, by decide +kernel, by decide +kernel⟩ rfl (by decide) (fun _ _ _ _ _ _ us hl => match us, hl with | [_, _], _ => rfl) fun cdv A outer s H E hr => ?_
  have hu := hr.units
  have tk := takes_of (X := cxOf (L2.CX P w) P w K mg base ["spring", "room", "word", "scope", "form", "own", "spare", "number", "way"] d__law_layer.qual (defScope (top 80)) (ga K "_law_layer") cdv A outer s H E) (E := E) rfl rfl rfl rfl
  unfold DL.b__law_layer
  exact (ss_cons (ss_asg (se_ix (se_lst (sa_cons se_str (sa_cons se_str (sa_cons se_str (sa_cons se_str (sa_cons se_str sa_nil)))))) (se_call ((G__law_take TT).mono (by decide)) rfl T.gXlaw_take hr tk (sa_cons (sv 0) (sa_cons se_int sa_nil)))) (sg_name 2 hN))
  (ss_cons (ss_if (st_pt (st_or (st_cmp (so_cEq hu) (sv 2) se_str) (st_or1 (st_cmp so_cLt (sv 1) se_int)))) (ss_one (ss_ret (se_tup (sa_cons se_str (sa_cons se_str (sa_cons se_str (sa_cons se_int (sa_cons se_int (sa_cons se_bl (sa_cons se_bl sa_nil)))))))))) ss_nil)
  (ss_cons (by first | exact (ss_par2 rfl (sa_cons (se_ix (se_lst (sa_cons se_str (sa_cons se_str (sa_cons se_str sa_nil)))) (se_call ((G__law_take TT).mono (by decide)) rfl T.gXlaw_take hr tk (sa_cons (sv 0) (sa_cons se_int sa_nil)))) (sa_cons (se_call ((G__law_take TT).mono (by decide)) rfl T.gXlaw_take hr tk (sa_cons (sv 0) (sa_cons se_int sa_nil))) sa_nil)) hN rfl rfl (by decide) rfl rfl rfl rfl) | exact (ss_asg (se_tup (sa_cons (se_ix (se_lst (sa_cons se_str (sa_cons se_str (sa_cons se_str sa_nil)))) (se_call ((G__law_take TT).mono (by decide)) rfl T.gXlaw_take hr tk (sa_cons (sv 0) (sa_cons se_int sa_nil)))) (sa_cons (se_call ((G__law_take TT).mono (by decide)) rfl T.gXlaw_take hr tk (sa_cons (sv 0) (sa_cons se_int sa_nil))) sa_nil))) (sg_tup rfl (sgs_cons (sg_name 3 hN) (sgs_cons (sg_name 4 hN) sgs_nil)))))
  (ss_cons (by first | exact (ss_par2 rfl (sa_cons (se_or (se_cmp (so_cEq hu) (sv 2) se_str) (se_one (se_cmp (so_cEq hu) (se_call ((G__law_take TT).mono (by decide)) rfl T.gXlaw_take hr tk (sa_cons (sv 0) (sa_cons se_int sa_nil))) se_int))) (sa_cons (se_cmp (so_cEq hu) (se_call ((G__law_take TT).mono (by decide)) rfl T.gXlaw_take hr tk (sa_cons (sv 0) (sa_cons se_int sa_nil))) se_int) sa_nil)) hN rfl rfl (by decide) rfl rfl rfl rfl) | exact (ss_asg (se_tup (sa_cons (se_or (se_cmp (so_cEq hu) (sv 2) se_str) (se_one (se_cmp (so_cEq hu) (se_call ((G__law_take TT).mono (by decide)) rfl T.gXlaw_take hr tk (sa_cons (sv 0) (sa_cons se_int sa_nil))) se_int))) (sa_cons (se_cmp (so_cEq hu) (se_call ((G__law_take TT).mono (by decide)) rfl T.gXlaw_take hr tk (sa_cons (sv 0) (sa_cons se_int sa_nil))) se_int) sa_nil))) (sg_tup rfl (sgs_cons (sg_name 5 hN) (sgs_cons (sg_name 6 hN) sgs_nil)))))
  (ss_cons (ss_if (st_cmp (so_cEq hu) (sv 4) se_int) (ss_one (ss_ret (se_tup (sa_cons (sv 2) (sa_cons se_str (sa_cons (se_ix (se_lst (sa_cons se_str (sa_cons se_str sa_nil))) (se_call ((G__law_take TT).mono (by decide)) rfl T.gXlaw_take hr tk (sa_cons (sv 0) (sa_cons se_int sa_nil)))) (sa_cons se_int (sa_cons se_int (sa_cons (sv 5) (sa_cons (sv 6) sa_nil)))))))))) ss_nil)
  (ss_cons (ss_asg (se_bin so_oAdd se_int (se_call ((G__law_take TT).mono (by decide)) rfl T.gXlaw_take hr tk (sa_cons (sv 0) (sa_cons (se_b (sb_min2 rfl) T.bf.min boot_min rfl (sa_cons (sv 1) (sa_cons se_int sa_nil))) sa_nil)))) (sg_name 7 hN))
  (ss_cons (ss_if (st_cmp (so_cEq hu) (sv 4) se_int) (ss_one (ss_ret (se_tup (sa_cons (sv 2) (sa_cons (sv 3) (sa_cons (se_ix (se_lst (sa_cons se_str (sa_cons se_str sa_nil))) (se_call ((G__law_take TT).mono (by decide)) rfl T.gXlaw_take hr tk (sa_cons (sv 0) (sa_cons se_int sa_nil)))) (sa_cons (sv 7) (sa_cons se_int (sa_cons (sv 5) (sa_cons (sv 6) sa_nil)))))))))) ss_nil)
  (ss_cons (ss_asg (se_ix (se_lst (sa_cons se_str (sa_cons se_str (sa_cons se_str sa_nil)))) (se_call ((G__law_take TT).mono (by decide)) rfl T.gXlaw_take hr tk (sa_cons (sv 0) (sa_cons se_int sa_nil)))) (sg_name 8 hN))
  (ss_cons (ss_if (st_cmp (so_cEq hu) (sv 4) se_int) (ss_one (ss_ret (se_tup (sa_cons (sv 2) (sa_cons (sv 3) (sa_cons (sv 8) (sa_cons se_int (sa_cons (sv 7) (sa_cons (sv 5) (sa_cons (sv 6) sa_nil)))))))))) ss_nil)
  (ss_one (ss_ret (se_tup (sa_cons (sv 2) (sa_cons (sv 3) (sa_cons (sv 8) (sa_cons (sv 7) (sa_cons (se_ix (se_lst (sa_cons se_int (sa_cons se_int (sa_cons se_int (sa_cons se_int sa_nil))))) (se_call ((G__law_take TT).mono (by decide)) rfl T.gXlaw_take hr tk (sa_cons (sv 0) (sa_cons se_int sa_nil)))) (sa_cons (sv 5) (sa_cons (sv 6) sa_nil)))))))))))))))))))
theorem G__law_fitting (TT : ∀ TC : TabsC, TopOk (TC := TC) P w K mg base) : DefOk P w K mg base 1 (ga K "_law_fitting") ["layer"] DL.f__law_fitting := by
  have T := TT TC
  obtain ⟨fd, F⟩ := T.d__law_fitting
  have hN : (["layer", "word", "scope", "way", "number", "found"] : List Str).Nodup := by decide +kernel
  refine def_ok (N := ["layer", "word", "scope", "way", "number", "found"]) (ps := ["layer"]) (n := 6) F ⟨rfl, rfl, rfl, hN, rfl, by decide +kernel, by decide +kernel⟩ rfl (by decide) (fun _ _ _ _ _ _ us hl => match us, hl with | [_], _ => rfl) fun cdv A outer s H E hr => ?_
  have hu := hr.units
  have tk := takes_of (X := cxOf (L2.CX P w) P w K mg base ["layer", "word", "scope", "way", "number", "found"] d__law_fitting.qual (defScope (top 94)) (ga K "_law_fitting") cdv A outer s H E) (E := E) rfl rfl rfl rfl
  unfold DL.b__law_fitting
  exact (ss_cons (ss_asg (se_slice (sv 0) so_none (so_some se_int)) (sg_tup rfl (sgs_cons (sg_name 1 hN) (sgs_cons (sg_name 2 hN) (sgs_cons (sg_name 3 hN) (sgs_cons (sg_name 4 hN) sgs_nil))))))
  (ss_cons (ss_asg (se_if (st_cmp (so_cNe hu) (sv 1) se_str) (se_lst (sa_cons se_int sa_nil)) (se_lst (sa_cons se_int (sa_cons se_int (sa_cons se_int (sa_cons se_int (sa_cons se_int (sa_cons se_int (sa_cons se_int sa_nil))))))))) (sg_name 5 hN))
  (ss_cons (ss_if (st_cmp (so_cEq hu) (sv 2) se_str) (ss_one (ss_expr (se_m .lst PySem.F.plainAttrs_list PySem.F.slot_list_append PySem.F.type_list_append sm_append (sv 5) (sa_cons se_int sa_nil)))) ss_nil)
  (ss_cons (ss_if (st_cmp (so_cIn hu) (sv 3) (se_lst (sa_cons se_str (sa_cons se_str (sa_cons se_str sa_nil))))) (ss_one (ss_expr (se_m .lst PySem.F.plainAttrs_list PySem.F.slot_list_append PySem.F.type_list_append sm_append (sv 5) (sa_cons se_int sa_nil)))) ss_nil)
  (ss_cons (ss_if (st_cmp (so_cIn hu) (sv 3) (se_lst (sa_cons se_str (sa_cons se_str (sa_cons se_str sa_nil))))) (ss_one (ss_expr (se_m .lst PySem.F.plainAttrs_list PySem.F.slot_list_append PySem.F.type_list_append sm_append (sv 5) (sa_cons se_int sa_nil)))) ss_nil)
  (ss_one (ss_ret (se_bin so_oAdd (se_bin so_oAdd (sv 5) (se_if (st_cmp (so_cEq hu) (sv 2) se_str) (se_lst (sa_cons se_int sa_nil)) (se_lst sa_nil))) (se_if (st_cmp (so_cEq hu) (sv 4) se_int) (se_lst (sa_cons se_int sa_nil)) (se_lst sa_nil))))))))))
theorem G__law_bent (TT : ∀ TC : TabsC, TopOk (TC := TC) P w K mg base) : DefOk P w K mg base 2 (ga K "_law_bent") ["spring", "machine"] DL.f__law_bent := by
  have T := TT TC
  obtain ⟨fd, F⟩ := T.d__law_bent
  have hN : (["spring", "machine", "way", "at", "place", "state", "new", "thing", "bent"] : List Str).Nodup := by decide +kernel
  refine def_ok (N := ["spring", "machine", "way", "at", "place", "state", "new", "thing", "bent"]) (ps := ["spring", "machine"]) (n := 9) F ⟨rfl, rfl, rfl, hN, rfl, by decide +kernel, by decide +kernel⟩ rfl (by decide) (fun _ _ _ _ _ _ us hl => match us, hl with | [_, _], _ => rfl) fun cdv A outer s H E hr => ?_
  have hu := hr.units
  have tk := takes_of (X := cxOf (L2.CX P w) P w K mg base ["spring", "machine", "way", "at", "place", "state", "new", "thing", "bent"] d__law_bent.qual (defScope (top 95)) (ga K "_law_bent") cdv A outer s H E) (E := E) rfl rfl rfl rfl
  unfold DL.b__law_bent
  exact (ss_cons (by first | exact (ss_par3 rfl (sa_cons (se_call ((G__law_take TT).mono (by decide)) rfl T.gXlaw_take hr tk (sa_cons (sv 0) (sa_cons se_int sa_nil))) (sa_cons (se_call ((G__law_take TT).mono (by decide)) rfl T.gXlaw_take hr tk (sa_cons (sv 0) (sa_cons (se_b sb_len T.bf.len boot_len rfl (sa_cons (sv 1) sa_nil)) sa_nil))) (sa_cons (se_call ((G__law_take TT).mono (by decide)) rfl T.gXlaw_take hr tk (sa_cons (sv 0) (sa_cons se_int sa_nil))) sa_nil))) hN rfl rfl rfl (by decide) (by decide) (by decide) rfl rfl rfl rfl rfl) | exact (ss_asg (se_tup (sa_cons (se_call ((G__law_take TT).mono (by decide)) rfl T.gXlaw_take hr tk (sa_cons (sv 0) (sa_cons se_int sa_nil))) (sa_cons (se_call ((G__law_take TT).mono (by decide)) rfl T.gXlaw_take hr tk (sa_cons (sv 0) (sa_cons (se_b sb_len T.bf.len boot_len rfl (sa_cons (sv 1) sa_nil)) sa_nil))) (sa_cons (se_call ((G__law_take TT).mono (by decide)) rfl T.gXlaw_take hr tk (sa_cons (sv 0) (sa_cons se_int sa_nil))) sa_nil)))) (sg_tup rfl (sgs_cons (sg_name 2 hN) (sgs_cons (sg_name 3 hN) (sgs_cons (sg_name 4 hN) sgs_nil))))))
  (ss_cons (ss_if (st_cmp (so_cEq hu) (sv 2) se_int) (ss_one (ss_ret (se_bin so_oAdd (sv 1) (se_tup (sa_cons (se_ix (sv 1) (sv 3)) sa_nil))))) ss_nil)
  (ss_cons (ss_if (st_cmp (so_cEq hu) (sv 2) se_int) (ss_one (ss_ret (sv 1))) ss_nil)
  (ss_cons (ss_asg (se_ix (sv 1) (sv 3)) (sg_name 5 hN))
  (ss_cons (ss_asg (se_bin so_oAdd (se_lst (sa_cons se_non sa_nil)) (se_listRg (se_b sb_len T.bf.len boot_len rfl (sa_cons (sv 1) sa_nil)) rfl rfl T.bf.list rfl T.bf.range)) (sg_name 6 hN))
  (ss_cons (ss_asg (se_if (st_cmp (so_cEq hu) (sv 4) se_int) (se_not (se_ix (sv 5) se_int)) (se_ix (sv 6) (se_call ((G__law_take TT).mono (by decide)) rfl T.gXlaw_take hr tk (sa_cons (sv 0) (sa_cons (se_b sb_len T.bf.len boot_len rfl (sa_cons (sv 6) sa_nil)) sa_nil))))) (sg_name 7 hN))
  (ss_cons (ss_asg (se_bin so_oAdd (se_bin so_oAdd (se_slice (sv 5) so_none (so_some (sv 4))) (se_tup (sa_cons (sv 7) sa_nil))) (se_slice (sv 5) (so_some (se_bin so_oAdd (sv 4) se_int)) so_none)) (sg_name 8 hN))
  (ss_one (ss_ret (se_bin so_oAdd (se_bin so_oAdd (se_slice (sv 1) so_none (so_some (sv 3))) (se_tup (sa_cons (sv 8) sa_nil))) (se_slice (sv 1) (so_some (se_bin so_oAdd (sv 3) se_int)) so_none)))))))))))
theorem G__law_machine (TT : ∀ TC : TabsC, TopOk (TC := TC) P w K mg base) : DefOk P w K mg base 1 (ga K "_law_machine") ["way"] DL.f__law_machine := by
  have T := TT TC
  obtain ⟨fd, F⟩ := T.d__law_machine
  have hN : (["way", "stop", "after", "still", "row", "begin", "turn", "last"] : List Str).Nodup := by decide +kernel
  refine def_ok (N := ["way", "stop", "after", "still", "row", "begin", "turn", "last"]) (ps := ["way"]) (n := 8) F ⟨rfl, rfl, rfl, hN, rfl, by decide +kernel, by decide +kernel⟩ rfl (by decide) (fun _ _ _ _ _ _ us hl => match us, hl with | [_], _ => rfl) fun cdv A outer s H E hr => ?_
  have hu := hr.units
  have tk := takes_of (X := cxOf (L2.CX P w) P w K mg base ["way", "stop", "after", "still", "row", "begin", "turn", "last"] d__law_machine.qual (defScope (top 93)) (ga K "_law_machine") cdv A outer s H E) (E := E) rfl rfl rfl rfl
  unfold DL.b__law_machine
  exact (ss_cons (by first | exact (ss_par3 rfl (sa_cons (se_tup (sa_cons se_non (sa_cons se_non (sa_cons se_non (sa_cons se_non sa_nil))))) (sa_cons (se_tup (sa_cons se_int (sa_cons se_int (sa_cons se_non (sa_cons se_non sa_nil))))) (sa_cons (se_tup (sa_cons se_int (sa_cons se_non (sa_cons se_non (sa_cons se_non sa_nil))))) sa_nil))) hN rfl rfl rfl (by decide) (by decide) (by decide) rfl rfl rfl rfl rfl) | exact (ss_asg (se_tup (sa_cons (se_tup (sa_cons se_non (sa_cons se_non (sa_cons se_non (sa_cons se_non sa_nil))))) (sa_cons (se_tup (sa_cons se_int (sa_cons se_int (sa_cons se_non (sa_cons se_non sa_nil))))) (sa_cons (se_tup (sa_cons se_int (sa_cons se_non (sa_cons se_non (sa_cons se_non sa_nil))))) sa_nil)))) (sg_tup rfl (sgs_cons (sg_name 1 hN) (sgs_cons (sg_name 2 hN) (sgs_cons (sg_name 3 hN) sgs_nil))))))
  (ss_cons (by first | exact (ss_par3 rfl (sa_cons (se_tup (sa_cons se_int (sa_cons se_int (sa_cons se_int (sa_cons se_int sa_nil))))) (sa_cons (se_tup (sa_cons se_int (sa_cons se_int (sa_cons se_int (sa_cons se_int sa_nil))))) (sa_cons (se_tup (sa_cons se_int (sa_cons se_int (sa_cons se_int (sa_cons se_non sa_nil))))) sa_nil))) hN rfl rfl rfl (by decide) (by decide) (by decide) rfl rfl rfl rfl rfl) | exact (ss_asg (se_tup (sa_cons (se_tup (sa_cons se_int (sa_cons se_int (sa_cons se_int (sa_cons se_int sa_nil))))) (sa_cons (se_tup (sa_cons se_int (sa_cons se_int (sa_cons se_int (sa_cons se_int sa_nil))))) (sa_cons (se_tup (sa_cons se_int (sa_cons se_int (sa_cons se_int (sa_cons se_non sa_nil))))) sa_nil)))) (sg_tup rfl (sgs_cons (sg_name 4 hN) (sgs_cons (sg_name 5 hN) (sgs_cons (sg_name 6 hN) sgs_nil))))))
  (ss_cons (ss_if (st_cmp (so_cEq hu) (sv 0) se_int) (ss_one (ss_ret (se_tup (sa_cons (se_bin so_oAdd (se_bin so_oMulT (se_tup (sa_cons se_int (sa_cons se_non (sa_cons se_non (sa_cons se_int sa_nil))))) se_int) (se_tup (sa_cons se_bl sa_nil))) (sa_cons (se_bin so_oAdd (se_bin so_oMulT (se_tup (sa_cons se_int (sa_cons se_non (sa_cons se_non (sa_cons se_non sa_nil))))) se_int) (se_tup (sa_cons se_bl sa_nil))) sa_nil))))) ss_nil)
  (ss_cons (ss_if (st_cmp (so_cIn hu) (sv 0) (se_lst (sa_cons se_int (sa_cons se_int sa_nil)))) (ss_one (ss_ret (se_tup (sa_cons (se_bin so_oAdd (se_bin so_oAdd (sv 4) (sv 4)) (se_tup (sa_cons se_int (sa_cons se_int (sa_cons se_non (sa_cons (se_if (st_cmp (so_cEq hu) (sv 0) se_int) se_non se_int) (sa_cons se_bl sa_nil))))))) (sa_cons (se_bin so_oAdd (se_bin so_oMulT (sv 2) se_int) (se_tup (sa_cons se_bl sa_nil))) sa_nil))))) ss_nil)
  (ss_cons (ss_asg (se_bin so_oAdd (se_bin so_oMulT (sv 3) se_int) (se_tup (sa_cons se_bl sa_nil))) (sg_name 7 hN))
  (ss_cons (ss_if (st_cmp (so_cEq hu) (sv 0) se_int) (ss_one (ss_ret (se_tup (sa_cons (se_bin so_oAdd (se_bin so_oMulT (sv 5) se_int) (se_tup (sa_cons se_int (sa_cons se_non (sa_cons se_non (sa_cons se_int (sa_cons se_bl sa_nil))))))) (sa_cons (se_bin so_oAdd (se_bin so_oAdd (se_bin so_oAdd (sv 1) (sv 6)) (sv 1)) (se_tup (sa_cons se_bl sa_nil))) (sa_cons (sv 7) sa_nil)))))) ss_nil)
  (ss_cons (ss_if (st_cmp (so_cEq hu) (sv 0) se_int) (ss_one (ss_ret (se_tup (sa_cons (se_bin so_oAdd (se_bin so_oMulT (se_tup (sa_cons se_int (sa_cons se_non (sa_cons se_int (sa_cons se_int sa_nil))))) se_int) (se_tup (sa_cons se_bl sa_nil))) (sa_cons (se_bin so_oAdd (se_bin so_oMulT (se_tup (sa_cons se_int (sa_cons se_int (sa_cons se_non (sa_cons se_non sa_nil))))) se_int) (se_tup (sa_cons se_bl sa_nil))) (sa_cons (sv 7) sa_nil)))))) ss_nil)
  (ss_cons (ss_if (st_cmp (so_cEq hu) (sv 0) se_int) (ss_one (ss_ret (se_tup (sa_cons (se_bin so_oAdd (se_bin so_oMulT (se_tup (sa_cons se_int (sa_cons se_int (sa_cons se_non (sa_cons se_int sa_nil))))) se_int) (se_tup (sa_cons se_bl sa_nil))) (sa_cons (se_bin so_oAdd (se_bin so_oMulT (se_tup (sa_cons se_int (sa_cons se_non (sa_cons se_int (sa_cons se_non sa_nil))))) se_int) (se_tup (sa_cons se_bl sa_nil))) (sa_cons (sv 7) sa_nil)))))) ss_nil)
  (ss_cons (ss_if (st_cmp (so_cEq hu) (sv 0) se_int) (ss_one (ss_ret (se_tup (sa_cons (se_bin so_oAdd (se_bin so_oMulT (sv 5) se_int) (se_tup (sa_cons se_bl sa_nil))) (sa_cons (se_bin so_oAdd (se_bin so_oMulT (se_tup (sa_cons se_non (sa_cons se_int (sa_cons se_int (sa_cons se_non sa_nil))))) se_int) (se_tup (sa_cons se_bl sa_nil))) (sa_cons (sv 7) sa_nil)))))) ss_nil)
  (ss_one (ss_ret (se_tup (sa_cons (se_bin so_oAdd (se_bin so_oMulT (se_tup (sa_cons se_int (sa_cons se_int (sa_cons se_int (sa_cons se_int sa_nil))))) se_int) (se_tup (sa_cons se_bl sa_nil))) (sa_cons (se_bin so_oAdd (se_bin so_oMulT (se_tup (sa_cons se_int (sa_cons se_non (sa_cons se_int (sa_cons se_non sa_nil))))) se_int) (se_tup (sa_cons se_bl sa_nil))) (sa_cons (se_bin so_oAdd (se_bin so_oMulT (se_tup (sa_cons se_int (sa_cons se_int (sa_cons se_non (sa_cons se_non sa_nil))))) se_int) (se_tup (sa_cons se_bl sa_nil))) (sa_cons (se_bin so_oAdd (se_bin so_oMulT (se_tup (sa_cons se_int (sa_cons se_non (sa_cons se_non (sa_cons se_non sa_nil))))) se_int) (se_tup (sa_cons se_bl sa_nil))) sa_nil))))))))))))))))
theorem B__law_reaches (TT : ∀ TC : TabsC, TopOk (TC := TC) P w K mg base) {cdv : Value} {A : Around} {outer : List PySem.Env} {s : Shared} {H : Hp} {E : XK} (hr : Room 3 (A.deeper (envOfC d__law_reaches.qual (defScope (top 90)) s.heap.objs.size (ga K "_law_reaches") cdv))) (CL : Clos (cxOf (L2.CX P w) P w K mg base ["start", "marks", "step", "wrong", "seen", "waiting", "turn", "state", "bits", "later"] d__law_reaches.qual (defScope (top 90)) (ga K "_law_reaches") cdv A outer s H E) 3 DL.clos) : SndSs (cxOf (L2.CX P w) P w K mg base ["start", "marks", "step", "wrong", "seen", "waiting", "turn", "state", "bits", "later"] d__law_reaches.qual (defScope (top 90)) (ga K "_law_reaches") cdv A outer s H E) [] (fun cls d _ H => E cls d H) (defBody (top 90)) DL.b__law_reaches := by
  have T := TT TC
  have hN : (["start", "marks", "step", "wrong", "seen", "waiting", "turn", "state", "bits", "later"] : List Str).Nodup := by decide +kernel
  have hu := hr.units
  have tk := takes_of (X := (cxOf (L2.CX P w) P w K mg base ["start", "marks", "step", "wrong", "seen", "waiting", "turn", "state", "bits", "later"] d__law_reaches.qual (defScope (top 90)) (ga K "_law_reaches") cdv A outer s H E)) (E := E) rfl rfl rfl rfl
  unfold DL.b__law_reaches
  exact (ss_cons (by first | exact (ss_par2 rfl (sa_cons (se_ns1 T.hP T.hw hu (sv 0)) (sa_cons (se_lst (sa_cons (sv 0) sa_nil)) sa_nil)) hN rfl rfl (by decide) rfl rfl rfl rfl) | exact (ss_asg (se_tup (sa_cons (se_ns1 T.hP T.hw hu (sv 0)) (sa_cons (se_lst (sa_cons (sv 0) sa_nil)) sa_nil))) (sg_tup rfl (sgs_cons (sg_name 4 hN) (sgs_cons (sg_name 5 hN) sgs_nil)))))
  (ss_cons (ss_for (si_range1 (sa_cons se_int sa_nil) rfl T.bf.range) (sg_name 6 hN) (ss_cons (ss_if (st_cmp (so_cEq hu) (sv 5) (se_lst sa_nil)) (ss_one (ss_ret se_bl)) ss_nil)
  (ss_cons (ss_asg (se_m0 .lst PySem.F.plainAttrs_list PySem.F.slot_list_pop PySem.F.type_list_pop sm_pop (sv 5)) (sg_name 7 hN))
  (ss_cons (ss_if (st_val (se_callF CL rfl hr tk (sa_cons (sv 7) sa_nil))) (ss_one (ss_ret se_bl)) ss_nil)
  (ss_one (ss_for (si_range1 (sa_cons (se_bin so_oMul se_int (sv 1)) sa_nil) rfl T.bf.range) (sg_name 8 hN) (ss_cons (ss_asg (se_callF CL rfl hr tk (sa_cons (sv 7) (sa_cons (se_bin so_oFdiv (sv 8) (sv 1)) (sa_cons (se_bin so_oMod (se_ty sb_int T.bf.int boot_int rfl (sa_cons (sv 8) sa_nil)) (sv 1)) sa_nil)))) (sg_name 9 hN))
  (ss_one (ss_if (st_pt (st_and (st_cmp (so_cNeT0 hu) (sv 9) (se_tup sa_nil)) (st_and1 (st_cmp (so_cNinN T.hP T.hw hu) (sv 9) (sv 4))))) (ss_cons (ss_asg se_bl (sg_ns T.hP T.hw hu (sv 4) (sv 9)))
  (ss_one (ss_expr (se_m .lst PySem.F.plainAttrs_list PySem.F.slot_list_append PySem.F.type_list_append sm_append (sv 5) (sa_cons (sv 9) sa_nil))))) ss_nil))) rfl (passes_of rfl)))))) rfl (passes_of rfl))
  (ss_one (ss_ret se_bl))))
theorem G__law_takes_all (TT : ∀ TC : TabsC, TopOk (TC := TC) P w K mg base) (nc : ∀ n, TC.clo n = none) (TF : TabH K mg base) : DefOk P w K mg base 6 (ga K "_law_takes_all") ["layer", "laid", "machine"] DL.f__law_takes_all := by
  have T := TT TC
  obtain ⟨fd, F⟩ := T.d__law_takes_all
  obtain ⟨fg, FG⟩ := T.d__law_reaches
  obtain ⟨c, Pt, hcode, TB, hm⟩ := TF.at_ "_law_takes_all" (by decide)
  have hN : (["layer", "laid", "machine", "_law_step", "_law_wrong"] : List Str).Nodup := by decide +kernel
  refine def_okC (N := ["layer", "laid", "machine", "_law_step", "_law_wrong"]) (ps := ["layer", "laid", "machine"]) (n := 5) F hcode ⟨rfl, rfl, rfl, hN, rfl, by decide +kernel, by decide +kernel⟩ rfl (by decide) (fun _ _ _ _ _ _ us hl => match us, hl with | [_, _, _], _ => rfl) fun A outer s H E hr => ?_
  have hu := hr.units
  have tk := takes_of (X := cxOf (L2.CX P w) P w K mg base ["layer", "laid", "machine", "_law_step", "_law_wrong"] d__law_takes_all.qual (defScope (top 96)) (ga K "_law_takes_all") (.ref c) A outer s H E) (E := E) rfl rfl rfl rfl
  unfold DL.b__law_takes_all
  exact ss_ho2 (k := 3) (ps1 := ["state", "letter", "mark"]) (ps2 := ["state"]) (T := DL.clos) (Ng := ["start", "marks", "step", "wrong", "seen", "waiting", "turn", "state", "bits", "later"]) (psg := ["start", "marks", "step", "wrong"]) TB rfl hm (fun p hp _ => TF.all p hp) hN (by decide) nc ⟨rfl, (by change nm (posS (sub (top 96) 0)).line (posS (sub (top 96) 0)).col = ((d__law_takes_all.qual ++ (".<locals>." : Str)) ++ ("_law_step" : Str)); decide +kernel), NdefX.ndef_free (sc := defScope (top 96)) (nsc := C8.fnScope (sub (top 96) 0)) (fr := ["layer", "laid", "machine"]) (by decide +kernel), NdefX.ndef_fr (sc := defScope (top 96)) (nsc := C8.fnScope (sub (top 96) 0)) (fr := ["layer", "laid", "machine"]) (by decide +kernel), rfl, rfl, rfl, rfl, .inl rfl, .inr rfl, rfl⟩ ⟨rfl, (by change nm (posS (sub (top 96) 1)).line (posS (sub (top 96) 1)).col = ((d__law_takes_all.qual ++ (".<locals>." : Str)) ++ ("_law_wrong" : Str)); decide +kernel), NdefX.ndef_free (sc := defScope (top 96)) (nsc := C8.fnScope (sub (top 96) 1)) (fr := ["laid", "machine"]) (by decide +kernel), NdefX.ndef_fr (sc := defScope (top 96)) (nsc := C8.fnScope (sub (top 96) 1)) (fr := ["laid", "machine"]) (by decide +kernel), rfl, rfl, rfl, rfl, .inl rfl, .inr rfl, rfl⟩ (fun T2 f c1 => (C__law_takes_all__law_step (TC := T2.t) TT).mono (by decide)) (fun T2 f c1 => (C__law_takes_all__law_wrong (TC := T2.t) TT).mono (by decide)) (fun cs vs G h => if_neg h) (fun cs vs G h => if_neg h) rfl rfl (by decide) FG ⟨rfl, rfl, rfl, by decide +kernel, rfl, by decide +kernel, by decide +kernel⟩ rfl (by decide) rfl (fun _ _ _ _ _ _ us hl => match us, hl with | [_, _, _, _], _ => rfl) (fun T2 cdv s H E hr CL => B__law_reaches (TC := T2.t) TT hr CL) rfl T.gXlaw_reaches (hr.mono (by decide)) tk (se_tup (sa_cons se_int (sa_cons (se_tup (sa_cons se_int (sa_cons se_int (sa_cons se_bl (sa_cons se_int sa_nil))))) (sa_cons se_int sa_nil)))) se_int
theorem G__law_has_none (TT : ∀ TC : TabsC, TopOk (TC := TC) P w K mg base) (nc : ∀ n, TC.clo n = none) (TF : TabH K mg base) : DefOk P w K mg base 6 (ga K "_law_has_none") ["sort", "laid", "machine"] DL.f__law_has_none := by
  have T := TT TC
  obtain ⟨fd, F⟩ := T.d__law_has_none
  obtain ⟨fg, FG⟩ := T.d__law_reaches
  obtain ⟨c, Pt, hcode, TB, hm⟩ := TF.at_ "_law_has_none" (by decide)
  have hN : (["sort", "laid", "machine", "_law_step", "_law_wrong"] : List Str).Nodup := by decide +kernel
  refine def_okC (N := ["sort", "laid", "machine", "_law_step", "_law_wrong"]) (ps := ["sort", "laid", "machine"]) (n := 5) F hcode ⟨rfl, rfl, rfl, hN, rfl, by decide +kernel, by decide +kernel⟩ rfl (by decide) (fun _ _ _ _ _ _ us hl => match us, hl with | [_, _, _], _ => rfl) fun A outer s H E hr => ?_
  have hu := hr.units
  have tk := takes_of (X := cxOf (L2.CX P w) P w K mg base ["sort", "laid", "machine", "_law_step", "_law_wrong"] d__law_has_none.qual (defScope (top 97)) (ga K "_law_has_none") (.ref c) A outer s H E) (E := E) rfl rfl rfl rfl
  unfold DL.b__law_has_none
  exact ss_ho2 (k := 3) (ps1 := ["state", "letter", "mark"]) (ps2 := ["state"]) (T := DL.clos) (Ng := ["start", "marks", "step", "wrong", "seen", "waiting", "turn", "state", "bits", "later"]) (psg := ["start", "marks", "step", "wrong"]) TB rfl hm (fun p hp _ => TF.all p hp) hN (by decide) nc ⟨rfl, (by change nm (posS (sub (top 97) 0)).line (posS (sub (top 97) 0)).col = ((d__law_has_none.qual ++ (".<locals>." : Str)) ++ ("_law_step" : Str)); decide +kernel), NdefX.ndef_free (sc := defScope (top 97)) (nsc := C8.fnScope (sub (top 97) 0)) (fr := ["sort", "laid", "machine"]) (by decide +kernel), NdefX.ndef_fr (sc := defScope (top 97)) (nsc := C8.fnScope (sub (top 97) 0)) (fr := ["sort", "laid", "machine"]) (by decide +kernel), rfl, rfl, rfl, rfl, .inl rfl, .inr rfl, rfl⟩ ⟨rfl, (by change nm (posS (sub (top 97) 1)).line (posS (sub (top 97) 1)).col = ((d__law_has_none.qual ++ (".<locals>." : Str)) ++ ("_law_wrong" : Str)); decide +kernel), NdefX.ndef_free (sc := defScope (top 97)) (nsc := C8.fnScope (sub (top 97) 1)) (fr := ["laid", "machine"]) (by decide +kernel), NdefX.ndef_fr (sc := defScope (top 97)) (nsc := C8.fnScope (sub (top 97) 1)) (fr := ["laid", "machine"]) (by decide +kernel), rfl, rfl, rfl, rfl, .inl rfl, .inr rfl, rfl⟩ (fun T2 f c1 => (C__law_has_none__law_step (TC := T2.t) TT).mono (by decide)) (fun T2 f c1 => (C__law_has_none__law_wrong (TC := T2.t) TT).mono (by decide)) (fun cs vs G h => if_neg h) (fun cs vs G h => if_neg h) rfl rfl (by decide) FG ⟨rfl, rfl, rfl, by decide +kernel, rfl, by decide +kernel, by decide +kernel⟩ rfl (by decide) rfl (fun _ _ _ _ _ _ us hl => match us, hl with | [_, _, _, _], _ => rfl) (fun T2 cdv s H E hr CL => B__law_reaches (TC := T2.t) TT hr CL) rfl T.gXlaw_reaches (hr.mono (by decide)) tk (se_tup (sa_cons se_int (sa_cons (se_tup (sa_cons se_int (sa_cons se_bl (sa_cons se_int sa_nil)))) (sa_cons se_int sa_nil)))) se_int
theorem G_PartX_initX (TT : ∀ TC : TabsC, TopOk (TC := TC) P w K mg base) : DefOk P w K mg base 1 (ma K (ga K "Part") "__init__") ["self", "heads", "span", "more"] DL.f_PartX_initX := by
  have T := TT TC
  obtain ⟨fd, F⟩ := T.d_PartX_initX
  have hN : (["self", "heads", "span", "more"] : List Str).Nodup := by decide +kernel
  refine def_ok (N := ["self", "heads", "span", "more"]) (ps := ["self", "heads", "span", "more"]) (n := 4) F ⟨rfl, rfl, rfl, hN, rfl, by decide +kernel, by decide +kernel⟩ rfl (by decide) (fun _ _ _ _ _ _ us hl => match us, hl with | [_, _, _, _], _ => rfl) fun cdv A outer s H E hr => ?_
  have hu := hr.units
  have tk := takes_of (X := cxOf (L2.CX P w) P w K mg base ["self", "heads", "span", "more"] d_PartX_initX.qual (defScope (cls 27 0)) (ma K (ga K "Part") "__init__") cdv A outer s H E) (E := E) rfl rfl rfl rfl
  unfold DL.b_PartX_initX
  exact (ss_cons (ss_asg (sv 1) (sg_tup rfl (sgs_cons (sg_fld T.C_Part T.n_Part_word (by decide +kernel) (sv 0)) (sgs_cons (sg_fld T.C_Part T.n_Part_scope (by decide +kernel) (sv 0)) sgs_nil))))
  (ss_cons (ss_asg (sv 2) (sg_tup rfl (sgs_cons (sg_fld T.C_Part T.n_Part_way (by decide +kernel) (sv 0)) (sgs_cons (sg_fld T.C_Part T.n_Part_number (by decide +kernel) (sv 0)) sgs_nil))))
  (ss_one (ss_asg (sv 3) (sg_tup rfl (sgs_cons (sg_fld T.C_Part T.n_Part_every (by decide +kernel) (sv 0)) (sgs_cons (sg_fld T.C_Part T.n_Part_own (by decide +kernel) (sv 0)) (sgs_cons (sg_fld T.C_Part T.n_Part_spare (by decide +kernel) (sv 0)) sgs_nil))))))))
theorem G_figure_at (TT : ∀ TC : TabsC, TopOk (TC := TC) P w K mg base) : DefOk P w K mg base 1 (ga K "figure_at") ["figure"] DL.f_figure_at := by
  have T := TT TC
  obtain ⟨fd, F⟩ := T.d_figure_at
  have hN : (["figure", "number", "other"] : List Str).Nodup := by decide +kernel
  refine def_ok (N := ["figure", "number", "other"]) (ps := ["figure"]) (n := 3) F ⟨rfl, rfl, rfl, hN, rfl, by decide +kernel, by decide +kernel⟩ rfl (by decide) (fun _ _ _ _ _ _ us hl => match us, hl with | [_], _ => rfl) fun cdv A outer s H E hr => ?_
  have hu := hr.units
  have tk := takes_of (X := cxOf (L2.CX P w) P w K mg base ["figure", "number", "other"] d_figure_at.qual (defScope (top 28)) (ga K "figure_at") cdv A outer s H E) (E := E) rfl rfl rfl rfl
  unfold DL.b_figure_at
  exact (ss_cons (ss_for (si_enum (sa_cons (se_glob T.c_FIGURES rfl) sa_nil) rfl T.bf.enumerate) (sg_tup rfl (sgs_cons (sg_name 1 hN) (sgs_cons (sg_name 2 hN) sgs_nil))) (ss_one (ss_if (st_cmp (so_cEq hu) (sv 2) (sv 0)) (ss_one (ss_ret (sv 1))) ss_nil)) rfl (passes_of rfl))
  (ss_one (ss_ret se_non)))
theorem G_span_of (TT : ∀ TC : TabsC, TopOk (TC := TC) P w K mg base) : DefOk P w K mg base 2 (ga K "span_of") ["scope", "words"] DL.f_span_of := by
  have T := TT TC
  obtain ⟨fd, F⟩ := T.d_span_of
  have hN : (["scope", "words"] : List Str).Nodup := by decide +kernel
  refine def_ok (N := ["scope", "words"]) (ps := ["scope", "words"]) (n := 2) F ⟨rfl, rfl, rfl, hN, rfl, by decide +kernel, by decide +kernel⟩ rfl (by decide) (fun _ _ _ _ _ _ us hl => match us, hl with | [_, _], _ => rfl) fun cdv A outer s H E hr => ?_
  have hu := hr.units
  have tk := takes_of (X := cxOf (L2.CX P w) P w K mg base ["scope", "words"] d_span_of.qual (defScope (top 29)) (ga K "span_of") cdv A outer s H E) (E := E) rfl rfl rfl rfl
  unfold DL.b_span_of
  exact (ss_cons (ss_if (st_cmp (so_cIn hu) (se_ix (sv 1) se_int) (se_tup (sa_cons se_str (sa_cons se_str sa_nil)))) (ss_one (ss_ret (se_if (st_cmp (so_cEq hu) (sv 0) se_str) (se_tup (sa_cons (se_tup (sa_cons (se_ix (sv 1) se_int) (sa_cons se_int sa_nil))) (sa_cons se_int sa_nil))) se_non))) ss_nil)
  (ss_cons (ss_if (st_pt (st_and (st_cmp so_cGt (se_b sb_len T.bf.len boot_len rfl (sa_cons (sv 1) sa_nil)) se_int) (st_and (st_cmp (so_cIn hu) (se_ix (sv 1) se_int) (se_tup (sa_cons se_str (sa_cons se_str (sa_cons se_str sa_nil))))) (st_and1 (st_cmp (so_cIn hu) (se_ix (sv 1) se_int) (se_glob T.c_FIGURES rfl)))))) (ss_one (ss_ret (se_tup (sa_cons (se_tup (sa_cons (se_ix (sv 1) se_int) (sa_cons (se_call ((G_figure_at TT).mono (by decide)) rfl T.g_figure_at hr tk (sa_cons (se_ix (sv 1) se_int) sa_nil)) sa_nil))) (sa_cons se_int sa_nil))))) ss_nil)
  (ss_cons (ss_if (st_pt (st_and (st_cmp so_cGt (se_b sb_len T.bf.len boot_len rfl (sa_cons (sv 1) sa_nil)) se_int) (st_and (st_cmp (so_cEq hu) (se_ix (sv 1) se_int) se_str) (st_and (st_cmp (so_cIn hu) (se_ix (sv 1) se_int) (se_slice (se_glob T.c_FIGURES rfl) (so_some se_int) so_none)) (st_and1 (st_cmp (so_cIn hu) (se_ix (sv 1) se_int) (se_tup (sa_cons se_str (sa_cons se_str sa_nil))))))))) (ss_one (ss_ret (se_tup (sa_cons (se_tup (sa_cons (se_fmt (se_ix (sv 1) se_int)) (sa_cons (se_call ((G_figure_at TT).mono (by decide)) rfl T.g_figure_at hr tk (sa_cons (se_ix (sv 1) se_int) sa_nil)) sa_nil))) (sa_cons se_int sa_nil))))) ss_nil)
  (ss_one (ss_ret se_non)))))
theorem G_part_of (TT : ∀ TC : TabsC, TopOk (TC := TC) P w K mg base) : DefOk P w K mg base 3 (ga K "part_of") ["layer"] DL.f_part_of := by
  have T := TT TC
  obtain ⟨fd, F⟩ := T.d_part_of
  have hN : (["layer", "words", "found", "span", "many", "rest", "every", "own"] : List Str).Nodup := by decide +kernel
  refine def_ok (N := ["layer", "words", "found", "span", "many", "rest", "every", "own"]) (ps := ["layer"]) (n := 8) F ⟨rfl, rfl, rfl, hN, rfl, by decide +kernel, by decide +kernel⟩ rfl (by decide) (fun _ _ _ _ _ _ us hl => match us, hl with | [_], _ => rfl) fun cdv A outer s H E hr => ?_
  have hu := hr.units
  have tk := takes_of (X := cxOf (L2.CX P w) P w K mg base ["layer", "words", "found", "span", "many", "rest", "every", "own"] d_part_of.qual (defScope (top 30)) (ga K "part_of") cdv A outer s H E) (E := E) rfl rfl rfl rfl
  unfold DL.b_part_of
  exact (ss_cons (ss_if (st_not (st_val (se_isi .str T.bf.isinstance T.bf.str boot_str (by rfl) (by rfl) (sv 0)))) (ss_one (ss_ret se_non)) ss_nil)
  (ss_cons (ss_asg (se_m .str PySem.F.plainAttrs_str PySem.F.slot_str_split PySem.F.type_str_split sm_split (sv 0) (sa_cons se_str sa_nil)) (sg_name 1 hN))
  (ss_cons (ss_if (st_cmp (so_cEq hu) (sv 1) (se_lst (sa_cons se_str sa_nil))) (ss_one (ss_ret (se_make ((G_PartX_initX TT).mono (by decide)) T.C_Part T.mk_Part (by decide +kernel) rfl hr (sa_cons (se_tup (sa_cons se_str (sa_cons se_str sa_nil))) (sa_cons (se_tup (sa_cons se_str (sa_cons se_int sa_nil))) (sa_cons (se_tup (sa_cons se_int (sa_cons se_bl (sa_cons se_bl sa_nil)))) sa_nil)))))) ss_nil)
  (ss_cons (ss_if (st_pt (st_or (st_cmp so_cLt (se_b sb_len T.bf.len boot_len rfl (sa_cons (sv 1) sa_nil)) se_int) (st_or (st_cmp (so_cNin hu) (se_ix (sv 1) se_int) (se_tup (sa_cons se_str (sa_cons se_str sa_nil)))) (st_or1 (st_cmp (so_cNin hu) (se_ix (sv 1) se_int) (se_tup (sa_cons se_str (sa_cons se_str (sa_cons se_str sa_nil))))))))) (ss_one (ss_ret se_non)) ss_nil)
  (ss_cons (ss_asg (se_call ((G_span_of TT).mono (by decide)) rfl T.g_span_of hr tk (sa_cons (se_ix (sv 1) se_int) (sa_cons (se_slice (sv 1) (so_some se_int) so_none) sa_nil))) (sg_name 2 hN))
  (ss_cons (ss_if (st_isN (sv 2)) (ss_one (ss_ret se_non)) ss_nil)
  (ss_cons (ss_asg (sv 2) (sg_tup rfl (sgs_cons (sg_name 3 hN) (sgs_cons (sg_name 4 hN) sgs_nil))))
  (ss_cons (by first | exact (ss_par2 rfl (sa_cons (se_slice (sv 1) (so_some (se_bin so_oAdd se_int (sv 4))) so_none) (sa_cons se_int sa_nil)) hN rfl rfl (by decide) rfl rfl rfl rfl) | exact (ss_asg (se_tup (sa_cons (se_slice (sv 1) (so_some (se_bin so_oAdd se_int (sv 4))) so_none) (sa_cons se_int sa_nil))) (sg_tup rfl (sgs_cons (sg_name 5 hN) (sgs_cons (sg_name 6 hN) sgs_nil)))))
  (ss_cons (ss_if (st_pt (st_and (st_cmp (so_cEq hu) (se_slice (sv 5) so_none (so_some se_int)) (se_lst (sa_cons se_str sa_nil))) (st_and (st_cmp (so_cIn hu) (se_ix (sv 3) se_int) (se_tup (sa_cons se_str (sa_cons se_str (sa_cons se_str sa_nil))))) (st_and1 (st_cmp (so_cIn hu) (se_slice (sv 5) (so_some se_int) (so_some se_int)) (se_tup (sa_cons (se_lst (sa_cons se_str sa_nil)) (sa_cons (se_lst (sa_cons se_str sa_nil)) sa_nil)))))))) (ss_one (by first | exact (ss_par2 rfl (sa_cons (se_slice (sv 5) (so_some se_int) so_none) (sa_cons (se_ty sb_int T.bf.int boot_int rfl (sa_cons (se_ix (sv 5) se_int) sa_nil)) sa_nil)) hN rfl rfl (by decide) rfl rfl rfl rfl) | exact (ss_asg (se_tup (sa_cons (se_slice (sv 5) (so_some se_int) so_none) (sa_cons (se_ty sb_int T.bf.int boot_int rfl (sa_cons (se_ix (sv 5) se_int) sa_nil)) sa_nil))) (sg_tup rfl (sgs_cons (sg_name 5 hN) (sgs_cons (sg_name 6 hN) sgs_nil)))))) ss_nil)
  (ss_cons (ss_asg (se_or (se_cmp (so_cEq hu) (se_ix (sv 1) se_int) se_str) (se_one (se_cmp (so_cEq hu) (se_slice (sv 5) so_none (so_some se_int)) (se_lst (sa_cons se_str sa_nil))))) (sg_name 7 hN))
  (ss_cons (ss_if (st_pt (st_and (st_cmp (so_cEq hu) (se_ix (sv 1) se_int) se_str) (st_and1 (st_val (sv 7))))) (ss_one (ss_asg (se_slice (sv 5) (so_some se_int) so_none) (sg_name 5 hN))) ss_nil)
  (ss_cons (ss_if (st_cmp (so_cNin hu) (sv 5) (se_tup (sa_cons (se_lst sa_nil) (sa_cons (se_lst (sa_cons se_str (sa_cons se_str sa_nil))) sa_nil)))) (ss_one (ss_ret se_non)) ss_nil)
  (ss_one (ss_ret (se_make ((G_PartX_initX TT).mono (by decide)) T.C_Part T.mk_Part (by decide +kernel) rfl hr (sa_cons (se_tup (sa_cons (se_ix (sv 1) se_int) (sa_cons (se_ix (sv 1) se_int) sa_nil))) (sa_cons (sv 3) (sa_cons (se_tup (sa_cons (sv 6) (sa_cons (sv 7) (sa_cons (se_cmp (so_cNe hu) (sv 5) (se_lst sa_nil)) sa_nil)))) sa_nil))))))))))))))))))
theorem G_width_of (TT : ∀ TC : TabsC, TopOk (TC := TC) P w K mg base) : DefOk P w K mg base 1 (ga K "width_of") ["part"] DL.f_width_of := by
  have T := TT TC
  obtain ⟨fd, F⟩ := T.d_width_of
  have hN : (["part"] : List Str).Nodup := by decide +kernel
  refine def_ok (N := ["part"]) (ps := ["part"]) (n := 1) F ⟨rfl, rfl, rfl, hN, rfl, by decide +kernel, by decide +kernel⟩ rfl (by decide) (fun _ _ _ _ _ _ us hl => match us, hl with | [_], _ => rfl) fun cdv A outer s H E hr => ?_
  have hu := hr.units
  have tk := takes_of (X := cxOf (L2.CX P w) P w K mg base ["part"] d_width_of.qual (defScope (top 31)) (ga K "width_of") cdv A outer s H E) (E := E) rfl rfl rfl rfl
  unfold DL.b_width_of
  exact (ss_cons (ss_if (st_cmp (so_cEq hu) (se_fld T.C_Part T.n_Part_word (by decide +kernel) (sv 0)) se_str) (ss_one (ss_ret se_int)) ss_nil)
  (ss_cons (ss_if (st_cmp (so_cIn hu) (se_fld T.C_Part T.n_Part_way (by decide +kernel) (sv 0)) (se_tup (sa_cons se_str (sa_cons se_str sa_nil)))) (ss_one (ss_ret se_int)) ss_nil)
  (ss_one (ss_ret (se_if (st_cmp (so_cEq hu) (se_fld T.C_Part T.n_Part_number (by decide +kernel) (sv 0)) se_int) (se_fld T.C_Part T.n_Part_every (by decide +kernel) (sv 0)) (se_fld T.C_Part T.n_Part_number (by decide +kernel) (sv 0)))))))
theorem G_first_wrong (TT : ∀ TC : TabsC, TopOk (TC := TC) P w K mg base) : DefOk P w K mg base 4 (ga K "first_wrong") ["layers"] DL.f_first_wrong := by
  have T := TT TC
  obtain ⟨fd, F⟩ := T.d_first_wrong
  have hN : (["layers", "whole", "index", "layer", "part"] : List Str).Nodup := by decide +kernel
  refine def_ok (N := ["layers", "whole", "index", "layer", "part"]) (ps := ["layers"]) (n := 5) F ⟨rfl, rfl, rfl, hN, rfl, by decide +kernel, by decide +kernel⟩ rfl (by decide) (fun _ _ _ _ _ _ us hl => match us, hl with | [_], _ => rfl) fun cdv A outer s H E hr => ?_
  have hu := hr.units
  have tk := takes_of (X := cxOf (L2.CX P w) P w K mg base ["layers", "whole", "index", "layer", "part"] d_first_wrong.qual (defScope (top 32)) (ga K "first_wrong") cdv A outer s H E) (E := E) rfl rfl rfl rfl
  unfold DL.b_first_wrong
  exact (ss_cons (ss_asg se_int (sg_name 1 hN))
  (ss_cons (ss_for (si_enum (sa_cons (sv 0) sa_nil) rfl T.bf.enumerate) (sg_tup rfl (sgs_cons (sg_name 2 hN) (sgs_cons (sg_name 3 hN) sgs_nil))) (ss_cons (ss_asg (se_call ((G_part_of TT).mono (by decide)) rfl T.g_part_of hr tk (sa_cons (sv 3) sa_nil)) (sg_name 4 hN))
  (ss_cons (ss_if (st_pt (st_or (st_cmp (so_cEq hu) (sv 2) (se_glob T.c_MOST_LAYERS rfl)) (st_or (st_isN (sv 4)) (st_or1 (st_cmp so_cGt (se_bin so_oAdd (sv 1) (se_call ((G_width_of TT).mono (by decide)) rfl T.g_width_of hr tk (sa_cons (sv 4) sa_nil))) (se_glob T.c_MOST_WIDTH rfl)))))) (ss_one (ss_ret (sv 2))) ss_nil)
  (ss_one (ss_aug 1 sp_aAdd (se_call ((G_width_of TT).mono (by decide)) rfl T.g_width_of hr tk (sa_cons (sv 4) sa_nil)) hN)))) rfl (passes_of rfl))
  (ss_one (ss_ret se_non))))
theorem G_ProgramX_initX (TT : ∀ TC : TabsC, TopOk (TC := TC) P w K mg base) : DefOk P w K mg base 5 (ma K (ga K "Program") "__init__") ["self", "layers"] DL.f_ProgramX_initX := by
  have T := TT TC
  obtain ⟨fd, F⟩ := T.d_ProgramX_initX
  have hN : (["self", "layers", "wrong"] : List Str).Nodup := by decide +kernel
  refine def_ok (N := ["self", "layers", "wrong"]) (ps := ["self", "layers"]) (n := 3) F ⟨rfl, rfl, rfl, hN, rfl, by decide +kernel, by decide +kernel⟩ rfl (by decide) (fun _ _ _ _ _ _ us hl => match us, hl with | [_, _], _ => rfl) fun cdv A outer s H E hr => ?_
  have hu := hr.units
  have tk := takes_of (X := cxOf (L2.CX P w) P w K mg base ["self", "layers", "wrong"] d_ProgramX_initX.qual (defScope (cls 33 0)) (ma K (ga K "Program") "__init__") cdv A outer s H E) (E := E) rfl rfl rfl rfl
  unfold DL.b_ProgramX_initX
  exact (ss_cons (ss_if (st_pt (st_or (st_not (st_val (se_isi .tuple T.bf.isinstance T.bf.tuple boot_tuple (by rfl) (by rfl) (sv 1)))) (st_or1 (st_cmp (so_cEqT0 hu) (sv 1) (se_tup sa_nil))))) (ss_one ss_bad) ss_nil)
  (ss_cons (ss_asg (se_call ((G_first_wrong TT).mono (by decide)) rfl T.g_first_wrong hr tk (sa_cons (sv 1) sa_nil)) (sg_name 2 hN))
  (ss_cons (ss_if (st_notN (sv 2)) (ss_one ss_bad) ss_nil)
  (ss_one (ss_asg (sv 1) (sg_fld T.C_Program T.n_Program_lines (by decide +kernel) (sv 0)))))))
theorem G_Program_read (TT : ∀ TC : TabsC, TopOk (TC := TC) P w K mg base) : DefOk P w K mg base 7 (He5.wf K (ga K "Program") "classmethod" "read") ["cls", "text"] DL.f_Program_read := by
  have T := TT TC
  obtain ⟨fd, F⟩ := T.d_Program_read
  have hN : (["cls", "text", "lines", "wrong"] : List Str).Nodup := by decide +kernel
  refine def_ok (N := ["cls", "text", "lines", "wrong"]) (ps := ["cls", "text"]) (n := 4) F ⟨rfl, rfl, rfl, hN, rfl, by decide +kernel, by decide +kernel⟩ rfl (by decide) (fun _ _ _ _ _ _ us hl => match us, hl with | [_, _], _ => rfl) fun cdv A outer s H E hr => ?_
  have hu := hr.units
  have tk := takes_of (X := cxOf (L2.CX P w) P w K mg base ["cls", "text", "lines", "wrong"] d_Program_read.qual (defScope (cls 33 1)) (He5.wf K (ga K "Program") "classmethod" "read") cdv A outer s H E) (E := E) rfl rfl rfl rfl
  unfold DL.b_Program_read
  exact (ss_cons (ss_if (st_not (st_val (se_isi .str T.bf.isinstance T.bf.str boot_str (by rfl) (by rfl) (sv 1)))) (ss_one ss_bad) ss_nil)
  (ss_cons (ss_asg (se_m .str PySem.F.plainAttrs_str PySem.F.slot_str_split PySem.F.type_str_split sm_split (sv 1) (sa_cons se_str sa_nil)) (sg_name 2 hN))
  (ss_cons (ss_asg (se_call ((G_first_wrong TT).mono (by decide)) rfl T.g_first_wrong hr tk (sa_cons (sv 2) sa_nil)) (sg_name 3 hN))
  (ss_cons (ss_if (st_notN (sv 3)) (ss_one (ss_raiseI T.X_WrongRow_index T.XI_WrongRow_index (by decide +kernel) hr rfl rfl tk (sv 3))) ss_nil)
  (ss_one (ss_ret (se_makeV 0 ((G_ProgramX_initX TT).mono (by decide)) T.C_Program T.mk_Program (sa_cons (se_ty sb_tuple T.bf.tuple boot_tuple rfl (sa_cons (sv 2) sa_nil)) sa_nil) hr)))))))
theorem G_program_of (TT : ∀ TC : TabsC, TopOk (TC := TC) P w K mg base) : DefOk P w K mg base 8 (ga K "program_of") ["value"] DL.f_program_of := by
  have T := TT TC
  obtain ⟨fd, F⟩ := T.d_program_of
  have hN : (["value"] : List Str).Nodup := by decide +kernel
  refine def_ok (N := ["value"]) (ps := ["value"]) (n := 1) F ⟨rfl, rfl, rfl, hN, rfl, by decide +kernel, by decide +kernel⟩ rfl (by decide) (fun _ _ _ _ _ _ us hl => match us, hl with | [_], _ => rfl) fun cdv A outer s H E hr => ?_
  have hu := hr.units
  have tk := takes_of (X := cxOf (L2.CX P w) P w K mg base ["value"] d_program_of.qual (defScope (top 75)) (ga K "program_of") cdv A outer s H E) (E := E) rfl rfl rfl rfl
  unfold DL.b_program_of
  exact (ss_cons (ss_if (st_not (st_val (se_isi .str T.bf.isinstance T.bf.str boot_str (by rfl) (by rfl) (sv 0)))) (ss_one (ss_ret se_non)) ss_nil)
  (ss_one (ss_catch rfl rfl (by decide +kernel) T.g_WrongRow rfl T.XE_WrongRow tk (fun _ _ _ tk => (ss_one (ss_ret (se_callC ((G_Program_read TT).mono (by decide)) T.cm_Program_read (sa_cons (sv 0) sa_nil) (by decide +kernel) rfl hr tk)))) (fun _ _ => (ss_one (ss_ret se_non))))))
theorem G_Program_layers (TT : ∀ TC : TabsC, TopOk (TC := TC) P w K mg base) : DefOk P w K mg base 1 (He5.wf K (ga K "Program") "property" "layers") ["self"] DL.f_Program_layers := by
  have T := TT TC
  obtain ⟨fd, F⟩ := T.d_Program_layers
  have hN : (["self"] : List Str).Nodup := by decide +kernel
  refine def_ok (N := ["self"]) (ps := ["self"]) (n := 1) F ⟨rfl, rfl, rfl, hN, rfl, by decide +kernel, by decide +kernel⟩ rfl (by decide) (fun _ _ _ _ _ _ us hl => match us, hl with | [_], _ => rfl) fun cdv A outer s H E hr => ?_
  have hu := hr.units
  have tk := takes_of (X := cxOf (L2.CX P w) P w K mg base ["self"] d_Program_layers.qual (defScope (cls 33 2)) (He5.wf K (ga K "Program") "property" "layers") cdv A outer s H E) (E := E) rfl rfl rfl rfl
  unfold DL.b_Program_layers
  exact (ss_one (ss_ret (se_fld T.C_Program T.n_Program_lines (by decide +kernel) (sv 0))))
theorem G_parts_of (TT : ∀ TC : TabsC, TopOk (TC := TC) P w K mg base) : DefOk P w K mg base 4 (ga K "parts_of") ["program"] DL.f_parts_of := by
  have T := TT TC
  obtain ⟨fd, F⟩ := T.d_parts_of
  have hN : (["program", "layer"] : List Str).Nodup := by decide +kernel
  refine def_ok (N := ["program", "layer"]) (ps := ["program"]) (n := 2) F ⟨rfl, rfl, rfl, hN, rfl, by decide +kernel, by decide +kernel⟩ rfl (by decide) (fun _ _ _ _ _ _ us hl => match us, hl with | [_], _ => rfl) fun cdv A outer s H E hr => ?_
  have hu := hr.units
  have tk := takes_of (X := cxOf (L2.CX P w) P w K mg base ["program", "layer"] d_parts_of.qual (defScope (top 35)) (ga K "parts_of") cdv A outer s H E) (E := E) rfl rfl rfl rfl
  unfold DL.b_parts_of
  exact (ss_one (ss_ret (se_lc [("layer", 1)] rfl hN (si_seq (se_prop ((G_Program_layers TT).mono (by decide)) T.C_Program T.p_Program_layers hr (sv 0))) (fun _ _ _ _ _ => (sg_name 1 hN)) (fun _ _ _ _ _ => sts_nil) (fun _ _ _ _ _ => (se_call ((G_part_of TT).mono (by decide)) rfl T.g_part_of hr takes0 (sa_cons (sv 1) sa_nil))) (blkOk_by (by kernel_rfl)))))
theorem G_is_integer (TT : ∀ TC : TabsC, TopOk (TC := TC) P w K mg base) : DefOk P w K mg base 1 (ga K "is_integer") ["value"] DL.f_is_integer := by
  have T := TT TC
  obtain ⟨fd, F⟩ := T.d_is_integer
  have hN : (["value"] : List Str).Nodup := by decide +kernel
  refine def_ok (N := ["value"]) (ps := ["value"]) (n := 1) F ⟨rfl, rfl, rfl, hN, rfl, by decide +kernel, by decide +kernel⟩ rfl (by decide) (fun _ _ _ _ _ _ us hl => match us, hl with | [_], _ => rfl) fun cdv A outer s H E hr => ?_
  have hu := hr.units
  have tk := takes_of (X := cxOf (L2.CX P w) P w K mg base ["value"] d_is_integer.qual (defScope (top 15)) (ga K "is_integer") cdv A outer s H E) (E := E) rfl rfl rfl rfl
  unfold DL.b_is_integer
  exact (ss_one (ss_ret (se_and (se_isi .int T.bf.isinstance T.bf.int boot_int (by rfl) (by rfl) (sv 0)) (se_one (se_not (se_isi .bool T.bf.isinstance T.bf.bool boot_bool (by rfl) (by rfl) (sv 0)))))))
theorem G_is_within (TT : ∀ TC : TabsC, TopOk (TC := TC) P w K mg base) : DefOk P w K mg base 2 (ga K "is_within") ["value", "low", "high"] DL.f_is_within := by
  have T := TT TC
  obtain ⟨fd, F⟩ := T.d_is_within
  have hN : (["value", "low", "high"] : List Str).Nodup := by decide +kernel
  refine def_ok (N := ["value", "low", "high"]) (ps := ["value", "low", "high"]) (n := 3) F ⟨rfl, rfl, rfl, hN, rfl, by decide +kernel, by decide +kernel⟩ rfl (by decide) (fun _ _ _ _ _ _ us hl => match us, hl with | [_, _, _], _ => rfl) fun cdv A outer s H E hr => ?_
  have hu := hr.units
  have tk := takes_of (X := cxOf (L2.CX P w) P w K mg base ["value", "low", "high"] d_is_within.qual (defScope (top 16)) (ga K "is_within") cdv A outer s H E) (E := E) rfl rfl rfl rfl
  unfold DL.b_is_within
  exact (ss_one (ss_ret (se_and (se_call ((G_is_integer TT).mono (by decide)) rfl T.g_is_integer hr tk (sa_cons (sv 0) sa_nil)) (se_one (se_chain so_cLe so_cLe (sv 1) (sv 0) (sv 2))))))
theorem G_is_state (TT : ∀ TC : TabsC, TopOk (TC := TC) P w K mg base) : DefOk P w K mg base 3 (ga K "is_state") ["value", "many"] DL.f_is_state := by
  have T := TT TC
  obtain ⟨fd, F⟩ := T.d_is_state
  have hN : (["value", "many", "later"] : List Str).Nodup := by decide +kernel
  refine def_ok (N := ["value", "many", "later"]) (ps := ["value", "many"]) (n := 3) F ⟨rfl, rfl, rfl, hN, rfl, by decide +kernel, by decide +kernel⟩ rfl (by decide) (fun _ _ _ _ _ _ us hl => match us, hl with | [_, _], _ => rfl) fun cdv A outer s H E hr => ?_
  have hu := hr.units
  have tk := takes_of (X := cxOf (L2.CX P w) P w K mg base ["value", "many", "later"] d_is_state.qual (defScope (top 40)) (ga K "is_state") cdv A outer s H E) (E := E) rfl rfl rfl rfl
  unfold DL.b_is_state
  exact (ss_cons (ss_if (st_pt (st_or (st_not (st_val (se_isi .tuple T.bf.isinstance T.bf.tuple boot_tuple (by rfl) (by rfl) (sv 0)))) (st_or (st_cmp (so_cNe hu) (se_b sb_len T.bf.len boot_len rfl (sa_cons (sv 0) sa_nil)) (se_glob T.c_ELEMENTS rfl)) (st_or1 (st_not (st_val (se_isi .bool T.bf.isinstance T.bf.bool boot_bool (by rfl) (by rfl) (se_ix (sv 0) (se_neg se_int))))))))) (ss_one (ss_ret se_bl)) ss_nil)
  (ss_one (ss_ret (se_b (sb_all rfl) T.bf.all boot_all rfl (sa_cons (se_lc [("later", 2)] rfl hN (si_seq (se_slice (sv 0) so_none (so_some (se_neg se_int)))) (fun _ _ _ _ _ => (sg_name 2 hN)) (fun _ _ _ _ _ => sts_nil) (fun _ _ _ _ _ => (se_or (se_isN (sv 2)) (se_one (se_call ((G_is_within TT).mono (by decide)) rfl T.g_is_within hr takes0 (sa_cons (sv 2) (sa_cons se_int (sa_cons (se_bin so_oSub (sv 1) se_int) sa_nil))))))) (blkOk_by (by kernel_rfl))) sa_nil)))))
theorem G_is_machine (TT : ∀ TC : TabsC, TopOk (TC := TC) P w K mg base) : DefOk P w K mg base 4 (ga K "is_machine") ["value"] DL.f_is_machine := by
  have T := TT TC
  obtain ⟨fd, F⟩ := T.d_is_machine
  have hN : (["value", "state"] : List Str).Nodup := by decide +kernel
  refine def_ok (N := ["value", "state"]) (ps := ["value"]) (n := 2) F ⟨rfl, rfl, rfl, hN, rfl, by decide +kernel, by decide +kernel⟩ rfl (by decide) (fun _ _ _ _ _ _ us hl => match us, hl with | [_], _ => rfl) fun cdv A outer s H E hr => ?_
  have hu := hr.units
  have tk := takes_of (X := cxOf (L2.CX P w) P w K mg base ["value", "state"] d_is_machine.qual (defScope (top 41)) (ga K "is_machine") cdv A outer s H E) (E := E) rfl rfl rfl rfl
  unfold DL.b_is_machine
  exact (ss_one (ss_ret (se_and (se_isi .tuple T.bf.isinstance T.bf.tuple boot_tuple (by rfl) (by rfl) (sv 0)) (se_and (se_cmp (so_cNeT0 hu) (sv 0) (se_tup sa_nil)) (se_one (se_b (sb_all rfl) T.bf.all boot_all rfl (sa_cons (se_lc [("state", 1)] rfl hN (si_seq (sv 0)) (fun _ _ _ _ _ => (sg_name 1 hN)) (fun _ _ _ _ _ => sts_nil) (fun _ _ _ _ _ => (se_call ((G_is_state TT).mono (by decide)) rfl T.g_is_state hr takes0 (sa_cons (sv 1) (sa_cons (se_b sb_len T.bf.len boot_len rfl (sa_cons (sv 0) sa_nil)) sa_nil)))) (blkOk_by (by kernel_rfl))) sa_nil)))))))
theorem G_are_machines (TT : ∀ TC : TabsC, TopOk (TC := TC) P w K mg base) : DefOk P w K mg base 5 (ga K "are_machines") ["value", "many"] DL.f_are_machines := by
  have T := TT TC
  obtain ⟨fd, F⟩ := T.d_are_machines
  have hN : (["value", "many", "machine"] : List Str).Nodup := by decide +kernel
  refine def_ok (N := ["value", "many", "machine"]) (ps := ["value", "many"]) (n := 3) F ⟨rfl, rfl, rfl, hN, rfl, by decide +kernel, by decide +kernel⟩ rfl (by decide) (fun _ _ _ _ _ _ us hl => match us, hl with | [_, _], _ => rfl) fun cdv A outer s H E hr => ?_
  have hu := hr.units
  have tk := takes_of (X := cxOf (L2.CX P w) P w K mg base ["value", "many", "machine"] d_are_machines.qual (defScope (top 42)) (ga K "are_machines") cdv A outer s H E) (E := E) rfl rfl rfl rfl
  unfold DL.b_are_machines
  exact (ss_one (ss_ret (se_and (se_isi .tuple T.bf.isinstance T.bf.tuple boot_tuple (by rfl) (by rfl) (sv 0)) (se_and (se_cmp (so_cEq hu) (se_b sb_len T.bf.len boot_len rfl (sa_cons (sv 0) sa_nil)) (sv 1)) (se_one (se_b (sb_all rfl) T.bf.all boot_all rfl (sa_cons (se_lc [("machine", 2)] rfl hN (si_seq (sv 0)) (fun _ _ _ _ _ => (sg_name 2 hN)) (fun _ _ _ _ _ => sts_nil) (fun _ _ _ _ _ => (se_call ((G_is_machine TT).mono (by decide)) rfl T.g_is_machine hr takes0 (sa_cons (sv 2) sa_nil))) (blkOk_by (by kernel_rfl))) sa_nil)))))))
theorem B_is_reached (TT : ∀ TC : TabsC, TopOk (TC := TC) P w K mg base) {cdv : Value} {A : Around} {outer : List PySem.Env} {s : Shared} {H : Hp} {E : XK} (hr : Room 3 (A.deeper (envOfC d_is_reached.qual (defScope (top 63)) s.heap.objs.size (ga K "is_reached") cdv))) (CL : Clos (cxOf (L2.CX P w) P w K mg base ["start", "step", "is_wrong", "seen", "waiting", "state", "letter", "bits", "later"] d_is_reached.qual (defScope (top 63)) (ga K "is_reached") cdv A outer s H E) 3 DL.clos) : SndSs (cxOf (L2.CX P w) P w K mg base ["start", "step", "is_wrong", "seen", "waiting", "state", "letter", "bits", "later"] d_is_reached.qual (defScope (top 63)) (ga K "is_reached") cdv A outer s H E) [] (fun cls d _ H => E cls d H) (defBody (top 63)) DL.b_is_reached := by
  have T := TT TC
  have hN : (["start", "step", "is_wrong", "seen", "waiting", "state", "letter", "bits", "later"] : List Str).Nodup := by decide +kernel
  have hu := hr.units
  have tk := takes_of (X := (cxOf (L2.CX P w) P w K mg base ["start", "step", "is_wrong", "seen", "waiting", "state", "letter", "bits", "later"] d_is_reached.qual (defScope (top 63)) (ga K "is_reached") cdv A outer s H E)) (E := E) rfl rfl rfl rfl
  unfold DL.b_is_reached
  exact (ss_cons (by first | exact (ss_par2 rfl (sa_cons (se_ns1 T.hP T.hw hu (sv 0)) (sa_cons (se_lst (sa_cons (sv 0) sa_nil)) sa_nil)) hN rfl rfl (by decide) rfl rfl rfl rfl) | exact (ss_asg (se_tup (sa_cons (se_ns1 T.hP T.hw hu (sv 0)) (sa_cons (se_lst (sa_cons (sv 0) sa_nil)) sa_nil))) (sg_tup rfl (sgs_cons (sg_name 3 hN) (sgs_cons (sg_name 4 hN) sgs_nil)))))
  (ss_cons (ss_while (st_lst (sv 4)) (ss_cons (ss_asg (se_m0 .lst PySem.F.plainAttrs_list PySem.F.slot_list_pop PySem.F.type_list_pop sm_pop (sv 4)) (sg_name 5 hN))
  (ss_cons (ss_if (st_val (se_callF CL rfl hr tk (sa_cons (sv 5) sa_nil))) (ss_one (ss_ret se_bl)) ss_nil)
  (ss_one (ss_for (si_range1 (sa_cons se_int sa_nil) rfl T.bf.range) (sg_name 6 hN) (ss_one (ss_for (si_range1 (sa_cons se_int sa_nil) rfl T.bf.range) (sg_name 7 hN) (ss_cons (ss_asg (se_callF CL rfl hr tk (sa_cons (sv 5) (sa_cons (sv 6) (sa_cons (sv 7) sa_nil)))) (sg_name 8 hN))
  (ss_one (ss_if (st_pt (st_and (st_notN (sv 8)) (st_and1 (st_cmp (so_cNinN T.hP T.hw hu) (sv 8) (sv 3))))) (ss_cons (ss_asg se_bl (sg_ns T.hP T.hw hu (sv 3) (sv 8)))
  (ss_one (ss_expr (se_m .lst PySem.F.plainAttrs_list PySem.F.slot_list_append PySem.F.type_list_append sm_append (sv 4) (sa_cons (sv 8) sa_nil))))) ss_nil))) rfl (passes_of rfl))) rfl (passes_of rfl))))) (passes_of rfl))
  (ss_one (ss_ret se_bl))))
theorem G_holds_layer (TT : ∀ TC : TabsC, TopOk (TC := TC) P w K mg base) (nc : ∀ n, TC.clo n = none) (TF : TabH K mg base) : DefOk P w K mg base 6 (ga K "holds_layer") ["part", "plan", "inner", "outer"] DL.f_holds_layer := by
  have T := TT TC
  obtain ⟨fd, F⟩ := T.d_holds_layer
  obtain ⟨fg, FG⟩ := T.d_is_reached
  obtain ⟨c, Pt, hcode, TB, hm⟩ := TF.at_ "holds_layer" (by decide)
  have hN : (["part", "plan", "inner", "outer", "step", "is_wrong"] : List Str).Nodup := by decide +kernel
  refine def_okC (N := ["part", "plan", "inner", "outer", "step", "is_wrong"]) (ps := ["part", "plan", "inner", "outer"]) (n := 6) F hcode ⟨rfl, rfl, rfl, hN, rfl, by decide +kernel, by decide +kernel⟩ rfl (by decide) (fun _ _ _ _ _ _ us hl => match us, hl with | [_, _, _, _], _ => rfl) fun A outer s H E hr => ?_
  have hu := hr.units
  have tk := takes_of (X := cxOf (L2.CX P w) P w K mg base ["part", "plan", "inner", "outer", "step", "is_wrong"] d_holds_layer.qual (defScope (top 64)) (ga K "holds_layer") (.ref c) A outer s H E) (E := E) rfl rfl rfl rfl
  unfold DL.b_holds_layer
  exact ss_ho (k := 3) (ps1 := ["state", "letter", "bits"]) (ps2 := ["state"]) (T := DL.clos) (Ng := ["start", "step", "is_wrong", "seen", "waiting", "state", "letter", "bits", "later"]) (psg := ["start", "step", "is_wrong"]) TB rfl hm (fun p hp _ => TF.all p hp) hN (by decide) nc ⟨rfl, (by change nm (posS (sub (top 64) 0)).line (posS (sub (top 64) 0)).col = ((d_holds_layer.qual ++ (".<locals>." : Str)) ++ ("step" : Str)); decide +kernel), NdefX.ndef_free (sc := defScope (top 64)) (nsc := C8.fnScope (sub (top 64) 0)) (fr := ["part", "plan", "inner", "outer"]) (by decide +kernel), NdefX.ndef_fr (sc := defScope (top 64)) (nsc := C8.fnScope (sub (top 64) 0)) (fr := ["part", "plan", "inner", "outer"]) (by decide +kernel), rfl, rfl, rfl, rfl, .inl rfl, .inr rfl, rfl⟩ ⟨rfl, (by change nm (posS (sub (top 64) 1)).line (posS (sub (top 64) 1)).col = ((d_holds_layer.qual ++ (".<locals>." : Str)) ++ ("is_wrong" : Str)); decide +kernel), NdefX.ndef_free (sc := defScope (top 64)) (nsc := C8.fnScope (sub (top 64) 1)) (fr := ["plan", "inner", "outer"]) (by decide +kernel), NdefX.ndef_fr (sc := defScope (top 64)) (nsc := C8.fnScope (sub (top 64) 1)) (fr := ["plan", "inner", "outer"]) (by decide +kernel), rfl, rfl, rfl, rfl, .inl rfl, .inr rfl, rfl⟩ (fun T2 f c1 => (C_holds_layer_step (TC := T2.t) TT).mono (by decide)) (fun T2 f c1 => (C_holds_layer_is_wrong (TC := T2.t) TT).mono (by decide)) (fun cs vs G h => if_neg h) (fun cs vs G h => if_neg h) rfl rfl (by decide) FG ⟨rfl, rfl, rfl, by decide +kernel, rfl, by decide +kernel, by decide +kernel⟩ rfl (by decide) rfl (fun _ _ _ _ _ _ us hl => match us, hl with | [_, _, _], _ => rfl) (fun T2 cdv s H E hr CL => B_is_reached (TC := T2.t) TT hr CL) rfl T.g_is_reached (hr.mono (by decide)) tk (se_tup (sa_cons se_int (sa_cons se_int (sa_cons (se_tup (sa_cons se_int (sa_cons se_int sa_nil))) (sa_cons se_int (sa_cons se_int sa_nil))))))
theorem G_holds_layers (TT : ∀ TC : TabsC, TopOk (TC := TC) P w K mg base) (nc : ∀ n, TC.clo n = none) (TF : TabH K mg base) : DefOk P w K mg base 7 (ga K "holds_layers") ["parts", "plan", "machines"] DL.f_holds_layers := by
  have T := TT TC
  obtain ⟨fd, F⟩ := T.d_holds_layers
  have hN : (["parts", "plan", "machines", "at", "part"] : List Str).Nodup := by decide +kernel
  refine def_ok (N := ["parts", "plan", "machines", "at", "part"]) (ps := ["parts", "plan", "machines"]) (n := 5) F ⟨rfl, rfl, rfl, hN, rfl, by decide +kernel, by decide +kernel⟩ rfl (by decide) (fun _ _ _ _ _ _ us hl => match us, hl with | [_, _, _], _ => rfl) fun cdv A outer s H E hr => ?_
  have hu := hr.units
  have tk := takes_of (X := cxOf (L2.CX P w) P w K mg base ["parts", "plan", "machines", "at", "part"] d_holds_layers.qual (defScope (top 67)) (ga K "holds_layers") cdv A outer s H E) (E := E) rfl rfl rfl rfl
  unfold DL.b_holds_layers
  exact (ss_one (ss_ret (se_b (sb_all rfl) T.bf.all boot_all rfl (sa_cons (se_lc [("at", 3), ("part", 4)] rfl hN (si_enum (sa_cons (sv 0) sa_nil) rfl T.bf.enumerate) (fun _ _ _ _ _ => (sg_tup rfl (sgs_cons (sg_name 3 hN) (sgs_cons (sg_name 4 hN) sgs_nil)))) (fun _ _ _ _ _ => sts_nil) (fun _ _ _ _ _ => (se_call ((G_holds_layer TT nc TF).mono (by decide)) rfl T.g_holds_layer hr takes0 (sa_cons (sv 4) (sa_cons (sv 1) (sa_cons (se_ix (sv 2) (sv 3)) (sa_cons (se_ix (sv 2) (se_bin so_oAdd (sv 3) se_int)) sa_nil)))))) (blkOk_by (by kernel_rfl))) sa_nil))))
theorem G_holds_none (TT : ∀ TC : TabsC, TopOk (TC := TC) P w K mg base) (nc : ∀ n, TC.clo n = none) (TF : TabH K mg base) : DefOk P w K mg base 6 (ga K "holds_none") ["plan", "kind", "machine"] DL.f_holds_none := by
  have T := TT TC
  obtain ⟨fd, F⟩ := T.d_holds_none
  obtain ⟨fg, FG⟩ := T.d_is_reached
  obtain ⟨c, Pt, hcode, TB, hm⟩ := TF.at_ "holds_none" (by decide)
  have hN : (["plan", "kind", "machine", "step", "is_wrong"] : List Str).Nodup := by decide +kernel
  refine def_okC (N := ["plan", "kind", "machine", "step", "is_wrong"]) (ps := ["plan", "kind", "machine"]) (n := 5) F hcode ⟨rfl, rfl, rfl, hN, rfl, by decide +kernel, by decide +kernel⟩ rfl (by decide) (fun _ _ _ _ _ _ us hl => match us, hl with | [_, _, _], _ => rfl) fun A outer s H E hr => ?_
  have hu := hr.units
  have tk := takes_of (X := cxOf (L2.CX P w) P w K mg base ["plan", "kind", "machine", "step", "is_wrong"] d_holds_none.qual (defScope (top 66)) (ga K "holds_none") (.ref c) A outer s H E) (E := E) rfl rfl rfl rfl
  unfold DL.b_holds_none
  exact ss_ho (k := 3) (ps1 := ["state", "letter", "bits"]) (ps2 := ["state"]) (T := DL.clos) (Ng := ["start", "step", "is_wrong", "seen", "waiting", "state", "letter", "bits", "later"]) (psg := ["start", "step", "is_wrong"]) TB rfl hm (fun p hp _ => TF.all p hp) hN (by decide) nc ⟨rfl, (by change nm (posS (sub (top 66) 0)).line (posS (sub (top 66) 0)).col = ((d_holds_none.qual ++ (".<locals>." : Str)) ++ ("step" : Str)); decide +kernel), NdefX.ndef_free (sc := defScope (top 66)) (nsc := C8.fnScope (sub (top 66) 0)) (fr := ["plan", "kind", "machine"]) (by decide +kernel), NdefX.ndef_fr (sc := defScope (top 66)) (nsc := C8.fnScope (sub (top 66) 0)) (fr := ["plan", "kind", "machine"]) (by decide +kernel), rfl, rfl, rfl, rfl, .inl rfl, .inr rfl, rfl⟩ ⟨rfl, (by change nm (posS (sub (top 66) 1)).line (posS (sub (top 66) 1)).col = ((d_holds_none.qual ++ (".<locals>." : Str)) ++ ("is_wrong" : Str)); decide +kernel), NdefX.ndef_free (sc := defScope (top 66)) (nsc := C8.fnScope (sub (top 66) 1)) (fr := ["plan", "machine"]) (by decide +kernel), NdefX.ndef_fr (sc := defScope (top 66)) (nsc := C8.fnScope (sub (top 66) 1)) (fr := ["plan", "machine"]) (by decide +kernel), rfl, rfl, rfl, rfl, .inl rfl, .inr rfl, rfl⟩ (fun T2 f c1 => (C_holds_none_step (TC := T2.t) TT).mono (by decide)) (fun T2 f c1 => (C_holds_none_is_wrong (TC := T2.t) TT).mono (by decide)) (fun cs vs G h => if_neg h) (fun cs vs G h => if_neg h) rfl rfl (by decide) FG ⟨rfl, rfl, rfl, by decide +kernel, rfl, by decide +kernel, by decide +kernel⟩ rfl (by decide) rfl (fun _ _ _ _ _ _ us hl => match us, hl with | [_, _, _], _ => rfl) (fun T2 cdv s H E hr CL => B_is_reached (TC := T2.t) TT hr CL) rfl T.g_is_reached (hr.mono (by decide)) tk (se_tup (sa_cons se_int (sa_cons (se_tup (sa_cons se_int (sa_cons se_bl sa_nil))) (sa_cons se_int sa_nil))))
theorem G_shows_never (TT : ∀ TC : TabsC, TopOk (TC := TC) P w K mg base) (nc : ∀ n, TC.clo n = none) (TF : TabH K mg base) : DefOk P w K mg base 8 (ga K "shows_never") ["parts", "kind", "plan", "machines"] DL.f_shows_never := by
  have T := TT TC
  obtain ⟨fd, F⟩ := T.d_shows_never
  have hN : (["parts", "kind", "plan", "machines"] : List Str).Nodup := by decide +kernel
  refine def_ok (N := ["parts", "kind", "plan", "machines"]) (ps := ["parts", "kind", "plan", "machines"]) (n := 4) F ⟨rfl, rfl, rfl, hN, rfl, by decide +kernel, by decide +kernel⟩ rfl (by decide) (fun _ _ _ _ _ _ us hl => match us, hl with | [_, _, _, _], _ => rfl) fun cdv A outer s H E hr => ?_
  have hu := hr.units
  have tk := takes_of (X := cxOf (L2.CX P w) P w K mg base ["parts", "kind", "plan", "machines"] d_shows_never.qual (defScope (top 68)) (ga K "shows_never") cdv A outer s H E) (E := E) rfl rfl rfl rfl
  unfold DL.b_shows_never
  exact (ss_cons (ss_if (st_not (st_val (se_call ((G_are_machines TT).mono (by decide)) rfl T.g_are_machines hr tk (sa_cons (sv 3) (sa_cons (se_b sb_len T.bf.len boot_len rfl (sa_cons (sv 0) sa_nil)) sa_nil))))) (ss_one (ss_ret se_bl)) ss_nil)
  (ss_one (ss_ret (se_and (se_call ((G_holds_layers TT nc TF).mono (by decide)) rfl T.g_holds_layers hr tk (sa_cons (sv 0) (sa_cons (sv 2) (sa_cons (se_tup (sa_cons (se_glob T.c_ALONE rfl) (sa_star (sv 3) sa_nil))) sa_nil)))) (se_one (se_call ((G_holds_none TT nc TF).mono (by decide)) rfl T.g_holds_none hr tk (sa_cons (sv 2) (sa_cons (sv 1) (sa_cons (se_ix (sv 3) (se_neg se_int)) sa_nil)))))))))
theorem G_accepts (TT : ∀ TC : TabsC, TopOk (TC := TC) P w K mg base) (nc : ∀ n, TC.clo n = none) (TF : TabH K mg base) : DefOk P w K mg base 9 (ga K "accepts") ["claim", "certificate"] DL.f_accepts := by
  have T := TT TC
  obtain ⟨fd, F⟩ := T.d_accepts
  have hN : (["claim", "certificate", "word", "plan", "program", "other", "kind", "parts"] : List Str).Nodup := by decide +kernel
  refine def_ok (N := ["claim", "certificate", "word", "plan", "program", "other", "kind", "parts"]) (ps := ["claim", "certificate"]) (n := 8) F ⟨rfl, rfl, rfl, hN, rfl, by decide +kernel, by decide +kernel⟩ rfl (by decide) (fun _ _ _ _ _ _ us hl => match us, hl with | [_, _], _ => rfl) fun cdv A outer s H E hr => ?_
  have hu := hr.units
  have tk := takes_of (X := cxOf (L2.CX P w) P w K mg base ["claim", "certificate", "word", "plan", "program", "other", "kind", "parts"] d_accepts.qual (defScope (top 76)) (ga K "accepts") cdv A outer s H E) (E := E) rfl rfl rfl rfl
  unfold DL.b_accepts
  exact (ss_cons (ss_if (st_pt (st_or (st_not (st_val (se_isi .tuple T.bf.isinstance T.bf.tuple boot_tuple (by rfl) (by rfl) (sv 0)))) (st_or (st_cmp (so_cEqT0 hu) (sv 0) (se_tup sa_nil)) (st_or1 (st_not (st_val (se_isi .str T.bf.isinstance T.bf.str boot_str (by rfl) (by rfl) (se_ix (sv 0) se_int)))))))) (ss_one (ss_ret se_bl)) ss_nil)
  (ss_cons (by first | exact (ss_par2 rfl (sa_cons (se_ix (sv 0) se_int) (sa_cons (se_ix (sv 0) (se_neg se_int)) sa_nil)) hN rfl rfl (by decide) rfl rfl rfl rfl) | exact (ss_asg (se_tup (sa_cons (se_ix (sv 0) se_int) (sa_cons (se_ix (sv 0) (se_neg se_int)) sa_nil))) (sg_tup rfl (sgs_cons (sg_name 2 hN) (sgs_cons (sg_name 3 hN) sgs_nil)))))
  (ss_cons (ss_if (st_pt (st_or (st_cmp (so_cNe hu) (se_getC T.t_SIZES (sv 2) se_int rfl) (se_b sb_len T.bf.len boot_len rfl (sa_cons (sv 0) sa_nil))) (st_or (st_not (st_val (se_isi .str T.bf.isinstance T.bf.str boot_str (by rfl) (by rfl) (sv 3)))) (st_or1 (st_cmp (so_cNin hu) (sv 3) (se_glob T.c_PLANS rfl)))))) (ss_one (ss_ret se_bl)) ss_nil)
  (ss_cons (ss_asg (se_call ((G_program_of TT).mono (by decide)) rfl T.g_program_of hr tk (sa_cons (se_ix (sv 0) se_int) sa_nil)) (sg_name 4 hN))
  (ss_cons (ss_if (st_isN (sv 4)) (ss_one (ss_ret se_bl)) ss_nil)
  (ss_cons (ss_if (st_cmp (so_cEq hu) (sv 2) se_str) (ss_one (ss_ret se_bad)) ss_nil)
  (ss_cons (ss_if (st_cmp (so_cEq hu) (sv 2) se_str) (ss_cons (ss_asg (se_call ((G_program_of TT).mono (by decide)) rfl T.g_program_of hr tk (sa_cons (se_ix (sv 0) se_int) sa_nil)) (sg_name 5 hN))
  (ss_one (ss_ret (se_and (se_notN (sv 5)) (se_one se_bad))))) ss_nil)
  (ss_cons (by first | exact (ss_par2 rfl (sa_cons (se_ix (sv 0) se_int) (sa_cons (se_call ((G_parts_of TT).mono (by decide)) rfl T.g_parts_of hr tk (sa_cons (sv 4) sa_nil)) sa_nil)) hN rfl rfl (by decide) rfl rfl rfl rfl) | exact (ss_asg (se_tup (sa_cons (se_ix (sv 0) se_int) (sa_cons (se_call ((G_parts_of TT).mono (by decide)) rfl T.g_parts_of hr tk (sa_cons (sv 4) sa_nil)) sa_nil))) (sg_tup rfl (sgs_cons (sg_name 6 hN) (sgs_cons (sg_name 7 hN) sgs_nil)))))
  (ss_cons (ss_if (st_pt (st_or (st_not (st_val (se_isi .str T.bf.isinstance T.bf.str boot_str (by rfl) (by rfl) (sv 6)))) (st_or1 (st_cmp (so_cNin hu) (sv 6) (se_glob T.c_KINDS rfl))))) (ss_one (ss_ret se_bl)) ss_nil)
  (ss_cons (ss_if (st_cmp (so_cEq hu) (sv 2) se_str) (ss_one (ss_ret (se_call ((G_shows_never TT nc TF).mono (by decide)) rfl T.g_shows_never hr tk (sa_cons (sv 7) (sa_cons (sv 6) (sa_cons (sv 3) (sa_cons (sv 1) sa_nil))))))) ss_nil)
  (ss_cons (ss_if (st_cmp (so_cEq hu) (sv 2) se_str) (ss_one (ss_ret se_bad)) ss_nil)
  (ss_one (ss_ret se_bad)))))))))))))
theorem G__law_text (TT : ∀ TC : TabsC, TopOk (TC := TC) P w K mg base) : DefOk P w K mg base 1 (ga K "_law_text") ["layer"] DL.f__law_text := by
  have T := TT TC
  obtain ⟨fd, F⟩ := T.d__law_text
  have hN : (["layer", "word", "scope", "way", "number", "every", "own", "spare", "far", "found"] : List Str).Nodup := by decide +kernel
  refine def_ok (N := ["layer", "word", "scope", "way", "number", "every", "own", "spare", "far", "found"]) (ps := ["layer"]) (n := 10) F ⟨rfl, rfl, rfl, hN, rfl, by decide +kernel, by decide +kernel⟩ rfl (by decide) (fun _ _ _ _ _ _ us hl => match us, hl with | [_], _ => rfl) fun cdv A outer s H E hr => ?_
  have hu := hr.units
  have tk := takes_of (X := cxOf (L2.CX P w) P w K mg base ["layer", "word", "scope", "way", "number", "every", "own", "spare", "far", "found"] d__law_text.qual (defScope (top 81)) (ga K "_law_text") cdv A outer s H E) (E := E) rfl rfl rfl rfl
  unfold DL.b__law_text
  exact (ss_cons (ss_asg (sv 0) (sg_tup rfl (sgs_cons (sg_name 1 hN) (sgs_cons (sg_name 2 hN) (sgs_cons (sg_name 3 hN) (sgs_cons (sg_name 4 hN) (sgs_cons (sg_name 5 hN) (sgs_cons (sg_name 6 hN) (sgs_cons (sg_name 7 hN) sgs_nil)))))))))
  (ss_cons (ss_if (st_cmp (so_cEq hu) (sv 1) se_str) (ss_one (ss_ret (sv 1))) ss_nil)
  (ss_cons (by first | exact (ss_par2 rfl (sa_cons (se_if (st_cmp so_cGt (sv 4) se_int) (se_ty sb_str T.bf.str boot_str rfl (sa_cons (sv 4) sa_nil)) se_str) (sa_cons (se_bin so_oAdd (se_bin so_oAdd (se_bin so_oAdd (sv 1) se_str) (sv 2)) se_str) sa_nil)) hN rfl rfl (by decide) rfl rfl rfl rfl) | exact (ss_asg (se_tup (sa_cons (se_if (st_cmp so_cGt (sv 4) se_int) (se_ty sb_str T.bf.str boot_str rfl (sa_cons (sv 4) sa_nil)) se_str) (sa_cons (se_bin so_oAdd (se_bin so_oAdd (se_bin so_oAdd (sv 1) se_str) (sv 2)) se_str) sa_nil))) (sg_tup rfl (sgs_cons (sg_name 8 hN) (sgs_cons (sg_name 9 hN) sgs_nil)))))
  (ss_cons (ss_if (st_cmp (so_cIn hu) (sv 3) (se_lst (sa_cons se_str (sa_cons se_str sa_nil)))) (ss_one (ss_asg (se_bin so_oAdd (sv 9) (sv 3)) (sg_name 9 hN))) (ss_one (ss_if (st_cmp (so_cIn hu) (sv 3) (se_lst (sa_cons se_str (sa_cons se_str sa_nil)))) (ss_one (ss_asg (se_bin so_oAdd (se_bin so_oAdd (se_bin so_oAdd (sv 9) se_str) (sv 8)) (se_slice (sv 3) (so_some se_int) so_none)) (sg_name 9 hN))) (ss_one (ss_asg (se_bin so_oAdd (se_bin so_oAdd (se_bin so_oAdd (se_bin so_oAdd (sv 9) (sv 3)) se_str) (sv 8)) (se_if (st_cmp so_cGt (sv 5) se_int) (se_bin so_oAdd se_str (se_ty sb_str T.bf.str boot_str rfl (sa_cons (sv 5) sa_nil))) se_str)) (sg_name 9 hN))))))
  (ss_cons (ss_if (st_pt (st_and (st_val (sv 6)) (st_and1 (st_cmp (so_cEq hu) (sv 1) se_str)))) (ss_one (ss_asg (se_bin so_oAdd (sv 9) se_str) (sg_name 9 hN))) ss_nil)
  (ss_one (ss_ret (se_bin so_oAdd (sv 9) (se_if (st_val (sv 7)) se_str se_str)))))))))
theorem G__law_judged_right (TT : ∀ TC : TabsC, TopOk (TC := TC) P w K mg base) (nc : ∀ n, TC.clo n = none) (TF : TabH K mg base) : DefOk P w K mg base 10 (ga K "_law_judged_right") ["spring"] DL.f__law_judged_right := by
  have T := TT TC
  obtain ⟨fd, F⟩ := T.d__law_judged_right
  have hN : (["spring", "layer", "laid", "sort", "good", "way", "fit", "machine", "due"] : List Str).Nodup := by decide +kernel
  refine def_ok (N := ["spring", "layer", "laid", "sort", "good", "way", "fit", "machine", "due"]) (ps := ["spring"]) (n := 9) F ⟨rfl, rfl, rfl, hN, rfl, by decide +kernel, by decide +kernel⟩ rfl (by decide) (fun _ _ _ _ _ _ us hl => match us, hl with | [_], _ => rfl) fun cdv A outer s H E hr => ?_
  have hu := hr.units
  have tk := takes_of (X := cxOf (L2.CX P w) P w K mg base ["spring", "layer", "laid", "sort", "good", "way", "fit", "machine", "due"] d__law_judged_right.qual (defScope (top 98)) (ga K "_law_judged_right") cdv A outer s H E) (E := E) rfl rfl rfl rfl
  unfold DL.b__law_judged_right
  exact (ss_cons (by first | exact (ss_par3 rfl (sa_cons (se_call ((G__law_layer TT).mono (by decide)) rfl T.gXlaw_layer hr tk (sa_cons (sv 0) (sa_cons se_int sa_nil))) (sa_cons (se_call ((G__law_plan TT).mono (by decide)) rfl T.gXlaw_plan hr tk (sa_cons (sv 0) sa_nil)) (sa_cons (se_call ((G__law_kind TT).mono (by decide)) rfl T.gXlaw_kind hr tk (sa_cons (sv 0) sa_nil)) sa_nil))) hN rfl rfl rfl (by decide) (by decide) (by decide) rfl rfl rfl rfl rfl) | exact (ss_asg (se_tup (sa_cons (se_call ((G__law_layer TT).mono (by decide)) rfl T.gXlaw_layer hr tk (sa_cons (sv 0) (sa_cons se_int sa_nil))) (sa_cons (se_call ((G__law_plan TT).mono (by decide)) rfl T.gXlaw_plan hr tk (sa_cons (sv 0) sa_nil)) (sa_cons (se_call ((G__law_kind TT).mono (by decide)) rfl T.gXlaw_kind hr tk (sa_cons (sv 0) sa_nil)) sa_nil)))) (sg_tup rfl (sgs_cons (sg_name 1 hN) (sgs_cons (sg_name 2 hN) (sgs_cons (sg_name 3 hN) sgs_nil))))))
  (ss_cons (ss_asg (se_call ((G__law_fitting TT).mono (by decide)) rfl T.gXlaw_fitting hr tk (sa_cons (sv 1) sa_nil)) (sg_name 4 hN))
  (ss_cons (ss_asg (se_if (st_cmp so_cGt (se_call ((G__law_take TT).mono (by decide)) rfl T.gXlaw_take hr tk (sa_cons (sv 0) (sa_cons se_int sa_nil))) se_int) (se_ix (sv 4) (se_call ((G__law_take TT).mono (by decide)) rfl T.gXlaw_take hr tk (sa_cons (sv 0) (sa_cons (se_b sb_len T.bf.len boot_len rfl (sa_cons (sv 4) sa_nil)) sa_nil)))) (se_call ((G__law_take TT).mono (by decide)) rfl T.gXlaw_take hr tk (sa_cons (sv 0) (sa_cons se_int sa_nil)))) (sg_name 5 hN))
  (ss_cons (ss_if (st_cmp (so_cEq hu) (se_call ((G__law_take TT).mono (by decide)) rfl T.gXlaw_take hr tk (sa_cons (sv 0) (sa_cons se_int sa_nil))) se_int) (ss_cons (ss_asg (se_lst (sa_cons (se_lst (sa_cons se_str sa_nil)) (sa_cons (se_lst (sa_cons se_str sa_nil)) (sa_cons (se_lst (sa_cons se_str sa_nil)) (sa_cons (se_lst (sa_cons se_str (sa_cons se_str (sa_cons se_str sa_nil)))) (sa_cons (se_lst (sa_cons se_str sa_nil)) (sa_cons (se_lst (sa_cons se_str sa_nil)) (sa_cons (se_lst (sa_cons se_str sa_nil)) sa_nil)))))))) (sg_name 6 hN))
  (ss_cons (ss_asg (se_ix (se_bin so_oAdd (sv 6) (se_lst (sa_cons (se_lst (sa_cons se_str sa_nil)) sa_nil))) (sv 5)) (sg_name 6 hN))
  (ss_one (ss_asg (se_ix (sv 6) (se_call ((G__law_take TT).mono (by decide)) rfl T.gXlaw_take hr tk (sa_cons (sv 0) (sa_cons (se_b sb_len T.bf.len boot_len rfl (sa_cons (sv 6) sa_nil)) sa_nil)))) (sg_name 3 hN))))) ss_nil)
  (ss_cons (ss_asg (se_call ((G__law_bent TT).mono (by decide)) rfl T.gXlaw_bent hr tk (sa_cons (sv 0) (sa_cons (se_call ((G__law_machine TT).mono (by decide)) rfl T.gXlaw_machine hr tk (sa_cons (sv 5) sa_nil)) sa_nil))) (sg_name 7 hN))
  (ss_cons (ss_asg (se_and (se_call ((G__law_takes_all TT nc TF).mono (by decide)) rfl T.gXlaw_takes_all hr tk (sa_cons (sv 1) (sa_cons (sv 2) (sa_cons (sv 7) sa_nil)))) (se_one (se_call ((G__law_has_none TT nc TF).mono (by decide)) rfl T.gXlaw_has_none hr tk (sa_cons (sv 3) (sa_cons (sv 2) (sa_cons (sv 7) sa_nil)))))) (sg_name 8 hN))
  (ss_one (ss_ret (se_cmp (so_cEq hu) (se_b sb_reprB T.bf.repr boot_repr rfl (sa_cons (se_call ((G_accepts TT nc TF).mono (by decide)) rfl T.g_accepts hr tk (sa_cons (se_tup (sa_cons se_str (sa_cons (se_call ((G__law_text TT).mono (by decide)) rfl T.gXlaw_text hr tk (sa_cons (sv 1) sa_nil)) (sa_cons (sv 3) (sa_cons (sv 2) sa_nil))))) (sa_cons (se_tup (sa_cons (sv 7) sa_nil)) sa_nil))) sa_nil)) (se_b sb_reprB T.bf.repr boot_repr rfl (sa_cons (sv 8) sa_nil)))))))))))
theorem G_law (TT : ∀ TC : TabsC, TopOk (TC := TC) P w K mg base) (nc : ∀ n, TC.clo n = none) (TF : TabH K mg base) : DefOk P w K mg base 11 (ga K "law") ["script"] DL.f_law := by
  have T := TT TC
  obtain ⟨fd, F⟩ := T.d_law
  have hN : (["script", "at", "spring"] : List Str).Nodup := by decide +kernel
  refine def_ok (N := ["script", "at", "spring"]) (ps := ["script"]) (n := 3) F ⟨rfl, rfl, rfl, hN, rfl, by decide +kernel, by decide +kernel⟩ rfl (by decide) (fun _ _ _ _ _ _ us hl => match us, hl with | [_], _ => rfl) fun cdv A outer s H E hr => ?_
  have hu := hr.units
  have tk := takes_of (X := cxOf (L2.CX P w) P w K mg base ["script", "at", "spring"] d_law.qual (defScope (top 99)) (ga K "law") cdv A outer s H E) (E := E) rfl rfl rfl rfl
  unfold DL.b_law
  exact (ss_cons (ss_for (si_range1 (sa_cons (se_b (sb_max2 rfl) T.bf.max boot_max rfl (sa_cons se_int (sa_cons (se_b (sb_min2 rfl) T.bf.min boot_min rfl (sa_cons (se_b sb_len T.bf.len boot_len rfl (sa_cons (sv 0) sa_nil)) (sa_cons se_int sa_nil))) sa_nil))) sa_nil) rfl T.bf.range) (sg_name 1 hN) (ss_cons (ss_asg (se_call ((G__law_spring TT).mono (by decide)) rfl T.gXlaw_spring hr tk (sa_cons (sv 0) (sa_cons (sv 1) sa_nil))) (sg_name 2 hN))
  (ss_one (ss_if (st_pt (st_or (st_not (st_val (se_call ((G__law_judged_right TT nc TF).mono (by decide)) rfl T.gXlaw_judged_right hr tk (sa_cons (sv 2) sa_nil)))) (st_or1 (st_not (st_val (se_call ((G__law_judged_right TT nc TF).mono (by decide)) rfl T.gXlaw_judged_right hr tk (sa_cons (sv 2) sa_nil))))))) (ss_one (ss_ret se_bl)) ss_nil))) rfl (passes_of rfl))
  (ss_one (ss_ret se_bl)))
end
abbrev R : PySem.W.OpenRow := PySem.W.OpenLaw.row PySem.Challenge.rw_filledrows_k72_small_machines_judged
abbrev hk : PySem.W.Hook := hookT 4 need fa fb fn ts nt
def ob (s : PySem.W.SharedT) : AlM × Bool := obsTG 4 need fa fb fn ts nt (HandSHeadRun.getT s)
theorem ob_eq (s : PySem.W.SharedT) : ob s = hk.obs s.abs := obsTG_eq (HandSHeadRun.getT_eq s)
def names : List Str := (R.prog.main.scope.names.filter (fun x => x.2 == .local)).map (·.1) |>.filter (fun x => decide (x ≠ Str.ofString "law"))
theorem runA : ∀ w : World, HandSHeadRun.RunEq R (PySem.W.view R.prog [99]) hk ob 6000 names (w.withFollow "special-get-raises" false) := fun w os => by kernel_rfl
theorem runB : ∀ w : World, HandSHeadRun.RunEq R (PySem.W.view R.prog [99]) hk ob 6000 names (w.withFollow "special-get-raises" true) := fun w os => by kernel_rfl
theorem run (w : World) : HandSHeadRun.RunEq R (PySem.W.view R.prog [99]) hk ob 6000 names w :=
  PySem.W.byRow2 "special-get-raises" (P := fun w => HandSHeadRun.RunEq R (PySem.W.view R.prog [99]) hk ob 6000 names w) runA runB w
end DW
end S_K72Walk
section S_Run
set_option linter.all false
set_option maxRecDepth 100000
set_option maxHeartbeats 4000000
/-! Run: the denotations, run by simp. Plain Lean. -/
namespace DL
/-! ### order of work: what comes first is run first -/
abbrev DepB {α β : Type} (_ : α → Hv → R β) : Type := R α
def bnd {α β : Type} (f : α → Hv → R β) (r : DepB f) : R β := R.bind r f
@[simp ↓] theorem to_bnd {α β : Type} (r : R α) (f : α → Hv → R β) : r.bind f = bnd f r := rfl
@[simp] theorem bnd_ok {α β : Type} (a : α) (G : Hv) (f : α → Hv → R β) : bnd f (R.ok a G) = f a G := rfl
@[simp] theorem bnd_exn {α β : Type} (a : VV) (G : Hv) (f : α → Hv → R β) : bnd f (R.exn a G) = R.exn a G := rfl
@[simp] theorem bnd_bad {α β : Type} (f : α → Hv → R β) : bnd f R.bad = R.bad := rfl
abbrev DepS {α : Type} (_ : α → Hv → O) : Type := R α
def stt {α : Type} (S : Env) (f : α → Hv → O) (r : DepS f) : O := R.st r S f
@[simp ↓] theorem to_stt {α : Type} (r : R α) (S : Env) (f : α → Hv → O) : r.st S f = stt S f r := rfl
@[simp] theorem stt_ok {α : Type} (a : α) (S : Env) (G : Hv) (f : α → Hv → O) : stt S f (R.ok a G) = f a G := rfl
@[simp] theorem stt_exn {α : Type} (a : VV) (S : Env) (G : Hv) (f : α → Hv → O) : stt S f (R.exn a G) = O.exn a S G := rfl
@[simp] theorem stt_bad {α : Type} (S : Env) (f : α → Hv → O) : stt S f R.bad = O.bad := rfl
def O.thn (o : O) (f : DS) : O := match o with
  | .nx S G => f S G
  | o => o
abbrev DepO (_ : DS) : Type := O
def thnF (f : DS) (o : DepO f) : O := O.thn o f
@[simp ↓] theorem to_thnF (o : O) (f : DS) : o.thn f = thnF f o := rfl
@[simp] theorem thnF_nx (S : Env) (G : Hv) (f : DS) : thnF f (O.nx S G) = f S G := rfl
@[simp] theorem thnF_rt (v : VV) (G : Hv) (f : DS) : thnF f (O.rt v G) = .rt v G := rfl
@[simp] theorem thnF_bk (S : Env) (G : Hv) (f : DS) : thnF f (O.bk S G) = .bk S G := rfl
@[simp] theorem thnF_ct (S : Env) (G : Hv) (f : DS) : thnF f (O.ct S G) = .ct S G := rfl
@[simp] theorem thnF_exn (x : VV) (S : Env) (G : Hv) (f : DS) : thnF f (O.exn x S G) = .exn x S G := rfl
@[simp] theorem thnF_bad (f : DS) : thnF f O.bad = .bad := rfl
@[simp] theorem thn_nx (S : Env) (G : Hv) (f : DS) : (O.nx S G).thn f = f S G := rfl
@[simp] theorem thn_rt (v : VV) (G : Hv) (f : DS) : (O.rt v G).thn f = .rt v G := rfl
@[simp] theorem thn_bk (S : Env) (G : Hv) (f : DS) : (O.bk S G).thn f = .bk S G := rfl
@[simp] theorem thn_ct (S : Env) (G : Hv) (f : DS) : (O.ct S G).thn f = .ct S G := rfl
@[simp] theorem thn_exn (x : VV) (S : Env) (G : Hv) (f : DS) : (O.exn x S G).thn f = .exn x S G := rfl
@[simp] theorem thn_bad (f : DS) : (O.bad).thn f = .bad := rfl
theorem thn_ite {c : Prop} [Decidable c] {a b : O} {f : DS} : (if c then a else b).thn f = if c then a.thn f else b.thn f := by split <;> rfl
def gRunF (f : DS) (o : DepO f) : O := gRun o f
@[simp ↓] theorem to_gRunF (o : O) (f : DS) : gRun o f = gRunF f o := rfl
@[simp] theorem gRunF_nx (S : Env) (G : Hv) (f : DS) : gRunF f (O.nx S G) = f S G := rfl
@[simp] theorem gRun_nx (S : Env) (G : Hv) (f : DS) : gRun (O.nx S G) f = f S G := rfl
@[simp] theorem dSeq_ap (a b : DS) (S : Env) (G : Hv) : dSeq a b S G = (a S G).thn b := Eq.trans rfl rfl
@[simp] theorem dNext_ap (S : Env) (G : Hv) : dNext S G = .nx S G := Eq.trans rfl rfl
@[simp] theorem dC_ap (v : VV) (S : Env) (G : Hv) : dC v S G = .ok v G := Eq.trans rfl rfl
@[simp] theorem dVar_ap (i : Nat) (S : Env) (G : Hv) : dVar i S G = match S[i]? with
  | some (some v) => .ok v G
  | _ => .bad := Eq.trans rfl rfl
@[simp] theorem dBin_ap (f) (a b : DE) (S : Env) (G : Hv) : dBin f a b S G = (a S G).bind fun x G1 => (b S G1).bind fun y G2 => ofO (f x y G2) := Eq.trans rfl rfl
@[simp] theorem dCmp_ap (f) (a b : DE) (S : Env) (G : Hv) : dCmp f a b S G = (a S G).bind fun x G1 => (b S G1).bind fun y G2 => ofP ((f G2 x y).map VV.bl) G2 := Eq.trans rfl rfl
@[simp] theorem tV_ap (a : DE) (S : Env) (G : Hv) : tV a S G = (a S G).bind fun x G1 => ofP (asB x) G1 := Eq.trans rfl rfl
@[simp] theorem tAnd_ap (a b : DT) (S : Env) (G : Hv) : tAnd a b S G = (a S G).bind fun c G1 => if c then b S G1 else .ok false G1 := Eq.trans rfl rfl
@[simp] theorem tOr_ap (a b : DT) (S : Env) (G : Hv) : tOr a b S G = (a S G).bind fun c G1 => if c then .ok true G1 else b S G1 := Eq.trans rfl rfl
@[simp] theorem tNot_ap (a : DT) (S : Env) (G : Hv) : tNot a S G = (a S G).bind fun c G1 => .ok (!c) G1 := Eq.trans rfl rfl
@[simp] theorem dAnd_ap (a b : DE) (S : Env) (G : Hv) : dAnd a b S G = (a S G).bind fun x G1 => match x with
  | .bl true => b S G1
  | .bl false => .ok (.bl false) G1
  | _ => .bad := Eq.trans rfl rfl
@[simp] theorem dOr_ap (a b : DE) (S : Env) (G : Hv) : dOr a b S G = (a S G).bind fun x G1 => match x with
  | .bl true => .ok (.bl true) G1
  | .bl false => b S G1
  | _ => .bad := Eq.trans rfl rfl
@[simp] theorem dNot_ap (a : DE) (S : Env) (G : Hv) : dNot a S G = (a S G).bind fun x G1 => match x with
  | .bl c => .ok (.bl (!c)) G1
  | _ => .bad := Eq.trans rfl rfl
@[simp] theorem dIf_ap (t : DT) (a b : DE) (S : Env) (G : Hv) : dIf t a b S G = (t S G).bind fun c G1 => if c then a S G1 else b S G1 := Eq.trans rfl rfl
@[simp] theorem dUn_ap (f) (a : DE) (S : Env) (G : Hv) : dUn f a S G = (a S G).bind fun x G1 => ofP (f x) G1 := Eq.trans rfl rfl
@[simp] theorem dIsN_ap (a : DE) (S : Env) (G : Hv) : dIsN a S G = (a S G).bind fun x G1 => .ok (.bl (isN x)) G1 := Eq.trans rfl rfl
@[simp] theorem dNotN_ap (a : DE) (S : Env) (G : Hv) : dNotN a S G = (a S G).bind fun x G1 => .ok (.bl (!isN x)) G1 := Eq.trans rfl rfl
@[simp] theorem aNil_ap (S : Env) (G : Hv) : aNil S G = .ok [] G := Eq.trans rfl rfl
@[simp] theorem aCons_ap (a : DE) (r : DA) (S : Env) (G : Hv) : aCons a r S G = (a S G).bind fun x G1 => (r S G1).bind fun xs G2 => .ok (x :: xs) G2 := Eq.trans rfl rfl
@[simp] theorem dTup_ap (a : DA) (S : Env) (G : Hv) : dTup a S G = (a S G).bind fun xs G1 => if xs.length ≤ LIM then .ok (.tup xs) G1 else .bad := Eq.trans rfl rfl
@[simp] theorem dLst_ap (a : DA) (S : Env) (G : Hv) : dLst a S G = (a S G).bind fun xs G1 => if xs.length ≤ LIM then .ok (.ref G1.length) (G1 ++ [.lst xs]) else .bad := Eq.trans rfl rfl
@[simp] theorem dIx_ap (a b : DE) (S : Env) (G : Hv) : dIx a b S G = (a S G).bind fun x G1 => (b S G1).bind fun y G2 => ofP (oIx G2 x y) G2 := Eq.trans rfl rfl
@[simp] theorem dFld_ap (c f : Nat) (a : DE) (S : Env) (G : Hv) : dFld c f a S G = (a S G).bind fun x G1 => ofP (oFld c f G1 x) G1 := Eq.trans rfl rfl
@[simp] theorem dCall_ap (f : Fn) (a : DA) (S : Env) (G : Hv) : dCall f a S G = (a S G).bind fun vs G1 => f vs G1 := Eq.trans rfl rfl
@[simp] theorem dB_ap (f : Bt) (a : DA) (S : Env) (G : Hv) : dB f a S G = (a S G).bind fun vs G1 => ofO (f vs G1) := Eq.trans rfl rfl
@[simp] theorem dIsi_ap (t : Ty) (a : DE) (S : Env) (G : Hv) : dIsi t a S G = (a S G).bind fun x G1 => ofP ((isTy G1 t x).map VV.bl) G1 := Eq.trans rfl rfl
@[simp] theorem dM_ap (T : Rt) (f : Mt) (a : DE) (r : DA) (S : Env) (G : Hv) : dM T f a r S G = (a S G).bind fun x G1 => if isRt T G1 x then (r S G1).bind fun vs G2 => ofO (f x vs G2) else .bad := Eq.trans rfl rfl
@[simp] theorem dExpr_ap (a : DE) (S : Env) (G : Hv) : dExpr a S G = (a S G).st S fun _ G1 => .nx S G1 := Eq.trans rfl rfl
@[simp] theorem dRet_ap (a : DE) (S : Env) (G : Hv) : dRet a S G = (a S G).st S fun v G1 => .rt v G1 := Eq.trans rfl rfl
@[simp] theorem dRetN_ap (S : Env) (G : Hv) : dRetN S G = .rt .non G := Eq.trans rfl rfl
@[simp] theorem sIf_ap (t : DT) (a b : DS) (S : Env) (G : Hv) : sIf t a b S G = (t S G).st S fun c G1 => if c then a S G1 else b S G1 := Eq.trans rfl rfl
@[simp] theorem sAsg_ap (a : DE) (g : DG) (S : Env) (G : Hv) : sAsg a g S G = (a S G).st S fun v G1 => gRun (g v S G1) O.nx := Eq.trans rfl rfl
@[simp] theorem gName_ap (i : Nat) (v : VV) (S : Env) (G : Hv) : gName i v S G = .nx (S.set i (some v)) G := Eq.trans rfl rfl
@[simp] theorem gTup_ap (gs : List DG) (xs : List VV) (S : Env) (G : Hv) : gTup gs (.tup xs) S G = if xs.length = gs.length then gAll gs xs S G else .bad := by
  unfold gTup; simp only; split <;> rfl
@[simp] theorem gAll_nil (S : Env) (G : Hv) : gAll [] [] S G = .nx S G := rfl
@[simp] theorem gAll_cons (g : DG) (gs : List DG) (v : VV) (vs : List VV) (S : Env) (G : Hv) : gAll (g :: gs) (v :: vs) S G = gRun (g v S G) (gAll gs vs) := rfl
@[simp] theorem gSub_ap (a b : DE) (v : VV) (S : Env) (G : Hv) : gSub a b v S G = (a S G).st S fun x G1 => (b S G1).st S fun y G2 => match x, y with
  | .ref i, .int k => match G2[i]? with
    | some (.lst xs) => match ixN xs.length k with
      | some j => .nx S (G2.set i (.lst (xs.set j v)))
      | none => .bad
    | _ => .bad
  | _, _ => .bad := Eq.trans rfl rfl
@[simp] theorem gFld_ap (c f : Nat) (a : DE) (v : VV) (S : Env) (G : Hv) : gFld c f a v S G = (a S G).st S fun x G1 => match x with
  | .ref i => match G1[i]? with
    | some (.ins d fs) => if c = d ∧ fs.length < 1000 then .nx S (G1.set i (.ins c (put f v fs))) else .bad
    | _ => .bad
  | _ => .bad := Eq.trans rfl rfl
@[simp] theorem sAug_ap (f) (i : Nat) (a : DE) (S : Env) (G : Hv) : sAug f i a S G = (dVar i S G).st S fun x G1 => (a S G1).st S fun y G2 => (ofO (f x y G2)).st S fun v G3 => .nx (S.set i (some v)) G3 := Eq.trans rfl rfl
@[simp] theorem sFor_ap (it : DI) (g : DG) (b : DS) (S : Env) (G : Hv) : sFor it g b S G = (it S G).st S fun p G1 => forL p.2 g b p.1 S G1 := Eq.trans rfl rfl
@[simp] theorem dLc_ap (vs : List Nat) (it : DI) (g : DG) (t : DT) (e : DE) (S : Env) (G : Hv) : dLc vs it g t e S G = (it S G).bind fun p G1 => lcL p.2 g t e vs (wipe S vs) G1.length p.1 (G1 ++ [.lst []]) := Eq.trans rfl rfl
@[simp] theorem iSeq_ap (a : DE) (S : Env) (G : Hv) : iSeq a S G = (a S G).bind fun x G1 => ofP (seqOf G1 x) G1 := Eq.trans rfl rfl
@[simp] theorem iRange1_ap (a : DA) (S : Env) (G : Hv) : iRange1 a S G = (a S G).bind fun vs G1 => ofP (rangeOf1 vs) G1 := Eq.trans rfl rfl
@[simp] theorem iRange2_ap (a : DA) (S : Env) (G : Hv) : iRange2 a S G = (a S G).bind fun vs G1 => ofP (rangeOf2 vs) G1 := Eq.trans rfl rfl
@[simp] theorem iEnum_ap (a : DA) (S : Env) (G : Hv) : iEnum a S G = (a S G).bind fun vs G1 => ofP (enumOf G1 vs) G1 := Eq.trans rfl rfl
@[simp] theorem iZip_ap (a : DA) (S : Env) (G : Hv) : iZip a S G = (a S G).bind fun vs G1 => ofP (zipOf G1 vs) G1 := Eq.trans rfl rfl
@[simp] theorem tYes_ap (S : Env) (G : Hv) : tYes S G = .ok true G := Eq.trans rfl rfl
@[simp] theorem dProp_ap (c p : Nat) (f : Fn) (a : DE) (S : Env) (G : Hv) : dProp c p f a S G = (a S G).bind fun x G1 => if isIns c p G1 x then noX (f [x] G1) else .bad := Eq.trans rfl rfl
@[simp] theorem dMake_ap (c : Nat) (f : Fn) (a : DA) (S : Env) (G : Hv) : dMake c f a S G = (a S G).bind fun vs G1 => (noX (f (.ref G1.length :: vs) (G1 ++ [.ins c []]))).bind fun u G2 => if isN u then .ok (.ref G1.length) G2 else .bad := Eq.trans rfl rfl
@[simp] theorem dChain_ap (f g) (a b c : DE) (S : Env) (G : Hv) : dChain f g a b c S G = (a S G).bind fun x G1 => (b S G1).bind fun y G2 => match f G2 x y with
  | some true => (c S G2).bind fun z G3 => ofP ((g G3 y z).map VV.bl) G3
  | some false => .ok (.bl false) G2
  | none => .bad := Eq.trans rfl rfl
@[simp] theorem asB_bl (b : Bool) : asB (.bl b) = some b := rfl
@[simp] theorem LIM_eq : LIM = 16777216 := rfl
/-! ### operators -/
@[simp] theorem oAdd_int (i j : Int) (G : Hv) : oAdd (.int i) (.int j) G = some (.int (i + j), G) := rfl
@[simp] theorem oSub_int (i j : Int) (G : Hv) : oSub (.int i) (.int j) G = some (.int (i - j), G) := rfl
@[simp] theorem oMul_int (i j : Int) (G : Hv) : oMul (.int i) (.int j) G = if MulOk i j then some (.int (i * j), G) else none := rfl
@[simp] theorem oMod_int (i j : Int) (G : Hv) : oMod (.int i) (.int j) G = if 0 < j then some (.int (i % j), G) else none := rfl
@[simp] theorem oFdiv_int (i j : Int) (G : Hv) : oFdiv (.int i) (.int j) G = if 0 < j ∧ j < 1073741824 then some (.int (i / j), G) else none := rfl
@[simp] theorem oNeg_int (i : Int) : oNeg (.int i) = some (.int (-i)) := rfl
@[simp] theorem aAdd_int (i j : Int) (G : Hv) : aAdd (.int i) (.int j) G = some (.int (i + j), G) := rfl
@[simp] theorem oEq_int (i j : Int) (G : Hv) : oEq G (.int i) (.int j) = some (decide (i = j)) := rfl
@[simp] theorem oEq_str (i j : List Nat) (G : Hv) : oEq G (.str i) (.str j) = some (decide (i = j)) := rfl
@[simp] theorem cEq_ap (G : Hv) (x y : VV) : cEq G x y = oEq G x y := Eq.trans rfl rfl
@[simp] theorem cNe_ap (G : Hv) (x y : VV) : cNe G x y = (oEq G x y).map not := Eq.trans rfl rfl
@[simp] theorem cLt_int (G : Hv) (i j : Int) : cLt G (.int i) (.int j) = some (decide (i < j)) := rfl
@[simp] theorem cLe_int (G : Hv) (i j : Int) : cLe G (.int i) (.int j) = some (decide (i ≤ j)) := rfl
@[simp] theorem cGt_int (G : Hv) (i j : Int) : cGt G (.int i) (.int j) = some (decide (j < i)) := rfl
@[simp] theorem cGe_int (G : Hv) (i j : Int) : cGe G (.int i) (.int j) = some (decide (j ≤ i)) := rfl
@[simp] theorem isN_non : isN .non = true := rfl
@[simp] theorem isN_ref (i : Nat) : isN (.ref i) = false := rfl
@[simp] theorem isN_tup (i : List VV) : isN (.tup i) = false := rfl
@[simp] theorem isN_int (i : Int) : isN (.int i) = false := rfl
/-! ### a def -/
theorem closedG_refl (n : Nat) : ∀ G : Hv, closedG n G G = true
  | [] => rfl
  | o :: G => by simp [closedG, closedG_refl n G]
/-- what a def comes to: nothing that is kept is new -/
theorem gc_pure {G E : Hv} {v : VV} (h : closedV G.length v = true) : gcR G (.ok v (G ++ E)) = .ok v G := by
  unfold gcR
  simp [h, closedG_refl]
theorem gc_pure0 {G : Hv} {v : VV} (h : closedV G.length v = true) : gcR G (.ok v G) = .ok v G := by
  have := gc_pure (E := []) h
  simpa using this
@[simp] theorem closedV_int (n : Nat) (i : Int) : closedV n (.int i) = true := by rw [closedV] <;> simp
@[simp] theorem closedV_str (n : Nat) (i : List Nat) : closedV n (.str i) = true := by rw [closedV] <;> simp
@[simp] theorem closedV_bl (n : Nat) (i : Bool) : closedV n (.bl i) = true := by rw [closedV] <;> simp
@[simp] theorem closedV_non (n : Nat) : closedV n .non = true := by rw [closedV] <;> simp
@[simp] theorem closedV_cls (n c : Nat) : closedV n (.cls c) = true := by rw [closedV] <;> simp
@[simp] theorem closedV_ref (n i : Nat) : closedV n (.ref i) = decide (i < n) := by rw [closedV]
@[simp] theorem closedV_tup (n : Nat) (xs : List VV) : closedV n (.tup xs) = closedL n xs := by rw [closedV]
@[simp] theorem closedL_nil (n : Nat) : closedL n [] = true := by rw [closedL]
@[simp] theorem closedL_cons (n : Nat) (x : VV) (xs : List VV) : closedL n (x :: xs) = (closedV n x && closedL n xs) := by rw [closedL]
theorem log2_lt {n k : Nat} (h : n < 2 ^ k) (hk : 0 < k) : n.log2 < k := by
  by_cases hn : n = 0
  · subst hn; simpa using hk
  · exact (Nat.log2_lt hn).mpr h
theorem mulOkN {i j : Int} (hi : i.natAbs < 2 ^ 64) (hj : j.natAbs < 2 ^ 64) : MulOk i j := by
  have := log2_lt hi (by decide)
  have := log2_lt hj (by decide)
  unfold MulOk
  omega
def spr (a b d : Int) : VO := .lst [.int a, .int b, .int d]
structure Good (a b d : Int) : Prop where
  a0 : 0 ≤ a
  a1 : a < 2147483648
  b0 : 0 ≤ b
  b1 : b < 2147483648
  d0 : 0 ≤ d
theorem get_set {G : Hv} {p : Nat} {x y : VO} (h : G[p]? = some y) : (G.set p x)[p]? = some x := by
  have := (List.getElem?_eq_some_iff.mp h).1
  simp [this]
theorem closedG_set {n : Nat} {o : VO} (h : closedO n o = true) : ∀ (G : Hv) (i : Nat), closedG n G (G.set i o) = true
  | [], i => by simp [closedG]
  | x :: G, 0 => by simp [closedG, h, closedG_refl]
  | x :: G, i + 1 => by simp [closedG, closedG_set h G i]
theorem closed_spr (n : Nat) (a b d : Int) : closedO n (spr a b d) = true := by simp [closedO, spr]
theorem gc_set {G E : Hv} {v : VV} {p : Nat} {o : VO} (h : closedV G.length v = true) (ho : closedO G.length o = true) : gcR G (.ok v (G.set p o ++ E)) = .ok v (G.set p o) := by
  have e : (G.set p o ++ E).take G.length = G.set p o := by
    rw [List.take_append_of_le_length (by simp), List.take_of_length_le (by simp)]
  unfold gcR
  simp only [e]
  simp [h, closedG_set ho]
theorem gc_set0 {G : Hv} {v : VV} {p : Nat} {o : VO} (h : closedV G.length v = true) (ho : closedO G.length o = true) : gcR G (.ok v (G.set p o)) = .ok v (G.set p o) := by
  have := gc_set (E := []) (p := p) h ho
  simpa using this

@[simp] theorem ite_ok {α : Type} {c : Prop} [Decidable c] {a b : α} {G : Hv} : (if c then R.ok a G else R.ok b G) = R.ok (if c then a else b) G := by split <;> rfl
@[simp] theorem oAdd_tup (a b : List VV) (G : Hv) : oAdd (.tup a) (.tup b) G = if a.length + b.length ≤ LIM then some (.tup (a ++ b), G) else none := rfl
@[simp] theorem dSl_ap (a : DE) (lo hi : DO) (S : Env) (G : Hv) : dSl a lo hi S G = (a S G).bind fun x G1 => (lo S G1).bind fun l G2 => (hi S G2).bind fun h G3 => ofO (oSlice x l h G3) := Eq.trans rfl rfl
@[simp] theorem oNone_ap (S : Env) (G : Hv) : oNone S G = .ok none G := Eq.trans rfl rfl
@[simp] theorem oSome_ap (a : DE) (S : Env) (G : Hv) : oSome a S G = (a S G).bind fun x G1 => match x with
  | .int i => .ok (some i) G1
  | _ => .bad := Eq.trans rfl rfl
@[simp] theorem oSlice_tup (xs : List VV) (lo hi : Option Int) (G : Hv) : oSlice (.tup xs) lo hi G = some (.tup (cut xs lo hi), G) := rfl
theorem cut_map {α β : Type} (f : α → β) (xs : List α) (lo hi : Option Int) : cut (xs.map f) lo hi = (cut xs lo hi).map f := by simp [cut]
theorem cut_mem {α : Type} {xs : List α} {lo hi : Option Int} {x : α} (h : x ∈ cut xs lo hi) : x ∈ xs := List.mem_of_mem_drop (List.mem_of_mem_take h)
theorem cut_len {α : Type} (xs : List α) (lo hi : Option Int) : (cut xs lo hi).length ≤ xs.length := by simp [cut]; omega
theorem upTo_len : ∀ (n : Nat) (lo : Int), (upTo lo n).length = n
  | 0, _ => rfl
  | n + 1, lo => by rw [upTo, List.length_cons, upTo_len n]
/-- a loop to its end: the list that is walked stays -/
theorem forL_invC {chk : List (Nat × VO)} {g : DG} {b : DS} (I : Nat → Env → Hv → Prop) (st : ∀ i S G, I i S G → stays G chk = true) : ∀ (xs : List VV) (i : Nat) (S : Env) (G : Hv), I i S G →
    (∀ j S G x, xs[j - i]? = some x → i ≤ j → I j S G → ∃ S1 G1 S2 G2, g x S G = .nx S1 G1 ∧ b S1 G1 = .nx S2 G2 ∧ I (j + 1) S2 G2) → ∃ S' G', forL chk g b xs S G = .nx S' G' ∧ I (i + xs.length) S' G'
  | [], i, S, G, h, _ => ⟨S, G, by simp [forL, st i S G h], h⟩
  | x :: xs, i, S, G, h, k => by
    obtain ⟨S1, G1, S2, G2, e1, e2, h2⟩ := k i S G x (by simp) (Nat.le_refl _) h
    obtain ⟨S3, G3, e3, h3⟩ := forL_invC I st xs (i + 1) S2 G2 h2 fun j S G y hy hj => k j S G y (by
      have : j - i = (j - (i + 1)) + 1 := by omega
      rw [this, List.getElem?_cons_succ]
      exact hy) (by omega)
    refine ⟨S3, G3, ?_, ?_⟩
    · simp only [forL, st i S G h, if_true, e1, gRun_nx, e2]
      exact e3
    · rw [List.length_cons]
      rwa [show i + 1 + xs.length = i + (xs.length + 1) by omega] at h3
/-- a loop over things that nothing needs to hold -/
theorem forL_inv {g : DG} {b : DS} (I : Nat → Env → Hv → Prop) : ∀ (xs : List VV) (i : Nat) (S : Env) (G : Hv), I i S G →
    (∀ j S G x, x ∈ xs → i ≤ j → j < i + xs.length → I j S G → ∃ S1 G1 S2 G2, g x S G = .nx S1 G1 ∧ b S1 G1 = .nx S2 G2 ∧ I (j + 1) S2 G2) → ∃ S' G', forL [] g b xs S G = .nx S' G' ∧ I (i + xs.length) S' G'
  | [], i, S, G, h, _ => ⟨S, G, by simp [forL, stays], h⟩
  | x :: xs, i, S, G, h, k => by
    obtain ⟨S1, G1, S2, G2, e1, e2, h2⟩ := k i S G x (List.mem_cons_self ..) (Nat.le_refl _) (by simp) h
    obtain ⟨S3, G3, e3, h3⟩ := forL_inv I xs (i + 1) S2 G2 h2 fun j S G y hy hj hj2 => k j S G y (List.mem_cons_of_mem _ hy) (by omega) (by simp; omega)
    refine ⟨S3, G3, ?_, ?_⟩
    · simp only [forL, stays, if_true, e1, gRun_nx, e2]
      exact e3
    · rw [List.length_cons]
      rwa [show i + 1 + xs.length = i + (xs.length + 1) by omega] at h3
/-! data -/
@[simp] theorem DEPTH_eq : DEPTH = 12 := rfl
@[simp] theorem toPD_non (G : Hv) (n : Nat) : toPD G (n + 1) .non = some .non := rfl
@[simp] theorem toPD_bl (G : Hv) (n : Nat) (b : Bool) : toPD G (n + 1) (.bl b) = some (.bl b) := rfl
@[simp] theorem toPD_int (G : Hv) (n : Nat) (b : Int) : toPD G (n + 1) (.int b) = some (.int b) := rfl
@[simp] theorem toPD_str (G : Hv) (n : Nat) (b : List Nat) : toPD G (n + 1) (.str b) = some (.str b) := rfl
@[simp] theorem toPD_tup (G : Hv) (n : Nat) (xs : List VV) : toPD G (n + 1) (.tup xs) = (mapO (toPD G n) xs).map PD.tup := rfl
theorem toPD_ref (G : Hv) (n : Nat) (i : Nat) : toPD G (n + 1) (.ref i) = match G[i]? with
  | some (.lst xs) => (mapO (toPD G n) xs).map PD.lst
  | _ => none := rfl
@[simp] theorem mapO_nil {α β : Type} (f : α → Option β) : mapO f [] = some [] := rfl
@[simp] theorem mapO_cons {α β : Type} (f : α → Option β) (x : α) (xs : List α) : mapO f (x :: xs) = match f x with
  | some y => match mapO f xs with
    | some ys => some (y :: ys)
    | none => none
  | none => none := rfl
@[simp] theorem eqv_int (i j : Int) : PD.eqv (.int i) (.int j) = decide (i = j) := by rw [PD.eqv]
@[simp] theorem eqv_str (i j : List Nat) : PD.eqv (.str i) (.str j) = decide (i = j) := by rw [PD.eqv]
@[simp] theorem eqv_bl (i j : Bool) : PD.eqv (.bl i) (.bl j) = (i == j) := by rw [PD.eqv]
@[simp] theorem eqv_non : PD.eqv .non .non = true := by rw [PD.eqv]
@[simp] theorem eqv_tup (i j : List PD) : PD.eqv (.tup i) (.tup j) = eqvL i j := by rw [PD.eqv]
@[simp] theorem eqv_lst (i j : List PD) : PD.eqv (.lst i) (.lst j) = eqvL i j := by rw [PD.eqv]
@[simp] theorem eqvL_nil : eqvL [] [] = true := by rw [eqvL]
@[simp] theorem eqvL_cons (x y : PD) (xs ys : List PD) : eqvL (x :: xs) (y :: ys) = (PD.eqv x y && eqvL xs ys) := by rw [eqvL]
@[simp] theorem eqvL_nc (y : PD) (ys : List PD) : eqvL [] (y :: ys) = false := by rw [eqvL] <;> simp
@[simp] theorem eqvL_cn (y : PD) (ys : List PD) : eqvL (y :: ys) [] = false := by rw [eqvL] <;> simp
@[simp] theorem eqv_non_tup (xs : List PD) : PD.eqv .non (.tup xs) = false := by rw [PD.eqv] <;> simp
@[simp] theorem eqv_tup_non (xs : List PD) : PD.eqv (.tup xs) .non = false := by rw [PD.eqv] <;> simp
/-- x in these -/
def inL (G : Hv) (x : VV) (xs : List VV) : Option Bool := match toPD G DEPTH x, mapO (toPD G DEPTH) xs with
  | some d, some ds => some (ds.any fun z => PD.eqv z d)
  | _, _ => none
@[simp] theorem cIn_tup (G : Hv) (x : VV) (xs : List VV) : cIn G x (.tup xs) = inL G x xs := by
  unfold cIn oIn inL
  simp only [asSeq]
  all_goals (cases toPD G DEPTH x <;> cases mapO (toPD G DEPTH) xs <;> rfl)
@[simp] theorem cIn_ref (G : Hv) (x : VV) (i : Nat) : cIn G x (.ref i) = match G[i]? with
  | some (.lst xs) => inL G x xs
  | some (.flst xs) => inL G x xs
  | _ => none := by
  unfold cIn oIn inL
  simp only [asSeq, asListR]
  cases G[i]? with
  | none => rfl
  | some o => cases o <;> rfl
theorem inL_str (G : Hv) (x : List Nat) : ∀ ss : List (List Nat), inL G (.str x) (ss.map VV.str) = some (ss.any fun s => decide (s = x)) := fun ss => by
  have : mapO (toPD G DEPTH) (ss.map VV.str) = some (ss.map PD.str) := by
    induction ss with
    | nil => rfl
    | cons a r ih =>
      rw [List.map_cons, mapO_cons, ih]
      rfl
  unfold inL
  rw [this]
  simp [List.any_map, Function.comp_def]
@[simp] theorem inL_s2 (G : Hv) (x a b : List Nat) : inL G (.str x) [.str a, .str b] = some (decide (a = x) || decide (b = x)) := by
  have := inL_str G x [a, b]
  simpa using this
@[simp] theorem inL_s3 (G : Hv) (x a b c : List Nat) : inL G (.str x) [.str a, .str b, .str c] = some (decide (a = x) || (decide (b = x) || decide (c = x))) := by
  have := inL_str G x [a, b, c]
  simpa using this
theorem mid_of {i : Int} (h : i.natAbs ≤ 4611686018427387903) : mid i = true := Nat.ble_eq_true_of_le h
/-! ### what is wanted of a run -/
def Wp (r : R VV) (Q : VV → Hv → Prop) : Prop := ∃ v G, r = .ok v G ∧ Q v G
abbrev DepW (_ : VV → Hv → Prop) : Type := R VV
abbrev WpF (Q : VV → Hv → Prop) (r : DepW Q) : Prop := Wp r Q
@[simp ↓] theorem to_WpF (r : R VV) (Q : VV → Hv → Prop) : Wp r Q = WpF Q r := rfl
theorem Wp.ok {v : VV} {G : Hv} {Q : VV → Hv → Prop} (h : Q v G) : Wp (.ok v G) Q := ⟨v, G, rfl, h⟩
theorem Wp.of {r : R VV} {v : VV} {G : Hv} {Q : VV → Hv → Prop} (e : r = .ok v G) (h : Q v G) : Wp r Q := ⟨v, G, e, h⟩
theorem Wp_ref {k n : Nat} {b : DS} {vs : List VV} {G : Hv} {Q : VV → Hv → Prop} (h : Wp (gcR G (outR (b (start n vs) G))) Q) (h1 : vs.length = k := by rfl) (h2 : closedL 0 vs = false := by simp) : Wp (dDef k n b vs G) Q := by
  unfold dDef
  rw [if_pos h1, if_neg (by rw [h2]; simp)]
  exact h
@[simp] theorem outR_rt (v : VV) (G : Hv) : outR (.rt v G) = .ok v G := rfl
@[simp] theorem outR_nx (S : Env) (G : Hv) : outR (.nx S G) = .ok .non G := rfl
/-! ### the spring: a list that is written -/
def HasS (G : Hv) (p : Nat) : Prop := ∃ a b d, Good a b d ∧ G[p]? = some (spr a b d)
/-- only the spring was written, things were laid behind -/
def Wd (p : Nat) (G G' : Hv) : Prop := ∃ a b d E, Good a b d ∧ G' = G.set p (spr a b d) ++ E
/-- only the spring was written -/
def Nx (p : Nat) (G G' : Hv) : Prop := ∃ a b d, Good a b d ∧ G' = G.set p (spr a b d)
theorem HasS.lt {G : Hv} {p : Nat} (h : HasS G p) : p < G.length := by
  obtain ⟨a, b, d, _, e⟩ := h
  exact (List.getElem?_eq_some_iff.mp e).1
theorem set_same {G : Hv} {p : Nat} {x : VO} (h : G[p]? = some x) : G.set p x = G := by
  obtain ⟨hl, e⟩ := List.getElem?_eq_some_iff.mp h
  rw [← e]
  exact List.set_getElem_self hl
theorem HasS.wd {G : Hv} {p : Nat} (h : HasS G p) : Wd p G G := by
  obtain ⟨a, b, d, g, e⟩ := h
  exact ⟨a, b, d, [], g, by rw [set_same e]; simp⟩
theorem Nx.wd {G G' : Hv} {p : Nat} (h : Nx p G G') : Wd p G G' := by
  obtain ⟨a, b, d, g, e⟩ := h
  exact ⟨a, b, d, [], g, by simp [e]⟩
theorem Wd.more {G G' : Hv} {p : Nat} (h : Wd p G G') (E : Hv) : Wd p G (G' ++ E) := by
  obtain ⟨a, b, d, E', g, e⟩ := h
  exact ⟨a, b, d, E' ++ E, g, by rw [e, List.append_assoc]⟩
theorem Wd.len {G G' : Hv} {p : Nat} (h : Wd p G G') : G.length ≤ G'.length := by
  obtain ⟨a, b, d, E', g, e⟩ := h
  rw [e]; simp
theorem Wd.has {G G' : Hv} {p : Nat} (hp : p < G.length) (h : Wd p G G') : HasS G' p := by
  obtain ⟨a, b, d, E', g, e⟩ := h
  refine ⟨a, b, d, g, ?_⟩
  rw [e, List.getElem?_append_left (by simpa using hp), List.getElem?_set_self hp]
theorem Wd.nx {G G1 G2 : Hv} {p : Nat} (hp : p < G.length) (h : Wd p G G1) (k : Nx p G1 G2) : Wd p G G2 := by
  obtain ⟨a, b, d, E, g, e⟩ := h
  obtain ⟨a', b', d', g', e'⟩ := k
  refine ⟨a', b', d', E, g', ?_⟩
  rw [e', e, List.set_append_left _ _ (by simpa using hp), List.set_set]
theorem Wd.wd {G G1 G2 : Hv} {p : Nat} (hp : p < G.length) (h : Wd p G G1) (k : Wd p G1 G2) : Wd p G G2 := by
  obtain ⟨a, b, d, E, g, e⟩ := k
  have : Nx p G1 (G1.set p (spr a b d)) := ⟨a, b, d, g, rfl⟩
  rw [e]
  exact (h.nx hp this).more E
theorem Nx.get {G G' : Hv} {p i : Nat} (h : Nx p G G') (hi : i ≠ p) : G'[i]? = G[i]? := by
  obtain ⟨a, b, d, g, e⟩ := h
  rw [e, List.getElem?_set_ne (Ne.symm hi)]
theorem Nx.len {G G' : Hv} {p : Nat} (h : Nx p G G') : G'.length = G.length := by
  obtain ⟨a, b, d, g, e⟩ := h
  rw [e]; simp
theorem Wd.get {G G' : Hv} {p i : Nat} (h : Wd p G G') (hi : i ≠ p) (hl : i < G.length) : G'[i]? = G[i]? := by
  obtain ⟨a, b, d, E, g, e⟩ := h
  rw [e, List.getElem?_append_left (by simpa using hl), List.getElem?_set_ne (Ne.symm hi)]
theorem Wd.fin {G G1 : Hv} {p : Nat} {v : VV} (h : Wd p G G1) (hv : closedV G.length v = true) : ∃ G2, Nx p G G2 ∧ gcR G (.ok v G1) = .ok v G2 := by
  obtain ⟨a, b, d, E, g, e⟩ := h
  exact ⟨_, ⟨a, b, d, g, rfl⟩, by rw [e]; exact gc_set hv (closed_spr _ _ _ _)⟩
theorem Wd.end {G G1 : Hv} {p : Nat} {v : VV} {Q : VV → Hv → Prop} (h : Wd p G G1) (hv : closedV G.length v = true) (k : ∀ G2, Nx p G G2 → Q v G2) : Wp (gcR G (.ok v G1)) Q := by
  obtain ⟨G2, h2, e⟩ := h.fin hv
  exact ⟨v, G2, e, k G2 h2⟩
/-- an item by its number -/
theorem atI_ok {α : Type} {xs : List α} {i : Int} (h0 : 0 ≤ i) (h1 : i < xs.length) : ∃ x, x ∈ xs ∧ atI xs i = some x := by
  have hl : i.toNat < xs.length := by omega
  refine ⟨xs[i.toNat], List.getElem_mem hl, ?_⟩
  unfold atI ixN
  rw [if_pos h0, if_pos h1]
  exact List.getElem?_eq_getElem hl
/-- an item of a list that was just written -/
theorem ix_lit {G : Hv} {xs : List VV} {i : Nat} {k : Int} (h : G[i]? = some (.lst xs)) (h0 : 0 ≤ k) (h1 : k < xs.length) : ∃ x, x ∈ xs ∧ oIx G (.ref i) (.int k) = some x := by
  obtain ⟨x, hx, e⟩ := atI_ok h0 h1
  refine ⟨x, hx, ?_⟩
  unfold oIx
  simp only [asSeq, asListR, h]
  exact e
/-- a def that was given an object -/
theorem dDef_ref {k n : Nat} {b : DS} {vs : List VV} {G : Hv} (h1 : vs.length = k) (h2 : closedL 0 vs = false) : dDef k n b vs G = gcR G (outR (b (start n vs) G)) := by
  unfold dDef
  rw [if_pos h1, if_neg (by rw [h2]; simp)]
theorem dDef_val {k n : Nat} {b : DS} {vs : List VV} {G : Hv} (h1 : vs.length = k) (h2 : closedL 0 vs = true) : dDef k n b vs G = reloc G (gcR [] (outR (b (start n vs) []))) := by
  unfold dDef
  rw [if_pos h1, if_pos h2]
/-! ### runs by themselves -/
mutual
theorem shV_closed (n : Nat) : ∀ {v : VV}, closedV 0 v = true → shV n v = v
  | .non, _ => by rw [shV] <;> simp
  | .bl _, _ => by rw [shV] <;> simp
  | .int _, _ => by rw [shV] <;> simp
  | .str _, _ => by rw [shV] <;> simp
  | .cls _, _ => by rw [shV] <;> simp
  | .ref i, h => by simp at h
  | .tup xs, h => by rw [shV, shL_closed n (by simpa using h)]
  | .exc c fs, h => by rw [shV, shF_closed n (by rw [closedV] at h; exact h)]
  | .clo c xs, h => by rw [shV, shL_closed n (by rw [closedV] at h; exact h)]
theorem shL_closed (n : Nat) : ∀ {v : List VV}, closedL 0 v = true → shL n v = v
  | [], _ => by rw [shL]
  | x :: xs, h => by
    rw [closedL_cons, Bool.and_eq_true] at h
    rw [shL, shV_closed n h.1, shL_closed n h.2]
theorem shF_closed (n : Nat) : ∀ {v : List (Nat × VV)}, closedF 0 v = true → shF n v = v
  | [], _ => by rw [shF]
  | (c, x) :: xs, h => by
    rw [closedF, Bool.and_eq_true] at h
    rw [shF, shV_closed n h.1, shF_closed n h.2]
end
mutual
theorem shV_zero : ∀ (v : VV), shV 0 v = v
  | .non => by rw [shV] <;> simp
  | .bl _ => by rw [shV] <;> simp
  | .int _ => by rw [shV] <;> simp
  | .str _ => by rw [shV] <;> simp
  | .cls _ => by rw [shV] <;> simp
  | .ref i => by rw [shV, Nat.zero_add]
  | .tup xs => by rw [shV, shL_zero xs]
  | .exc c fs => by rw [shV, shF_zero fs]
  | .clo c xs => by rw [shV, shL_zero xs]
theorem shL_zero : ∀ (v : List VV), shL 0 v = v
  | [] => by rw [shL]
  | x :: xs => by rw [shL, shV_zero x, shL_zero xs]
theorem shF_zero : ∀ (v : List (Nat × VV)), shF 0 v = v
  | [] => by rw [shF]
  | (c, x) :: xs => by rw [shF, shV_zero x, shF_zero xs]
end
theorem shK_zero : ∀ (v : List (VV × VV)), shK 0 v = v
  | [] => rfl
  | (c, x) :: xs => by rw [shK, shV_zero x, shK_zero xs]
theorem shO_zero : ∀ (o : VO), shO 0 o = o
  | .lst xs => by rw [shO, shL_zero]
  | .flst xs => by rw [shO, shL_zero]
  | .dic xs => by rw [shO, shK_zero]
  | .ins c xs => by rw [shO, shF_zero]
  | .nset i ks => by rw [shO, shL_zero, Nat.zero_add]
theorem map_shO_zero (G : Hv) : G.map (shO 0) = G := by
  have : shO 0 = id := funext shO_zero
  rw [this]; simp
theorem reloc_nil (r : R VV) : reloc [] r = r := by
  cases r with
  | ok v G => simp [reloc, shV_zero, map_shO_zero]
  | exn v G => simp [reloc, shV_zero, map_shO_zero]
  | bad => rfl
/-- a closed call anywhere is the call by itself, laid behind -/
theorem dDef_loc {k n : Nat} {b : DS} {vs : List VV} (h : closedL 0 vs = true) (G : Hv) : dDef k n b vs G = reloc G (dDef k n b vs []) := by
  unfold dDef
  split
  · rw [reloc_nil]
  · rfl
theorem loc_val {k n : Nat} {b : DS} {vs : List VV} {v : VV} (h : closedL 0 vs = true) (e : dDef k n b vs [] = .ok v []) (hv : closedV 0 v = true) (G : Hv) : dDef k n b vs G = .ok v G := by
  rw [dDef_loc h G, e]
  simp [reloc, shV_closed _ hv]
theorem loc_ref {k n : Nat} {b : DS} {vs : List VV} {i : Nat} {E : Hv} (h : closedL 0 vs = true) (e : dDef k n b vs [] = .ok (.ref i) E) (G : Hv) : dDef k n b vs G = .ok (.ref (G.length + i)) (G ++ E.map (shO G.length)) := by
  rw [dDef_loc h G, e]
  simp [reloc, shV]
/-- to run a closed call by itself -/
theorem Wp_loc {k n : Nat} {b : DS} {vs : List VV} {G : Hv} {Q : VV → Hv → Prop} (h : Wp (gcR [] (outR (b (start n vs) []))) fun v E => Q (shV G.length v) (G ++ E.map (shO G.length))) (h1 : vs.length = k := by rfl) (h2 : closedL 0 vs = true := by simp) : Wp (dDef k n b vs G) Q := by
  obtain ⟨v, E, e, q⟩ := h
  unfold dDef
  rw [if_pos h1, if_pos h2, e]
  exact ⟨_, _, rfl, q⟩
end DL
end S_Run
section S_Run2
set_option linter.all false
set_option maxRecDepth 100000
set_option maxHeartbeats 4000000
/-! Run2: comprehensions, texts. Plain Lean. -/
namespace DL
@[simp] theorem bLen_tup (xs : List VV) (G : Hv) : bLen [.tup xs] G = some (.int xs.length, G) := Eq.trans rfl rfl
@[simp] theorem bLen_ref (i : Nat) (G : Hv) : bLen [.ref i] G = (asListR G (.ref i)).map fun xs => (.int xs.length, G) := Eq.trans rfl rfl
theorem lcL_inv {chk : List (Nat × VO)} {g : DG} {t : DT} {e : DE} {vs : List Nat} {S0 : Env} {D : Nat} (I : Nat → List VV → Hv → Prop) (st : ∀ i acc G, I i acc G → stays G chk = true) : ∀ (xs : List VV) (i : Nat) (acc : List VV) (G : Hv), I i acc G →
    (∀ j acc G x, xs[j - i]? = some x → i ≤ j → I j acc G → ∃ S1 G1, g x S0 G = .nx S1 G1 ∧ ((∃ G2, t S1 G1 = .ok false G2 ∧ I (j + 1) acc G2) ∨ ∃ G2 y G3, t S1 G1 = .ok true G2 ∧ e S1 G2 = .ok y G3 ∧ G3[D]? = some (.lst acc) ∧ acc.length < LIM ∧ I (j + 1) (acc ++ [y]) (G3.set D (.lst (acc ++ [y]))))) →
    ∃ acc' G', lcL chk g t e vs S0 D xs G = .ok (.ref D) G' ∧ I (i + xs.length) acc' G'
  | [], i, acc, G, h, _ => ⟨acc, G, by simp [lcL, st i acc G h], h⟩
  | x :: xs, i, acc, G, h, k => by
    obtain ⟨S1, G1, e1, h2⟩ := k i acc G x (by simp) (Nat.le_refl _) h
    have step : ∀ j acc G y, xs[j - (i + 1)]? = some y → i + 1 ≤ j → I j acc G → _ := fun j acc G y hy hj => k j acc G y (by
      have : j - i = (j - (i + 1)) + 1 := by omega
      rw [this, List.getElem?_cons_succ]
      exact hy) (by omega)
    rw [List.length_cons, show i + (xs.length + 1) = i + 1 + xs.length by omega]
    rcases h2 with ⟨G2, e2, h3⟩ | ⟨G2, y, G3, e2, e3, e4, hl, h3⟩
    · obtain ⟨acc', G', e5, h5⟩ := lcL_inv I st xs (i + 1) acc G2 h3 step
      refine ⟨acc', G', ?_, h5⟩
      simp only [lcL, st i acc G h, if_true, e1, e2]
      exact e5
    · obtain ⟨acc', G', e5, h5⟩ := lcL_inv I st xs (i + 1) _ _ h3 step
      refine ⟨acc', G', ?_, h5⟩
      have hl' : acc.length < 16777216 := hl
      simp [lcL, st i acc G h, e1, e2, e3, e4, hl']
      exact e5
/-- [e for x in xs], where nothing is laid -/
theorem lcL_map {chk : List (Nat × VO)} {g : DG} {e : DE} {vs : List Nat} {S0 : Env} {D : Nat} {f : VV → VV} (xs : List VV) (G : Hv) (hD : D = G.length) (hst : ∀ o, stays (G ++ [o]) chk = true) (hl : xs.length < LIM)
    (k : ∀ x o, x ∈ xs → ∃ S1, g x S0 (G ++ [o]) = .nx S1 (G ++ [o]) ∧ e S1 (G ++ [o]) = .ok (f x) (G ++ [o])) : lcL chk g tYes e vs S0 D xs (G ++ [.lst []]) = .ok (.ref D) (G ++ [.lst (xs.map f)]) := by
  subst hD
  obtain ⟨acc', G', e1, h1, h2⟩ := lcL_inv (chk := chk) (g := g) (t := tYes) (e := e) (vs := vs) (S0 := S0) (D := G.length) (fun i acc G' => acc = (xs.take i).map f ∧ G' = G ++ [.lst acc]) (fun i acc G' ⟨_, h⟩ => by rw [h]; exact hst _) xs 0 [] (G ++ [.lst []]) ⟨by simp, rfl⟩ (by
    rintro j acc G' x hx _ ⟨rfl, rfl⟩
    rw [Nat.sub_zero] at hx
    obtain ⟨S1, e1, e2⟩ := k x (.lst ((xs.take j).map f)) (List.mem_of_getElem? hx)
    refine ⟨S1, _, e1, .inr ⟨_, f x, _, rfl, e2, by simp, ?_, ?_, by simp⟩⟩
    · rw [List.length_map, List.length_take]; omega
    · rw [List.take_succ, hx]; simp)
  rw [e1, h2, h1]
  simp
theorem splitC_none {c : Nat} : ∀ {w : List Nat}, c ∉ w → splitC c w = [w]
  | [], _ => rfl
  | d :: w, h => by
    have hd : ¬ d = c := fun e => h (by simp [e])
    have hw : c ∉ w := fun m => h (List.mem_cons_of_mem _ m)
    rw [splitC, if_neg hd, splitC_none hw]
theorem splitC_app {c : Nat} {r : List Nat} : ∀ {w : List Nat}, c ∉ w → splitC c (w ++ c :: r) = w :: splitC c r
  | [], _ => by simp [splitC]
  | d :: w, h => by
    have hd : ¬ d = c := fun e => h (by simp [e])
    have hw : c ∉ w := fun m => h (List.mem_cons_of_mem _ m)
    rw [List.cons_append, splitC, if_neg hd, splitC_app hw]
theorem split_join {c : Nat} : ∀ {ws : List (List Nat)}, ws ≠ [] → (∀ w ∈ ws, c ∉ w) → splitC c (joinS [c] ws) = ws
  | [], h, _ => (h rfl).elim
  | [w], _, h => by rw [joinS, splitC_none (h w (by simp))]
  | w :: v :: r, _, h => by
    rw [joinS, List.singleton_append, splitC_app (h w (by simp)), split_join (by simp) fun x hx => h x (List.mem_cons_of_mem _ hx)]
theorem join_len {c : Nat} {m : Nat} : ∀ {ws : List (List Nat)}, (∀ w ∈ ws, w.length ≤ m) → (joinS [c] ws).length ≤ ws.length * (m + 1)
  | [], _ => by simp [joinS]
  | [w], h => by
    have := h w (by simp)
    simp [joinS]; omega
  | w :: v :: r, h => by
    have h1 := h w (by simp)
    have h2 := join_len (c := c) (ws := v :: r) fun x hx => h x (List.mem_cons_of_mem _ hx)
    rw [joinS]
    have e : (w :: v :: r).length * (m + 1) = (v :: r).length * (m + 1) + (m + 1) := by rw [List.length_cons, Nat.add_mul, Nat.one_mul]
    rw [e, List.length_append, List.length_append]
    simp only [List.length_singleton]
    omega
/-- a loop that looks at each, and ends the def at the first that is not p -/
theorem forL_all {chk : List (Nat × VO)} {i : Nat} {b : DS} {p : VV → Bool} {r : VV} {G : Hv} (A : Env → Prop) (st : stays G chk = true) (hA : ∀ S x, A S → A (S.set i (some x))) : ∀ (xs : List VV) (S : Env), A S →
    (∀ S x, A S → x ∈ xs → b (S.set i (some x)) G = if p x = true then .nx (S.set i (some x)) G else .rt r G) → ∃ S', A S' ∧ forL chk (gName i) b xs S G = if xs.all p = true then .nx S' G else .rt r G
  | [], S, h, _ => ⟨S, h, by simp [forL, st]⟩
  | x :: xs, S, h, hb => by
    have h1 := hb S x h (by simp)
    by_cases hp : p x = true
    · rw [if_pos hp] at h1
      obtain ⟨S', h2, e⟩ := forL_all A st hA xs _ (hA S x h) fun S y hS hy => hb S y hS (List.mem_cons_of_mem _ hy)
      refine ⟨S', h2, ?_⟩
      simp only [forL, st, if_true, gName_ap, gRun_nx, h1, e, List.all_cons, hp, Bool.true_and]
    · rw [if_neg hp] at h1
      have hp' : p x = false := by simpa using hp
      refine ⟨S, h, ?_⟩
      simp [forL, st, h1, hp']
end DL
end S_Run2
section S_Run3
set_option linter.all false
set_option maxRecDepth 100000
set_option maxHeartbeats 4000000
/-! Run3: what Sem2 brings, run by simp. -/
namespace DL
@[simp] theorem dSortSet_ap (a : DE) (S : Env) (G : Hv) : dSortSet a S G = (a S G).bind fun x G1 => ofO (oSortSet G1 x) := Eq.trans rfl rfl
@[simp] theorem dIsC_ap (c : Nat) (a : DE) (S : Env) (G : Hv) : dIsC c a S G = (a S G).bind fun x G1 => if isC c G1 x then .ok (.bl true) G1 else .bad := Eq.trans rfl rfl
@[simp] theorem dLc2_ap (vs vs1 : List Nat) (it : DI) (g : DG) (t : DT) (it1 : DI) (g1 : DG) (t1 : DT) (e : DE) (S : Env) (G : Hv) : dLc2 vs vs1 it g t it1 g1 t1 e S G = (it S G).bind fun p G1 => lc2L p.2 g t it1 g1 t1 e vs vs1 (wipe S vs) G1.length p.1 (G1 ++ [.lst []]) := Eq.trans rfl rfl
@[simp] theorem dListRg_ap (a : DE) (S : Env) (G : Hv) : dListRg a S G = (a S G).bind fun x G1 => match x with
  | .int j => if Nat.ble j.natAbs 16777216 = true then .ok (.ref G1.length) (G1 ++ [.lst (upTo 0 j.toNat)]) else .bad
  | _ => .bad := Eq.trans rfl rfl
@[simp] theorem dCallD_ap (f : Fn) (ds : List VV) (a : DA) (S : Env) (G : Hv) : dCallD f ds a S G = (a S G).bind fun vs G1 => f (vs ++ ds) G1 := Eq.trans rfl rfl
@[simp] theorem dDic0_ap (S : Env) (G : Hv) : dDic0 S G = .ok (.ref G.length) (G ++ [.dic []]) := Eq.trans rfl rfl
end DL
end S_Run3
section S_Ch1
set_option linter.all false
set_option maxRecDepth 100000
set_option maxHeartbeats 4000000
/-! Ch1: what a search comes to. Plain Lean. -/
namespace DL
/-- a def that gives a truth value and keeps nothing -/
theorem dDef_bl {k n : Nat} {b : DS} {vs : List VV} {G : Hv} {c : Bool} (hk : vs.length = k) (h : ∀ A : Hv, (A = G ∨ closedL 0 vs = true) → ∃ E, b (start n vs) A = .rt (.bl c) (A ++ E)) : dDef k n b vs G = .ok (.bl c) G := by
  unfold dDef
  rw [if_pos hk]
  split
  · rename_i hc
    obtain ⟨E, e⟩ := h [] (.inr hc)
    rw [e, outR_rt, gc_pure (by simp)]
    simp [reloc, shV]
  · obtain ⟨E, e⟩ := h G (.inl rfl)
    rw [e, outR_rt, gc_pure (by simp)]
/-! ### lists without doubles -/
theorem nodup_le {α : Type} [DecidableEq α] : ∀ {xs ys : List α}, xs.Nodup → (∀ x ∈ xs, x ∈ ys) → xs.length ≤ ys.length
  | [], _, _, _ => Nat.zero_le _
  | x :: xs, ys, hn, hs => by
    rw [List.nodup_cons] at hn
    have hx : x ∈ ys := hs x (List.mem_cons_self ..)
    have := nodup_le (xs := xs) (ys := ys.erase x) hn.2 fun y hy => (List.mem_erase_of_ne (fun e : y = x => hn.1 (by rw [← e]; exact hy))).mpr (hs y (List.mem_cons_of_mem _ hy))
    rw [List.length_erase_of_mem hx] at this
    have hp : 0 < ys.length := List.length_pos_of_mem hx
    simp
    omega
/-! ### what is reached -/
section
variable {σ : Type}
inductive Rc (m : Nat) (step : σ → Nat → Nat → Option σ) (s0 : σ) : σ → Prop
  | start : Rc m step s0 s0
  | step {s t : σ} {l b : Nat} : Rc m step s0 s → l < 3 → b < m → step s l b = some t → Rc m step s0 t
/-- states as values -/
structure EncOk (enc : σ → List VV) : Prop where
  key : ∀ s, ∃ k, normV (.tup (enc s)) = some k ∧ depV k ≤ 8
  inj : ∀ s t, normV (.tup (enc s)) = normV (.tup (enc t)) → s = t
def encR (enc : σ → List VV) (nv : VV) : Option σ → VV
  | some t => .tup (enc t)
  | none => nv
theorem hasN_eq [DecidableEq σ] {enc : σ → List VV} (h : EncOk enc) (vis : List σ) (t : σ) {k : VV} (hk : normV (.tup (enc t)) = some k) : hasN (vis.map fun s => .tup (enc s)) k = decide (t ∈ vis) := by
  unfold hasN
  rw [List.any_map]
  by_cases ht : t ∈ vis
  · rw [decide_eq_true ht, List.any_eq_true]
    exact ⟨t, ht, by simp [hk]⟩
  · rw [decide_eq_false ht, List.any_eq_false]
    intro s hs
    simp only [Function.comp_apply, decide_eq_true_eq]
    intro e
    exact ht ((h.inj s t (e.trans hk.symm)) ▸ hs)
theorem inN_eq [DecidableEq σ] {enc : σ → List VV} (h : EncOk enc) {vis : List σ} {p : Nat} {G : Hv} (hG : G[p]? = some (.nset p (vis.map fun s => .tup (enc s)))) (t : σ) : cNinN G (.tup (enc t)) (.ref p) = some (!decide (t ∈ vis)) := by
  obtain ⟨k, hk, hd⟩ := h.key t
  unfold cNinN oInN
  simp only [hG, hk]
  rw [if_pos ⟨trivial, hd⟩, hasN_eq h vis t hk]
  rfl
/-! heaps with the two objects of a search -/
theorem get_0 (A E : Hv) (a b : VO) : (A ++ a :: b :: E)[A.length]? = some a := by simp
theorem get_1 (A E : Hv) (a b : VO) : (A ++ a :: b :: E)[A.length + 1]? = some b := by
  rw [List.getElem?_append_right (by omega)]; simp
theorem set_0 (A E : Hv) (a b x : VO) : (A ++ a :: b :: E).set A.length x = A ++ x :: b :: E := by
  rw [List.set_append_right _ _ (Nat.le_refl _)]; simp
theorem set_1 (A E : Hv) (a b x : VO) : (A ++ a :: b :: E).set (A.length + 1) x = A ++ a :: x :: E := by
  rw [List.set_append_right _ _ (by omega)]; simp
@[simp] theorem dCallF_ap (i : Nat) (T) (a : DA) (S : Env) (G : Hv) : dCallF i T a S G = match S[i]? with
  | some (some (.clo n cs)) => match T n with
    | some fn => (a S G).bind fun vs G1 => fn cs vs G1
    | none => .bad
  | _ => .bad := Eq.trans rfl rfl
@[simp] theorem tL_ap (a : DE) (S : Env) (G : Hv) : tL a S G = (a S G).bind fun x G1 => ofP (truL G1 x) G1 := Eq.trans rfl rfl
@[simp] theorem gNs_ap (a b : DE) (v : VV) (S : Env) (G : Hv) : gNs a b v S G = (a S G).st S fun x G1 => (b S G1).st S fun y G2 => match v, x, y with
  | .bl true, .ref i, .tup ys => match G2[i]? with
    | some (.nset j ks) => match normV (.tup ys) with
      | some k => if j = i ∧ depV k ≤ 8 ∧ hasN ks k = false ∧ Nat.ble ks.length 1000000 = true then .nx S (G2.set i (.nset i (ks ++ [.tup ys]))) else .bad
      | none => .bad
    | _ => .bad
  | _, _, _ => .bad := Eq.trans rfl rfl
theorem upTo_get : ∀ {n : Nat} {lo : Int} {j : Nat} {x : VV}, (upTo lo n)[j]? = some x → x = .int (lo + (j : Nat)) ∧ j < n
  | 0, _, _, _, h => by simp [upTo] at h
  | n + 1, lo, 0, x, h => by
    simp [upTo] at h
    simp [← h]
  | n + 1, lo, j + 1, x, h => by
    rw [upTo, List.getElem?_cons_succ] at h
    obtain ⟨e, hj⟩ := upTo_get h
    refine ⟨by rw [e]; congr 1; omega, by omega⟩
/-- one letter -/
theorem push_run [DecidableEq σ] {enc : σ → List VV} (h : EncOk enc) {A E : Hv} {vis wt : List σ} {t : σ} {S : Env} {iv is iw : Nat} (hiv : S[iv]? = some (some (.tup (enc t)))) (his : S[is]? = some (some (.ref A.length))) (hiw : S[iw]? = some (some (.ref (A.length + 1)))) (hn : t ∉ vis) (hl : vis.length ≤ 100000) (hw : wt.length ≤ 100000) :
    (dSeq (sAsg (dC (.bl true)) (gNs (dVar is) (dVar iv))) (dExpr (dM .lst mAppend (dVar iw) (aCons (dVar iv) (aNil))))) S (A ++ .nset A.length (vis.map fun s => .tup (enc s)) :: .lst (wt.map fun s => .tup (enc s)) :: E) =
      .nx S (A ++ .nset A.length ((vis ++ [t]).map fun s => .tup (enc s)) :: .lst ((wt ++ [t]).map fun s => .tup (enc s)) :: E) := by
  obtain ⟨k, hk, hd⟩ := h.key t
  have hh := hasN_eq h vis t hk
  rw [decide_eq_false hn] at hh
  have hb : Nat.ble (vis.map fun s => VV.tup (enc s)).length 1000000 = true := Nat.ble_eq_true_of_le (by rw [List.length_map]; omega)
  have hlt : wt.length < 16777216 := by omega
  simp only [dSeq_ap, sAsg_ap, dC_ap, R.st_ok, gNs_ap, dVar_ap, his, hiv, get_0, hk, hh, hb, hd]
  simp only [and_self, if_true, gRun_nx, thn_nx, dExpr_ap, dM_ap, dVar_ap, hiw, R.bind_ok, isRt, set_0, get_1, aCons_ap, aNil_ap, hiv, mAppend, List.length_map]
  rw [if_pos (by exact hlt)]
  simp only [ofO_some, R.st_ok, set_1, List.map_append, List.map_cons, List.map_nil]
/-- what holds while letters are gone through: done, the letters gone through -/
structure Part (m : Nat) (step : σ → Nat → Nat → Option σ) (s0 : σ) (vis wt vis' wt' : List σ) (s : σ) (done : Nat → Nat → Prop) : Prop where
  ex : ∃ nw, vis' = vis ++ nw ∧ wt' = wt ++ nw
  nd : vis'.Nodup
  rc : ∀ t ∈ vis', Rc m step s0 t
  got : ∀ l b t, done l b → step s l b = some t → t ∈ vis'
/-- what holds between the turns -/
structure Inv (m : Nat) (step : σ → Nat → Nat → Option σ) (wrong : σ → Bool) (s0 : σ) (vis wt : List σ) : Prop where
  nd : vis.Nodup
  st : s0 ∈ vis
  sub : ∀ s ∈ wt, s ∈ vis
  nw : wt.Nodup
  rc : ∀ s ∈ vis, Rc m step s0 s
  fin : ∀ s ∈ vis, s ∉ wt → wrong s = false ∧ ∀ l b t, l < 3 → b < m → step s l b = some t → t ∈ vis
theorem Inv.init {m : Nat} {step : σ → Nat → Nat → Option σ} {wrong : σ → Bool} {s0 : σ} : Inv m step wrong s0 [s0] [s0] :=
  ⟨by simp, by simp, fun s h => h, by simp, fun s h => by rw [List.mem_singleton.mp h]; exact .start, fun s h hn => absurd h hn⟩
theorem Inv.next {m : Nat} {step : σ → Nat → Nat → Option σ} {wrong : σ → Bool} {s0 s : σ} {vis wt vis' wt' : List σ} (h : Inv m step wrong s0 vis (wt ++ [s])) (hw : wrong s = false) (p : Part m step s0 vis wt vis' wt' s fun l b => l < 3 ∧ b < m) : Inv m step wrong s0 vis' wt' := by
  obtain ⟨nw, rfl, rfl⟩ := p.ex
  have nd := p.nd
  have nw1 := h.nw
  rw [List.nodup_append] at nd nw1
  refine ⟨p.nd, List.mem_append_left _ h.st, fun t ht => ?_, ?_, p.rc, fun t ht hn => ?_⟩
  · rcases List.mem_append.mp ht with ht | ht
    · exact List.mem_append_left _ (h.sub t (List.mem_append_left _ ht))
    · exact List.mem_append_right _ ht
  · rw [List.nodup_append]
    exact ⟨nw1.1, nd.2.1, fun a ha b hb => nd.2.2 a (h.sub a (List.mem_append_left _ ha)) b hb⟩
  · have hn1 : t ∉ wt := fun z => hn (List.mem_append_left _ z)
    have hn2 : t ∉ nw := fun z => hn (List.mem_append_right _ z)
    have ht : t ∈ vis := (List.mem_append.mp ht).resolve_right hn2
    by_cases e : t = s
    · subst e
      exact ⟨hw, fun l b u hl hb hu => p.got l b u ⟨hl, hb⟩ hu⟩
    · obtain ⟨f1, f2⟩ := h.fin t ht fun z => (List.mem_append.mp z).elim hn1 fun z => e (List.mem_singleton.mp z)
      exact ⟨f1, fun l b u hl hb hu => List.mem_append_left _ (f2 l b u hl hb hu)⟩
theorem Inv.none {m : Nat} {step : σ → Nat → Nat → Option σ} {wrong : σ → Bool} {s0 : σ} {vis : List σ} (h : Inv m step wrong s0 vis []) : ∀ t, Rc m step s0 t → wrong t = false := by
  have all : ∀ t, Rc m step s0 t → t ∈ vis := fun t ht => by
    induction ht with
    | start => exact h.st
    | step _ hl hb hs ih => exact (h.fin _ ih (by simp)).2 _ _ _ hl hb hs
  exact fun t ht => (h.fin t (all t ht) (by simp)).1
end
end DL
end S_Ch1
section S_Ch2
set_option linter.all false
set_option maxRecDepth 100000
set_option maxHeartbeats 4000000
/-! Ch2: is_reached tells what is reached. Plain Lean. -/
namespace DL
section
variable {σ : Type} [DecidableEq σ] {enc : σ → List VV} {step : σ → Nat → Nat → Option σ} {wrong : σ → Bool} {s0 : σ} {A : Hv} {n1 n2 : Nat} {c1 c2 : List VV} {f1 f2 : Clo} {all : List σ}
/-- what the two defs do -/
structure StepOk (m : Nat) (enc : σ → List VV) (step : σ → Nat → Nat → Option σ) (wrong : σ → Bool) (s0 : σ) (nv : VV) (A : Hv) (f1 f2 : Clo) (c1 c2 : List VV) (all : List σ) : Prop where
  ok : EncOk enc
  st : ∀ s l b E, Rc m step s0 s → l < 3 → b < m → f1 c1 [.tup (enc s), .int (l : Nat), .int (b : Nat)] (A ++ E) = .ok (encR enc nv (step s l b)) (A ++ E)
  wr : ∀ s E, Rc m step s0 s → f2 c2 [.tup (enc s)] (A ++ E) = .ok (.bl (wrong s)) (A ++ E)
  cov : ∀ s, Rc m step s0 s → s ∈ all
  few : all.length ≤ 50000
theorem StepOk.len {m : Nat} {nv : VV} (h : StepOk m enc step wrong s0 nv A f1 f2 c1 c2 all) {vis : List σ} (nd : vis.Nodup) (rc : ∀ t ∈ vis, Rc m step s0 t) : vis.length ≤ 50000 :=
  Nat.le_trans (nodup_le nd fun t ht => h.cov t (rc t ht)) h.few
abbrev hp2 (A E : Hv) (enc : σ → List VV) (vis wt : List σ) : Hv := A ++ .nset A.length (vis.map fun s => .tup (enc s)) :: .lst (wt.map fun s => .tup (enc s)) :: E
theorem Part.more {m : Nat} {vis wt vis' wt' : List σ} {s : σ} {D D' : Nat → Nat → Prop} (p : Part m step s0 vis wt vis' wt' s D) {l b : Nat} (hD : ∀ x y, D' x y → D x y ∨ (x = l ∧ y = b)) (hs : Rc m step s0 s) (hl : l < 3) (hb : b < m) :
    (∀ t, step s l b = some t → t ∈ vis') → Part m step s0 vis wt vis' wt' s D' := fun h => ⟨p.ex, p.nd, p.rc, fun x y t hd ht => by
  rcases hD x y hd with z | ⟨rfl, rfl⟩
  · exact p.got x y t z ht
  · exact h t ht⟩
theorem Part.push {m : Nat} {vis wt vis' wt' : List σ} {s t : σ} {D D' : Nat → Nat → Prop} (p : Part m step s0 vis wt vis' wt' s D) {l b : Nat} (hD : ∀ x y, D' x y → D x y ∨ (x = l ∧ y = b)) (hs : Rc m step s0 s) (hl : l < 3) (hb : b < m) (ht : step s l b = some t) (hn : t ∉ vis') :
    Part m step s0 vis wt (vis' ++ [t]) (wt' ++ [t]) s D' := by
  obtain ⟨nw, h1, h2⟩ := p.ex
  refine ⟨⟨nw ++ [t], by rw [h1, List.append_assoc], by rw [h2, List.append_assoc]⟩, ?_, fun u hu => ?_, fun x y u hd hu => ?_⟩
  · rw [List.nodup_append]
    exact ⟨p.nd, by simp, fun a ha b hb e => hn (by rw [List.mem_singleton.mp hb] at e; exact e ▸ ha)⟩
  · rcases List.mem_append.mp hu with hu | hu
    · exact p.rc u hu
    · rw [List.mem_singleton.mp hu]
      exact .step hs hl hb ht
  · rcases hD x y hd with z | ⟨rfl, rfl⟩
    · exact List.mem_append_left _ (p.got x y u z hu)
    · rw [ht] at hu
      cases hu
      simp
variable {E : Hv} {v0 u6 u7 u8 : Option VV}
abbrev envR (A : Hv) (enc : σ → List VV) (n1 n2 : Nat) (c1 c2 : List VV) (v0 : Option VV) (s : σ) (u6 u7 u8 : Option VV) : Env := [v0, some (.clo n1 c1), some (.clo n2 c2), some (.ref A.length), some (.ref (A.length + 1)), some (.tup (enc s)), u6, u7, u8]
abbrev bodyL : DS := dSeq (sAsg (dCallF 1 clos (aCons (dVar 5) (aCons (dVar 6) (aCons (dVar 7) (aNil))))) (gName 8)) (
  sIf (tAnd (tV (dNotN (dVar 8))) (tV (dCmp cNinN (dVar 8) (dVar 3)))) (dSeq (sAsg (dC (.bl true)) (gNs (dVar 3) (dVar 8))) (
  dExpr (dM .lst mAppend (dVar 4) (aCons (dVar 8) (aNil))))) (dNext))
theorem letter_run (h : StepOk 8 enc step wrong s0 .non A f1 f2 c1 c2 all) (hf : clos n1 = some f1) {vis wt vis' wt' : List σ} {s : σ} {D D' : Nat → Nat → Prop} (hs : Rc 8 step s0 s) (p : Part 8 step s0 vis wt vis' wt' s D) {l b : Nat} (hl : l < 3) (hb : b < 8) (hw : wt'.length ≤ 100000)
    (hD : ∀ x y, D' x y → D x y ∨ (x = l ∧ y = b)) : ∃ vis2 wt2 u, bodyL (envR A enc n1 n2 c1 c2 v0 s (some (.int (l : Nat))) (some (.int (b : Nat))) u8) (hp2 A E enc vis' wt') = .nx (envR A enc n1 n2 c1 c2 v0 s (some (.int (l : Nat))) (some (.int (b : Nat))) u) (hp2 A E enc vis2 wt2) ∧ Part 8 step s0 vis wt vis2 wt2 s D' := by
  have st := h.st s l b (.nset A.length (vis'.map fun s => .tup (enc s)) :: .lst (wt'.map fun s => .tup (enc s)) :: E) hs hl hb
  have hlen := h.len p.nd p.rc
  cases hq : step s l b with
  | none =>
    rw [hq] at st
    refine ⟨vis', wt', some .non, ?_, p.more hD hs hl hb fun t ht => by rw [hq] at ht; cases ht⟩
    simp only [encR] at st
    simp [bodyL, envR, hp2, hf, st]
  | some t =>
    rw [hq] at st
    simp only [encR] at st
    by_cases ht : t ∈ vis'
    · refine ⟨vis', wt', some (.tup (enc t)), ?_, p.more hD hs hl hb fun u hu => by rw [hq] at hu; cases hu; exact ht⟩
      have ni := inN_eq h.ok (get_0 A E (.nset A.length (vis'.map fun s => .tup (enc s))) (.lst (wt'.map fun s => .tup (enc s)))) t
      simp [ht] at ni
      simp [bodyL, envR, hp2, hf, st, ni]
    · refine ⟨vis' ++ [t], wt' ++ [t], some (.tup (enc t)), ?_, p.push hD hs hl hb hq ht⟩
      have ni := inN_eq h.ok (get_0 A E (.nset A.length (vis'.map fun s => .tup (enc s))) (.lst (wt'.map fun s => .tup (enc s)))) t
      have pr := push_run (E := E) h.ok (vis := vis') (wt := wt') (t := t) (S := envR A enc n1 n2 c1 c2 v0 s (some (.int (l : Nat))) (some (.int (b : Nat))) (some (.tup (enc t)))) (iv := 8) (is := 3) (iw := 4) rfl rfl rfl ht (by omega) hw
      rw [decide_eq_false ht] at ni
      simp at ni
      simp only [List.map_append, List.map_cons, List.map_nil] at pr
      simp [-dSeq_ap, envR] at pr
      unfold bodyL
      rw [dSeq_ap]
      simp [-dSeq_ap, envR, hp2, hf, st, ni]
      exact pr
theorem Part.few {m : Nat} {nv : VV} (h : StepOk m enc step wrong s0 nv A f1 f2 c1 c2 all) {vis wt vis' wt' : List σ} {s : σ} {D : Nat → Nat → Prop} (p : Part m step s0 vis wt vis' wt' s D) (hw : wt.length ≤ 50000) : wt'.length ≤ 100000 := by
  obtain ⟨nw, h1, h2⟩ := p.ex
  have := h.len p.nd p.rc
  rw [h1, List.length_append] at this
  rw [h2, List.length_append]
  omega
theorem bits_run (h : StepOk 8 enc step wrong s0 .non A f1 f2 c1 c2 all) (hf : clos n1 = some f1) {vis wt vis' wt' : List σ} {s : σ} (hs : Rc 8 step s0 s) {l : Nat} (hl : l < 3) (hw : wt.length ≤ 50000) (p : Part 8 step s0 vis wt vis' wt' s fun x y => x < l ∧ y < 8) :
    ∃ vis2 wt2 u7' u8', forL [] (gName 7) bodyL (upTo 0 8) (envR A enc n1 n2 c1 c2 v0 s (some (.int (l : Nat))) u7 u8) (hp2 A E enc vis' wt') = .nx (envR A enc n1 n2 c1 c2 v0 s (some (.int (l : Nat))) u7' u8') (hp2 A E enc vis2 wt2) ∧ Part 8 step s0 vis wt vis2 wt2 s fun x y => x < l + 1 ∧ y < 8 := by
  obtain ⟨S', G', e, vis2, wt2, u7', u8', rfl, rfl, p2⟩ := forL_invC (chk := []) (g := gName 7) (b := bodyL) (fun j S G => ∃ vis2 wt2 u7' u8', S = envR A enc n1 n2 c1 c2 v0 s (some (.int (l : Nat))) u7' u8' ∧ G = hp2 A E enc vis2 wt2 ∧ Part 8 step s0 vis wt vis2 wt2 s fun x y => (x < l ∧ y < 8) ∨ (x = l ∧ y < j)) (fun _ _ _ _ => rfl) (upTo 0 8) 0 _ _
    ⟨vis', wt', u7, u8, rfl, rfl, p.ex, p.nd, p.rc, fun x y t hd ht => p.got x y t (hd.resolve_right fun z => by omega) ht⟩ (by
    rintro j S G x hx _ ⟨vis2, wt2, u7', u8', rfl, rfl, p2⟩
    obtain ⟨rfl, hj⟩ := upTo_get hx
    obtain ⟨vis3, wt3, u, e3, p3⟩ := letter_run (E := E) (n2 := n2) (v0 := v0) (u8 := u8') h hf hs p2 (D' := fun x y => (x < l ∧ y < 8) ∨ (x = l ∧ y < j + 1)) hl (b := j) (by omega) (p2.few h hw) (fun x y hd => by
      rcases hd with hd | ⟨rfl, hd⟩
      · exact .inl (.inl hd)
      · by_cases q : y = j
        · exact .inr ⟨rfl, q⟩
        · exact .inl (.inr ⟨rfl, by omega⟩))
    refine ⟨_, _, _, _, ?_, e3, vis3, wt3, some (.int j), u, rfl, rfl, p3⟩
    simp [envR])
  refine ⟨vis2, wt2, u7', u8', e, p2.ex, p2.nd, p2.rc, fun x y t hd ht => p2.got x y t ?_ ht⟩
  rw [upTo_len]
  by_cases q : x = l
  · exact .inr ⟨q, by omega⟩
  · exact .inl ⟨by omega, hd.2⟩
abbrev bodyB : DS := sFor (iRange1 (aCons (dC (.int 8)) (aNil))) (gName 7) bodyL
theorem mid_small {n : Nat} (h : n ≤ 1000000) : mid (n : Int) = true := mid_of (by omega)
theorem letters_run (h : StepOk 8 enc step wrong s0 .non A f1 f2 c1 c2 all) (hf : clos n1 = some f1) {vis wt : List σ} {s : σ} (hs : Rc 8 step s0 s) (hw : wt.length ≤ 50000) (nd : vis.Nodup) (rc : ∀ t ∈ vis, Rc 8 step s0 t) :
    ∃ vis2 wt2 u6' u7' u8', (sFor (iRange1 (aCons (dC (.int 3)) (aNil))) (gName 6) bodyB) (envR A enc n1 n2 c1 c2 v0 s u6 u7 u8) (hp2 A E enc vis wt) = .nx (envR A enc n1 n2 c1 c2 v0 s u6' u7' u8') (hp2 A E enc vis2 wt2) ∧ Part 8 step s0 vis wt vis2 wt2 s fun x y => x < 3 ∧ y < 8 := by
  obtain ⟨S', G', e, vis2, wt2, u6', u7', u8', rfl, rfl, p2⟩ := forL_invC (chk := []) (g := gName 6) (b := bodyB) (fun j S G => ∃ vis2 wt2 u6' u7' u8', S = envR A enc n1 n2 c1 c2 v0 s u6' u7' u8' ∧ G = hp2 A E enc vis2 wt2 ∧ Part 8 step s0 vis wt vis2 wt2 s fun x y => x < j ∧ y < 8) (fun _ _ _ _ => rfl) (upTo 0 3) 0 (envR A enc n1 n2 c1 c2 v0 s u6 u7 u8) (hp2 A E enc vis wt)
    ⟨vis, wt, u6, u7, u8, rfl, rfl, ⟨[], by simp, by simp⟩, nd, rc, fun x y t hd ht => absurd hd.1 (by omega)⟩ (by
    rintro j S G x hx _ ⟨vis2, wt2, u6', u7', u8', rfl, rfl, p2⟩
    obtain ⟨rfl, hj⟩ := upTo_get hx
    obtain ⟨vis3, wt3, u7'', u8'', e3, p3⟩ := bits_run (E := E) (n2 := n2) (v0 := v0) (u7 := u7') (u8 := u8') h hf hs (l := j) (by omega) hw p2
    refine ⟨envR A enc n1 n2 c1 c2 v0 s (some (.int j)) u7' u8', hp2 A E enc vis2 wt2, _, _, by simp [envR], ?_, vis3, wt3, some (.int j), u7'', u8'', rfl, rfl, p3⟩
    have hm8 : mid 8 = true := mid_small (n := 8) (by decide)
    simp only [bodyB, sFor_ap, iRange1_ap, aCons_ap, dC_ap, R.bind_ok, aNil_ap, rangeOf1, hm8, if_true, ofP_some, R.st_ok]
    exact e3)
  refine ⟨vis2, wt2, u6', u7', u8', ?_, p2⟩
  have hm3 : mid 3 = true := mid_small (n := 3) (by decide)
  simp only [sFor_ap, iRange1_ap, aCons_ap, dC_ap, R.bind_ok, aNil_ap, rangeOf1, hm3, if_true, ofP_some, R.st_ok]
  exact e
abbrev bodyW : DS := dSeq (sAsg (dM .lst mPop (dVar 4) (aNil)) (gName 5)) (
  dSeq (sIf (tV (dCallF 2 clos (aCons (dVar 5) (aNil)))) (dRet (dC (.bl true))) (dNext)) (
  sFor (iRange1 (aCons (dC (.int 3)) (aNil))) (gName 6) bodyB))
/-- the search to its end -/
theorem while_run (h : StepOk 8 enc step wrong s0 .non A f1 f2 c1 c2 all) (hf1 : clos n1 = some f1) (hf2 : clos n2 = some f2) : ∀ (k fuel : Nat) (vis wt : List σ) (u5 u6 u7 u8 : Option VV), Inv 8 step wrong s0 vis wt → 50000 + wt.length ≤ k + vis.length → k < fuel →
    (∃ (E' : Hv) (s : σ), whileN (tL (dVar 4)) bodyW fuel [v0, some (.clo n1 c1), some (.clo n2 c2), some (.ref A.length), some (.ref (A.length + 1)), u5, u6, u7, u8] (hp2 A E enc vis wt) = .rt (.bl true) (A ++ E') ∧ Rc 8 step s0 s ∧ wrong s = true) ∨
    (∃ (S : Env) (E' : Hv), whileN (tL (dVar 4)) bodyW fuel [v0, some (.clo n1 c1), some (.clo n2 c2), some (.ref A.length), some (.ref (A.length + 1)), u5, u6, u7, u8] (hp2 A E enc vis wt) = .nx S (A ++ E') ∧ ∀ s, Rc 8 step s0 s → wrong s = false)
  | k, 0, _, _, _, _, _, _, _, _, hk => absurd hk (Nat.not_lt_zero _)
  | k, fuel + 1, vis, wt, u5, u6, u7, u8, hI, hm, hk => by
    have hv := h.len hI.nd hI.rc
    have hwl : wt.length ≤ 50000 := Nat.le_trans (nodup_le hI.nw fun t ht => hI.sub t ht) hv
    have g1 := get_1 A E (.nset A.length (vis.map fun s => .tup (enc s))) (.lst (wt.map fun s => .tup (enc s)))
    by_cases hw0 : wt = []
    · subst hw0
      right
      refine ⟨[v0, some (.clo n1 c1), some (.clo n2 c2), some (.ref A.length), some (.ref (A.length + 1)), u5, u6, u7, u8], .nset A.length (vis.map fun s => .tup (enc s)) :: .lst (([] : List σ).map fun s => .tup (enc s)) :: E, ?_, hI.none⟩
      have tr : truL (hp2 A E enc vis []) (.ref (A.length + 1)) = some false := by simp only [truL, asListR, hp2, get_1]; rfl
      rw [whileN]
      simp only [tL_ap, dVar_ap, List.getElem?_cons_succ, List.getElem?_cons_zero, R.bind_ok, tr, ofP_some, R.st_ok, Bool.false_eq_true, if_false]
    · obtain ⟨wt1, s, rfl⟩ : ∃ wt1 s, wt = wt1 ++ [s] := ⟨wt.dropLast, wt.getLast hw0, (List.dropLast_concat_getLast hw0).symm⟩
      have hs : Rc 8 step s0 s := hI.rc s (hI.sub s (by simp))
      have tr : truL (hp2 A E enc vis (wt1 ++ [s])) (.ref (A.length + 1)) = some true := by
        simp only [truL, asListR, hp2, get_1]; simp
      have pop : mPop (.ref (A.length + 1)) [] (hp2 A E enc vis (wt1 ++ [s])) = some (.tup (enc s), hp2 A E enc vis wt1) := by
        simp only [mPop, hp2, get_1]
        simp [set_1]
      have isr : isRt .lst (hp2 A E enc vis (wt1 ++ [s])) (.ref (A.length + 1)) = true := by simp only [isRt, hp2, get_1]
      have wr := h.wr s (.nset A.length (vis.map fun s => .tup (enc s)) :: .lst (wt1.map fun s => .tup (enc s)) :: E) hs
      have first : ∀ B : DS, (dSeq (sAsg (dM .lst mPop (dVar 4) (aNil)) (gName 5)) B) [v0, some (.clo n1 c1), some (.clo n2 c2), some (.ref A.length), some (.ref (A.length + 1)), u5, u6, u7, u8] (hp2 A E enc vis (wt1 ++ [s])) = B (envR A enc n1 n2 c1 c2 v0 s u6 u7 u8) (hp2 A E enc vis wt1) := fun B => by
        rw [dSeq_ap, sAsg_ap, dM_ap]
        simp only [dVar_ap, List.getElem?_cons_succ, List.getElem?_cons_zero, R.bind_ok, isr, if_true, aNil_ap, pop, ofO_some, R.st_ok, gName_ap, gRun_nx, thn_nx, List.set_cons_succ, List.set_cons_zero]
      cases hws : wrong s with
      | true =>
        left
        rw [hws] at wr
        refine ⟨.nset A.length (vis.map fun s => .tup (enc s)) :: .lst (wt1.map fun s => .tup (enc s)) :: E, s, ?_, hs, hws⟩
        rw [whileN]
        simp only [tL_ap, dVar_ap, List.getElem?_cons_succ, List.getElem?_cons_zero, R.bind_ok, tr, ofP_some, R.st_ok, if_true, bodyW, first]
        simp [hf2, wr, envR, hp2]
      | false =>
        rw [hws] at wr
        obtain ⟨vis2, wt2, u6', u7', u8', e, p⟩ := letters_run (E := E) (n2 := n2) (c2 := c2) (v0 := v0) (u6 := u6) (u7 := u7) (u8 := u8) h hf1 hs (vis := vis) (wt := wt1) (by simp at hwl; omega) hI.nd hI.rc
        have hI2 := hI.next hws p
        obtain ⟨nw, q1, q2⟩ := p.ex
        have run : whileN (tL (dVar 4)) bodyW (fuel + 1) [v0, some (.clo n1 c1), some (.clo n2 c2), some (.ref A.length), some (.ref (A.length + 1)), u5, u6, u7, u8] (hp2 A E enc vis (wt1 ++ [s])) = whileN (tL (dVar 4)) bodyW fuel (envR A enc n1 n2 c1 c2 v0 s u6' u7' u8') (hp2 A E enc vis2 wt2) := by
          rw [whileN]
          simp only [tL_ap, dVar_ap, List.getElem?_cons_succ, List.getElem?_cons_zero, R.bind_ok, tr, ofP_some, R.st_ok, if_true]
          have : bodyW [v0, some (.clo n1 c1), some (.clo n2 c2), some (.ref A.length), some (.ref (A.length + 1)), u5, u6, u7, u8] (hp2 A E enc vis (wt1 ++ [s])) = .nx (envR A enc n1 n2 c1 c2 v0 s u6' u7' u8') (hp2 A E enc vis2 wt2) := by
            unfold bodyW
            rw [first, dSeq_ap]
            have : (sIf (tV (dCallF 2 clos (aCons (dVar 5) (aNil)))) (dRet (dC (.bl true))) (dNext)) (envR A enc n1 n2 c1 c2 v0 s u6 u7 u8) (hp2 A E enc vis wt1) = .nx (envR A enc n1 n2 c1 c2 v0 s u6 u7 u8) (hp2 A E enc vis wt1) := by
              simp [hf2, wr, envR, hp2]
            rw [this, thn_nx]
            exact e
          rw [this]
        rw [run]
        have hlen : (wt1 ++ [s]).length = wt1.length + 1 := by simp
        rw [hlen] at hm
        have l1 : vis2.length = vis.length + nw.length := by rw [q1, List.length_append]
        have l2 : wt2.length = wt1.length + nw.length := by rw [q2, List.length_append]
        exact while_run h hf1 hf2 (k - 1) fuel vis2 wt2 _ _ _ _ hI2 (by omega) (by omega)
theorem is_reached_run (h : StepOk 8 enc step wrong s0 .non A f1 f2 c1 c2 all) (hf1 : clos n1 = some f1) (hf2 : clos n2 = some f2) :
    ∃ (b : Bool) (E' : Hv), b_is_reached [some (.tup (enc s0)), some (.clo n1 c1), some (.clo n2 c2), none, none, none, none, none, none] A = .rt (.bl b) (A ++ E') ∧ (b = true ↔ ∃ s, Rc 8 step s0 s ∧ wrong s = true) := by
  obtain ⟨k, hk, hd⟩ := h.ok.key s0
  have d1 : dNs1 (dVar 0) [some (.tup (enc s0)), some (.clo n1 c1), some (.clo n2 c2), none, none, none, none, none, none] A = .ok (.ref A.length) (A ++ [.nset A.length [.tup (enc s0)]]) := by
    unfold dNs1
    simp [hk, hd]
  have first : (sAsg (dTup (aCons (dNs1 (dVar 0)) (aCons (dLst (aCons (dVar 0) (aNil))) (aNil)))) (gTup [gName 3, gName 4])) [some (.tup (enc s0)), some (.clo n1 c1), some (.clo n2 c2), none, none, none, none, none, none] A = .nx [some (.tup (enc s0)), some (.clo n1 c1), some (.clo n2 c2), some (.ref A.length), some (.ref (A.length + 1)), none, none, none, none] (hp2 A [] enc [s0] [s0]) := by
    simp [d1, hp2]
  have hb : b_is_reached = dSeq (sAsg (dTup (aCons (dNs1 (dVar 0)) (aCons (dLst (aCons (dVar 0) (aNil))) (aNil)))) (gTup [gName 3, gName 4])) (dSeq (whileN (tL (dVar 4)) bodyW 1000000000) (dRet (dC (.bl false)))) := rfl
  rw [hb, dSeq_ap, first, thn_nx, dSeq_ap]
  rcases while_run (E := []) (v0 := some (.tup (enc s0))) h hf1 hf2 50000 1000000000 [s0] [s0] none none none none .init (by simp) (by decide) with ⟨E', s, e, hs, hw⟩ | ⟨S, E', e, hn⟩
  · rw [e]
    exact ⟨true, E', rfl, ⟨fun _ => ⟨s, hs, hw⟩, fun _ => rfl⟩⟩
  · rw [e]
    refine ⟨false, E', by simp, fun z => (Bool.false_ne_true z).elim, fun z => ?_⟩
    obtain ⟨s, hs, hw⟩ := z
    rw [hn s hs] at hw
    cases hw
theorem reached_eq (h : ∀ B : Hv, (B = A ∨ closedL 0 [.tup (enc s0), .clo n1 c1, .clo n2 c2] = true) → StepOk 8 enc step wrong s0 .non B f1 f2 c1 c2 all) (hf1 : clos n1 = some f1) (hf2 : clos n2 = some f2) :
    ∃ b : Bool, f_is_reached [.tup (enc s0), .clo n1 c1, .clo n2 c2] A = .ok (.bl b) A ∧ (b = true ↔ ∃ s, Rc 8 step s0 s ∧ wrong s = true) := by
  obtain ⟨b, E', e, hb⟩ := is_reached_run (h A (.inl rfl)) hf1 hf2
  refine ⟨b, dDef_bl rfl fun B hB => ?_, hb⟩
  obtain ⟨b', E'', e', hb'⟩ := is_reached_run (h B hB) hf1 hf2
  have : b' = b := by
    have := hb'.trans hb.symm
    cases b <;> cases b' <;> simp_all
  exact ⟨E'', by rw [← this]; exact e'⟩
end
end DL
end S_Ch2
section S_Ch3
set_option linter.all false
set_option maxRecDepth 100000
set_option maxHeartbeats 4000000
/-! Ch3: _law_reaches tells what is reached. Plain Lean. -/
namespace DL
mutual
theorem toPD_norm (G : Hv) : ∀ (n : Nat) (v k : VV), normV v = some k → depV k < n → ∃ d, toPD G n v = some d
  | 0, _, _, _, h => absurd h (Nat.not_lt_zero _)
  | n + 1, .non, _, _, _ => ⟨_, rfl⟩
  | n + 1, .bl _, _, _, _ => ⟨_, rfl⟩
  | n + 1, .int _, _, _, _ => ⟨_, rfl⟩
  | n + 1, .str _, _, _, _ => ⟨_, rfl⟩
  | n + 1, .tup xs, k, h, hd => by
    rw [normV] at h
    cases hx : normL xs with
    | none => rw [hx] at h; cases h
    | some ys =>
      rw [hx] at h
      cases h
      rw [depV] at hd
      obtain ⟨ds, e⟩ := toPD_normL G n xs ys hx (by omega)
      exact ⟨.tup ds, by rw [toPD_tup, e]; rfl⟩
  | n + 1, .ref _, _, h, _ => by simp [normV] at h
  | n + 1, .exc _ _, _, h, _ => by simp [normV] at h
  | n + 1, .clo _ _, _, h, _ => by simp [normV] at h
  | n + 1, .cls _, _, h, _ => by simp [normV] at h
theorem toPD_normL (G : Hv) : ∀ (n : Nat) (xs ys : List VV), normL xs = some ys → depL ys < n → ∃ ds, mapO (toPD G n) xs = some ds
  | n, [], _, _, _ => ⟨[], rfl⟩
  | n, x :: xs, ys, h, hd => by
    rw [normL] at h
    cases hx : normV x with
    | none => rw [hx] at h; cases h
    | some y =>
      rw [hx] at h
      simp only at h
      cases hxs : normL xs with
      | none => rw [hxs] at h; cases h
      | some zs =>
        rw [hxs] at h
        cases h
        rw [depL] at hd
        obtain ⟨d, e1⟩ := toPD_norm G n x y hx (by omega)
        obtain ⟨ds, e2⟩ := toPD_normL G n xs zs hxs (by omega)
        exact ⟨d :: ds, by rw [mapO_cons, e1, e2]⟩
end
section
variable {σ : Type} [DecidableEq σ] {enc : σ → List VV} {step : σ → Nat → Nat → Option σ} {wrong : σ → Bool} {s0 : σ} {A : Hv} {n1 n2 : Nat} {c1 c2 : List VV} {f1 f2 : Clo} {all : List σ} {m : Nat}
theorem states_data (h : EncOk enc) (G : Hv) : ∀ wt : List σ, ∃ ds, mapO (toPD G 11) (wt.map fun s => .tup (enc s)) = some ds ∧ ds.length = wt.length
  | [] => ⟨[], rfl, rfl⟩
  | s :: wt => by
    obtain ⟨k, hk, hd⟩ := h.key s
    obtain ⟨d, e1⟩ := toPD_norm G 11 _ k hk (by omega)
    obtain ⟨ds, e2, l⟩ := states_data h G wt
    exact ⟨d :: ds, by rw [List.map_cons, mapO_cons, e1, e2], by simp [l]⟩
/-- waiting == [] -/
theorem eq_nil (h : EncOk enc) {G : Hv} {p q : Nat} {wt : List σ} (hp : G[p]? = some (.lst (wt.map fun s => .tup (enc s)))) (hq : G[q]? = some (.lst [])) : cEq G (.ref p) (.ref q) = some wt.isEmpty := by
  obtain ⟨ds, e, l⟩ := states_data h G wt
  have e1 : toPD G DEPTH (.ref p) = some (.lst ds) := by
    rw [DEPTH_eq, toPD_ref, hp]
    simp only [e]
    rfl
  have e2 : toPD G DEPTH (.ref q) = some (.lst []) := by
    rw [DEPTH_eq, toPD_ref, hq]
    rfl
  rw [cEq_ap]
  unfold oEq
  rw [e1, e2]
  cases wt with
  | nil =>
    cases ds with
    | nil => simp
    | cons _ _ => simp at l
  | cons _ _ =>
    cases ds with
    | nil => simp at l
    | cons _ _ => simp
variable {E : Hv} {v0 : Option VV}
abbrev envL (A : Hv) (enc : σ → List VV) (n1 n2 : Nat) (c1 c2 : List VV) (v0 : Option VV) (m : Nat) (u6 : Option VV) (s : σ) (u8 u9 : Option VV) : Env := [v0, some (.int (m : Nat)), some (.clo n1 c1), some (.clo n2 c2), some (.ref A.length), some (.ref (A.length + 1)), u6, some (.tup (enc s)), u8, u9]
abbrev bodyM : DS := dSeq (sAsg (dCallF 2 clos (aCons (dVar 7) (aCons (dBin oFdiv (dVar 8) (dVar 1)) (aCons (dBin oMod (dB bInt (aCons (dVar 8) (aNil))) (dVar 1)) (aNil))))) (gName 9)) (
  sIf (tAnd (tV (dCmp cNeT0 (dVar 9) (dTup aNil))) (tV (dCmp cNinN (dVar 9) (dVar 4)))) (dSeq (sAsg (dC (.bl true)) (gNs (dVar 4) (dVar 9))) (
  dExpr (dM .lst mAppend (dVar 5) (aCons (dVar 9) (aNil))))) (dNext))
@[simp] theorem cNeT0_nil' (G : Hv) (xs : List VV) : cNeT0 G (.tup xs) (.tup []) = some (!xs.isEmpty) := rfl
theorem mark_run (h : StepOk m enc step wrong s0 (.tup []) A f1 f2 c1 c2 all) (he : ∀ s, (enc s).isEmpty = false) (hf : clos n1 = some f1) (hm : 0 < m) (hm2 : m < 1000) {vis wt vis' wt' : List σ} {s : σ} {D D' : Nat → Nat → Prop} (hs : Rc m step s0 s) (p : Part m step s0 vis wt vis' wt' s D) {j : Nat} (hj : j < 3 * m) (hw : wt'.length ≤ 100000)
    (hD : ∀ x y, D' x y → D x y ∨ (x = j / m ∧ y = j % m)) {u6 u9 : Option VV} : ∃ vis2 wt2 u, bodyM (envL A enc n1 n2 c1 c2 v0 m u6 s (some (.int (j : Nat))) u9) (hp2 A E enc vis' wt') = .nx (envL A enc n1 n2 c1 c2 v0 m u6 s (some (.int (j : Nat))) u) (hp2 A E enc vis2 wt2) ∧ Part m step s0 vis wt vis2 wt2 s D' := by
  have hl : j / m < 3 := (Nat.div_lt_iff_lt_mul hm).mpr hj
  have hb : j % m < m := Nat.mod_lt _ hm
  have st := h.st s (j / m) (j % m) (.nset A.length (vis'.map fun s => .tup (enc s)) :: .lst (wt'.map fun s => .tup (enc s)) :: E) hs hl hb
  have hlen := h.len p.nd p.rc
  have hm' : (0 : Int) < m := by omega
  have hm2' : (m : Int) < 1073741824 := by omega
  have args : ∀ G : Hv, (aCons (dVar 7) (aCons (dBin oFdiv (dVar 8) (dVar 1)) (aCons (dBin oMod (dB bInt (aCons (dVar 8) (aNil))) (dVar 1)) (aNil)))) (envL A enc n1 n2 c1 c2 v0 m u6 s (some (.int (j : Nat))) u9) G = .ok [.tup (enc s), .int ((j / m : Nat) : Int), .int ((j % m : Nat) : Int)] G := fun G => by
    simp [envL, hm', hm2', hm, bInt]
  have call : ∀ G : Hv, (dCallF 2 clos (aCons (dVar 7) (aCons (dBin oFdiv (dVar 8) (dVar 1)) (aCons (dBin oMod (dB bInt (aCons (dVar 8) (aNil))) (dVar 1)) (aNil))))) (envL A enc n1 n2 c1 c2 v0 m u6 s (some (.int (j : Nat))) u9) G = f1 c1 [.tup (enc s), .int ((j / m : Nat) : Int), .int ((j % m : Nat) : Int)] G := fun G => by
    rw [dCallF_ap]
    simp only [envL, List.getElem?_cons_succ, List.getElem?_cons_zero, hf]
    rw [args G, R.bind_ok]
  have first : ∀ B : DS, (dSeq (sAsg (dCallF 2 clos (aCons (dVar 7) (aCons (dBin oFdiv (dVar 8) (dVar 1)) (aCons (dBin oMod (dB bInt (aCons (dVar 8) (aNil))) (dVar 1)) (aNil))))) (gName 9)) B) (envL A enc n1 n2 c1 c2 v0 m u6 s (some (.int (j : Nat))) u9) (hp2 A E enc vis' wt') = B (envL A enc n1 n2 c1 c2 v0 m u6 s (some (.int (j : Nat))) (some (encR enc (.tup []) (step s (j / m) (j % m))))) (hp2 A E enc vis' wt') := fun B => by
    rw [dSeq_ap, sAsg_ap, call, st, R.st_ok, gName_ap, gRun_nx, thn_nx]
    simp only [envL, List.set_cons_succ, List.set_cons_zero]
  unfold bodyM
  rw [first]
  cases hq : step s (j / m) (j % m) with
  | none =>
    refine ⟨vis', wt', some (.tup []), ?_, p.more hD hs hl hb fun t ht => by rw [hq] at ht; cases ht⟩
    simp [envL, encR]
  | some t =>
    by_cases ht : t ∈ vis'
    · refine ⟨vis', wt', some (.tup (enc t)), ?_, p.more hD hs hl hb fun u hu => by rw [hq] at hu; cases hu; exact ht⟩
      have ni := inN_eq h.ok (get_0 A E (.nset A.length (vis'.map fun s => .tup (enc s))) (.lst (wt'.map fun s => .tup (enc s)))) t
      simp [ht] at ni
      simp [envL, hp2, encR, ni, he]
    · refine ⟨vis' ++ [t], wt' ++ [t], some (.tup (enc t)), ?_, p.push hD hs hl hb hq ht⟩
      have ni := inN_eq h.ok (get_0 A E (.nset A.length (vis'.map fun s => .tup (enc s))) (.lst (wt'.map fun s => .tup (enc s)))) t
      have pr := push_run (E := E) h.ok (vis := vis') (wt := wt') (t := t) (S := envL A enc n1 n2 c1 c2 v0 m u6 s (some (.int (j : Nat))) (some (.tup (enc t)))) (iv := 9) (is := 4) (iw := 5) rfl rfl rfl ht (by omega) hw
      rw [decide_eq_false ht] at ni
      have cond : (tAnd (tV (dCmp cNeT0 (dVar 9) (dTup aNil))) (tV (dCmp cNinN (dVar 9) (dVar 4)))) (envL A enc n1 n2 c1 c2 v0 m u6 s (some (.int (j : Nat))) (some (.tup (enc t)))) (hp2 A E enc vis' wt') = .ok true (hp2 A E enc vis' wt') := by
        simp at ni
        simp [envL, hp2, ni, he]
      rw [sIf_ap]
      show (((tAnd (tV (dCmp cNeT0 (dVar 9) (dTup aNil))) (tV (dCmp cNinN (dVar 9) (dVar 4)))) (envL A enc n1 n2 c1 c2 v0 m u6 s (some (.int (j : Nat))) (some (.tup (enc t)))) (hp2 A E enc vis' wt')).st _ _) = _
      rw [cond, R.st_ok, if_pos rfl]
      exact pr
theorem marks_run (h : StepOk m enc step wrong s0 (.tup []) A f1 f2 c1 c2 all) (he : ∀ s, (enc s).isEmpty = false) (hf : clos n1 = some f1) (hm : 0 < m) (hm2 : m < 1000) {vis wt : List σ} {s : σ} (hs : Rc m step s0 s) (hw : wt.length ≤ 50000) (nd : vis.Nodup) (rc : ∀ t ∈ vis, Rc m step s0 t) {u6 u8 u9 : Option VV} :
    ∃ vis2 wt2 u8' u9', (sFor (iRange1 (aCons (dBin oMul (dC (.int 3)) (dVar 1)) (aNil))) (gName 8) bodyM) (envL A enc n1 n2 c1 c2 v0 m u6 s u8 u9) (hp2 A E enc vis wt) = .nx (envL A enc n1 n2 c1 c2 v0 m u6 s u8' u9') (hp2 A E enc vis2 wt2) ∧ Part m step s0 vis wt vis2 wt2 s fun x y => x < 3 ∧ y < m := by
  obtain ⟨S', G', e, vis2, wt2, u8', u9', rfl, rfl, p2⟩ := forL_invC (chk := []) (g := gName 8) (b := bodyM) (fun j S G => ∃ vis2 wt2 u8' u9', S = envL A enc n1 n2 c1 c2 v0 m u6 s u8' u9' ∧ G = hp2 A E enc vis2 wt2 ∧ Part m step s0 vis wt vis2 wt2 s fun x y => y < m ∧ x * m + y < j) (fun _ _ _ _ => rfl) (upTo 0 (3 * m)) 0 (envL A enc n1 n2 c1 c2 v0 m u6 s u8 u9) (hp2 A E enc vis wt)
    ⟨vis, wt, u8, u9, rfl, rfl, ⟨[], by simp, by simp⟩, nd, rc, fun x y t hd ht => absurd hd.2 (by omega)⟩ (by
    rintro j S G x hx _ ⟨vis2, wt2, u8', u9', rfl, rfl, p2⟩
    obtain ⟨rfl, hj⟩ := upTo_get hx
    obtain ⟨vis3, wt3, u, e3, p3⟩ := mark_run (E := E) (n2 := n2) (v0 := v0) (u6 := u6) (u9 := u9') h he hf hm hm2 hs p2 (D' := fun x y => y < m ∧ x * m + y < j + 1) (j := j) (by omega) (p2.few h hw) (fun x y hd => by
      by_cases q : x * m + y = j
      · right
        rw [← q]
        constructor
        · rw [Nat.add_comm, Nat.add_mul_div_right _ _ hm, Nat.div_eq_of_lt hd.1, Nat.zero_add]
        · rw [Nat.add_comm, Nat.add_mul_mod_self_right, Nat.mod_eq_of_lt hd.1]
      · exact .inl ⟨hd.1, by omega⟩)
    refine ⟨envL A enc n1 n2 c1 c2 v0 m u6 s (some (.int j)) u9', hp2 A E enc vis2 wt2, _, _, by simp [envL], ?_, vis3, wt3, some (.int j), u, rfl, rfl, p3⟩
    exact e3)
  refine ⟨vis2, wt2, u8', u9', ?_, p2.ex, p2.nd, p2.rc, fun x y t hd ht => p2.got x y t ⟨hd.2, ?_⟩ ht⟩
  · have mo : MulOk 3 m := mulOkN (by decide) (by omega)
    have hmm : mid ((3 : Int) * m) = true := mid_of (by omega)
    have ht : ((3 : Int) * m).toNat = 3 * m := by omega
    simp only [sFor_ap, iRange1_ap, aCons_ap, dBin_ap, dC_ap, dVar_ap, envL, List.getElem?_cons_succ, List.getElem?_cons_zero, R.bind_ok, oMul_int, mo, if_true, ofO_some, aNil_ap, rangeOf1, hmm, ofP_some, R.st_ok, ht]
    exact e
  · rw [upTo_len]
    have : x * m ≤ 2 * m := Nat.mul_le_mul_right _ (by omega)
    omega
abbrev restT2 : DS := dSeq (sIf (tV (dCallF 3 clos (aCons (dVar 7) (aNil)))) (dRet (dC (.bl true))) (dNext)) (
  sFor (iRange1 (aCons (dBin oMul (dC (.int 3)) (dVar 1)) (aNil))) (gName 8) bodyM)
abbrev restT : DS := dSeq (sAsg (dM .lst mPop (dVar 5) (aNil)) (gName 7)) restT2
abbrev bodyT : DS := dSeq (sIf (tV (dCmp cEq (dVar 5) (dLst (aNil)))) (dRet (dC (.bl false))) (dNext)) restT
theorem turns_run (h : StepOk m enc step wrong s0 (.tup []) A f1 f2 c1 c2 all) (he : ∀ s, (enc s).isEmpty = false) (hf1 : clos n1 = some f1) (hf2 : clos n2 = some f2) (hm : 0 < m) (hm2 : m < 1000) : ∀ (xs : List VV) (k : Nat) (E : Hv) (vis wt : List σ) (u6 u7 u8 u9 : Option VV), Inv m step wrong s0 vis wt → 50000 + wt.length ≤ k + vis.length → k < xs.length →
    ∃ (b : Bool) (E' : Hv), forL [] (gName 6) bodyT xs [v0, some (.int (m : Nat)), some (.clo n1 c1), some (.clo n2 c2), some (.ref A.length), some (.ref (A.length + 1)), u6, u7, u8, u9] (hp2 A E enc vis wt) = .rt (.bl b) (A ++ E') ∧ (b = true ↔ ∃ s, Rc m step s0 s ∧ wrong s = true)
  | [], k, _, _, _, _, _, _, _, _, _, hk => absurd hk (Nat.not_lt_zero _)
  | x :: xs, k, E, vis, wt, u6, u7, u8, u9, hI, hmu, hk => by
    have hv := h.len hI.nd hI.rc
    have hwl : wt.length ≤ 50000 := Nat.le_trans (nodup_le hI.nw fun t ht => hI.sub t ht) hv
    have hG : hp2 A E enc vis wt ++ [.lst []] = hp2 A (E ++ [.lst []]) enc vis wt := by simp [hp2]
    have hlast : (hp2 A (E ++ [.lst []]) enc vis wt)[(hp2 A E enc vis wt).length]? = some (.lst []) := by rw [← hG]; simp
    have eqn := eq_nil h.ok (p := A.length + 1) (wt := wt) (G := hp2 A (E ++ [.lst []]) enc vis wt) (get_1 _ _ _ _) hlast
    have cond : (tV (dCmp cEq (dVar 5) (dLst (aNil)))) [v0, some (.int (m : Nat)), some (.clo n1 c1), some (.clo n2 c2), some (.ref A.length), some (.ref (A.length + 1)), some x, u7, u8, u9] (hp2 A E enc vis wt) = .ok wt.isEmpty (hp2 A (E ++ [.lst []]) enc vis wt) := by
      simp only [tV_ap, dCmp_ap, dVar_ap, List.getElem?_cons_succ, List.getElem?_cons_zero, R.bind_ok, dLst_ap, aNil_ap, List.length_nil, Nat.zero_le, if_true, hG, eqn, Option.map_some, ofP_some, asB_bl]
    have start : bodyT [v0, some (.int (m : Nat)), some (.clo n1 c1), some (.clo n2 c2), some (.ref A.length), some (.ref (A.length + 1)), some x, u7, u8, u9] (hp2 A E enc vis wt) = if wt.isEmpty then .rt (.bl false) (hp2 A (E ++ [.lst []]) enc vis wt) else restT [v0, some (.int (m : Nat)), some (.clo n1 c1), some (.clo n2 c2), some (.ref A.length), some (.ref (A.length + 1)), some x, u7, u8, u9] (hp2 A (E ++ [.lst []]) enc vis wt) := by
      rw [show bodyT = dSeq (sIf (tV (dCmp cEq (dVar 5) (dLst (aNil)))) (dRet (dC (.bl false))) (dNext)) restT from rfl, dSeq_ap, sIf_ap, cond, R.st_ok]
      cases wt.isEmpty <;> simp
    by_cases hw0 : wt = []
    · subst hw0
      refine ⟨false, .nset A.length (vis.map fun s => .tup (enc s)) :: .lst (([] : List σ).map fun s => .tup (enc s)) :: (E ++ [.lst []]), ?_, fun z => (Bool.false_ne_true z).elim, fun z => ?_⟩
      · rw [forL]
        simp only [stays, if_true, gName_ap, gRun_nx, List.set_cons_succ, List.set_cons_zero]
        rw [start]
        rfl
      · obtain ⟨s, hs, hw⟩ := z
        rw [hI.none s hs] at hw
        cases hw
    · obtain ⟨wt1, s, rfl⟩ : ∃ wt1 s, wt = wt1 ++ [s] := ⟨wt.dropLast, wt.getLast hw0, (List.dropLast_concat_getLast hw0).symm⟩
      have hs : Rc m step s0 s := hI.rc s (hI.sub s (by simp))
      have pop : mPop (.ref (A.length + 1)) [] (hp2 A (E ++ [.lst []]) enc vis (wt1 ++ [s])) = some (.tup (enc s), hp2 A (E ++ [.lst []]) enc vis wt1) := by
        simp only [mPop, hp2, get_1]
        simp [set_1]
      have isr : isRt .lst (hp2 A (E ++ [.lst []]) enc vis (wt1 ++ [s])) (.ref (A.length + 1)) = true := by simp only [isRt, hp2, get_1]
      have wr := h.wr s (.nset A.length (vis.map fun s => .tup (enc s)) :: .lst (wt1.map fun s => .tup (enc s)) :: (E ++ [.lst []])) hs
      have first : restT [v0, some (.int (m : Nat)), some (.clo n1 c1), some (.clo n2 c2), some (.ref A.length), some (.ref (A.length + 1)), some x, u7, u8, u9] (hp2 A (E ++ [.lst []]) enc vis (wt1 ++ [s])) = restT2 (envL A enc n1 n2 c1 c2 v0 m (some x) s u8 u9) (hp2 A (E ++ [.lst []]) enc vis wt1) := by
        rw [show restT = dSeq (sAsg (dM .lst mPop (dVar 5) (aNil)) (gName 7)) restT2 from rfl, dSeq_ap, sAsg_ap, dM_ap]
        simp only [dVar_ap, List.getElem?_cons_succ, List.getElem?_cons_zero, R.bind_ok, isr, if_true, aNil_ap, pop, ofO_some, R.st_ok, gName_ap, gRun_nx, thn_nx, List.set_cons_succ, List.set_cons_zero]
      have hne : (wt1 ++ [s]).isEmpty = false := by simp
      cases hws : wrong s with
      | true =>
        rw [hws] at wr
        refine ⟨true, .nset A.length (vis.map fun s => .tup (enc s)) :: .lst (wt1.map fun s => .tup (enc s)) :: (E ++ [.lst []]), ?_, fun _ => ⟨s, hs, hws⟩, fun _ => rfl⟩
        rw [forL]
        simp only [stays, if_true, gName_ap, gRun_nx, List.set_cons_succ, List.set_cons_zero]
        rw [start, hne]
        simp only [Bool.false_eq_true, if_false, first]
        simp [hf2, wr, envL, hp2]
      | false =>
        rw [hws] at wr
        obtain ⟨vis2, wt2, u8', u9', e, p⟩ := marks_run (E := E ++ [.lst []]) (n2 := n2) (c2 := c2) (v0 := v0) (u6 := some x) (u8 := u8) (u9 := u9) h he hf1 hm hm2 hs (vis := vis) (wt := wt1) (by simp at hwl; omega) hI.nd hI.rc
        have hI2 := hI.next hws p
        obtain ⟨nw, q1, q2⟩ := p.ex
        have hlen : (wt1 ++ [s]).length = wt1.length + 1 := by simp
        rw [hlen] at hmu
        have l1 : vis2.length = vis.length + nw.length := by rw [q1, List.length_append]
        have l2 : wt2.length = wt1.length + nw.length := by rw [q2, List.length_append]
        have hk' : k < xs.length + 1 := by simpa using hk
        obtain ⟨b, E', e2, hb⟩ := turns_run h he hf1 hf2 hm hm2 xs (k - 1) (E ++ [.lst []]) vis2 wt2 (some x) (some (.tup (enc s))) u8' u9' hI2 (by omega) (by omega)
        refine ⟨b, E', ?_, hb⟩
        rw [forL]
        simp only [stays, if_true, gName_ap, gRun_nx, List.set_cons_succ, List.set_cons_zero]
        have this1 : bodyT [v0, some (.int (m : Nat)), some (.clo n1 c1), some (.clo n2 c2), some (.ref A.length), some (.ref (A.length + 1)), some x, u7, u8, u9] (hp2 A E enc vis (wt1 ++ [s])) = .nx (envL A enc n1 n2 c1 c2 v0 m (some x) s u8' u9') (hp2 A (E ++ [.lst []]) enc vis2 wt2) := by
          rw [start, hne]
          simp only [Bool.false_eq_true, if_false, first]
          rw [show restT2 = dSeq (sIf (tV (dCallF 3 clos (aCons (dVar 7) (aNil)))) (dRet (dC (.bl true))) (dNext)) (sFor (iRange1 (aCons (dBin oMul (dC (.int 3)) (dVar 1)) (aNil))) (gName 8) bodyM) from rfl, dSeq_ap]
          have : (sIf (tV (dCallF 3 clos (aCons (dVar 7) (aNil)))) (dRet (dC (.bl true))) (dNext)) (envL A enc n1 n2 c1 c2 v0 m (some x) s u8 u9) (hp2 A (E ++ [.lst []]) enc vis wt1) = .nx (envL A enc n1 n2 c1 c2 v0 m (some x) s u8 u9) (hp2 A (E ++ [.lst []]) enc vis wt1) := by
            simp [hf2, wr, envL, hp2]
          rw [this, thn_nx]
          exact e
        rw [this1]
        exact e2
theorem reaches_run (h : StepOk m enc step wrong s0 (.tup []) A f1 f2 c1 c2 all) (he : ∀ s, (enc s).isEmpty = false) (hf1 : clos n1 = some f1) (hf2 : clos n2 = some f2) (hm : 0 < m) (hm2 : m < 1000) :
    ∃ (b : Bool) (E' : Hv), b__law_reaches [some (.tup (enc s0)), some (.int (m : Nat)), some (.clo n1 c1), some (.clo n2 c2), none, none, none, none, none, none] A = .rt (.bl b) (A ++ E') ∧ (b = true ↔ ∃ s, Rc m step s0 s ∧ wrong s = true) := by
  obtain ⟨k, hk, hd⟩ := h.ok.key s0
  have d1 : dNs1 (dVar 0) [some (.tup (enc s0)), some (.int (m : Nat)), some (.clo n1 c1), some (.clo n2 c2), none, none, none, none, none, none] A = .ok (.ref A.length) (A ++ [.nset A.length [.tup (enc s0)]]) := by
    unfold dNs1
    simp [hk, hd]
  have first : (sAsg (dTup (aCons (dNs1 (dVar 0)) (aCons (dLst (aCons (dVar 0) (aNil))) (aNil)))) (gTup [gName 4, gName 5])) [some (.tup (enc s0)), some (.int (m : Nat)), some (.clo n1 c1), some (.clo n2 c2), none, none, none, none, none, none] A = .nx [some (.tup (enc s0)), some (.int (m : Nat)), some (.clo n1 c1), some (.clo n2 c2), some (.ref A.length), some (.ref (A.length + 1)), none, none, none, none] (hp2 A [] enc [s0] [s0]) := by
    simp [d1, hp2]
  have hb : b__law_reaches = dSeq (sAsg (dTup (aCons (dNs1 (dVar 0)) (aCons (dLst (aCons (dVar 0) (aNil))) (aNil)))) (gTup [gName 4, gName 5])) (dSeq (sFor (iRange1 (aCons (dC (.int 60000)) (aNil))) (gName 6) bodyT) (dRet (dC (.bl true)))) := rfl
  have it : ∀ S G, (iRange1 (aCons (dC (.int 60000)) (aNil))) S G = .ok (upTo 0 60000, []) G := fun S G => by
    have hmid : mid 60000 = true := mid_small (n := 60000) (by decide)
    simp only [iRange1_ap, aCons_ap, dC_ap, R.bind_ok, aNil_ap, rangeOf1, hmid, if_true, ofP_some]
    rfl
  rw [hb, dSeq_ap, first, thn_nx, dSeq_ap, sFor_ap, it, R.st_ok]
  simp only
  obtain ⟨b, E', e, hb⟩ := turns_run (v0 := some (.tup (enc s0))) h he hf1 hf2 hm hm2 (upTo 0 60000) 50000 [] [s0] [s0] none none none none .init (by simp) (by rw [upTo_len]; decide)
  rw [e]
  exact ⟨b, E', rfl, hb⟩
theorem reaches_eq (h : ∀ B : Hv, (B = A ∨ closedL 0 [.tup (enc s0), .int (m : Nat), .clo n1 c1, .clo n2 c2] = true) → StepOk m enc step wrong s0 (.tup []) B f1 f2 c1 c2 all) (he : ∀ s, (enc s).isEmpty = false) (hf1 : clos n1 = some f1) (hf2 : clos n2 = some f2) (hm : 0 < m) (hm2 : m < 1000) :
    ∃ b : Bool, f__law_reaches [.tup (enc s0), .int (m : Nat), .clo n1 c1, .clo n2 c2] A = .ok (.bl b) A ∧ (b = true ↔ ∃ s, Rc m step s0 s ∧ wrong s = true) := by
  obtain ⟨b, E', e, hb⟩ := reaches_run (h A (.inl rfl)) he hf1 hf2 hm hm2
  refine ⟨b, dDef_bl rfl fun B hB => ?_, hb⟩
  obtain ⟨b', E'', e', hb'⟩ := reaches_run (h B hB) he hf1 hf2 hm hm2
  have : b' = b := by
    have := hb'.trans hb.symm
    cases b <;> cases b' <;> simp_all
  exact ⟨E'', by rw [← this]; exact e'⟩
end
end DL
end S_Ch3
section S_A71
set_option linter.all false
set_option maxRecDepth 100000
set_option maxHeartbeats 4000000
/-! A71: springs. -/
namespace DL
theorem take_spec0 {G : Hv} {p : Nat} {a b d m : Int} (g : Good a b d) (h : G[p]? = some (spr a b d)) (hm : 0 < m) (hm2 : m < 1073741824) :
    ∃ dg b' d', 0 ≤ dg ∧ dg < m ∧ Good b b' d' ∧ f__law_take [.ref p, .int m] G = .ok (.int dg) (G.set p (spr b b' d')) := by
  obtain ⟨g1, g2, g3, g4, g5⟩ := g
  have m1 : MulOk a 47903 := mulOkN (by omega) (by decide)
  have e1 : (0 : Int) ≤ b % 30011 := Int.emod_nonneg _ (by decide)
  have e2 : b % 30011 < 30011 := Int.emod_lt_of_pos _ (by decide)
  have m2 : MulOk b (b % 30011 + 1013) := mulOkN (by omega) (by omega)
  have s1 : ∀ x, (G.set p x)[p]? = some x := fun x => get_set h
  have hl : p < G.length := (List.getElem?_eq_some_iff.mp h).1
  unfold spr at h
  unfold f__law_take dDef
  simp [b__law_take, start, h, oIx, asSeq, asListR, atI, ixN, bInt, m1, m2, s1, List.set_set]
  have hr : (0 : Int) ≤ (a * 47903 + b * (b % 30011 + 1013) + 29) % 2147483563 := Int.emod_nonneg _ (by decide)
  have hr2 : (a * 47903 + b * (b % 30011 + 1013) + 29) % 2147483563 < 2147483563 := Int.emod_lt_of_pos _ (by decide)
  by_cases hd : 0 < d
  · simp [hd, bDivmod, hm, hm2, s1, oIx, asSeq, asListR, atI, ixN, List.set_set]
    refine ⟨_, ?_, ?_, _, _, ?_, gc_set0 (by simp) (closed_spr _ _ _ _)⟩
    · exact Int.emod_nonneg _ (by omega)
    · exact Int.emod_lt_of_pos _ hm
    · exact ⟨by omega, by omega, hr, by omega, Int.ediv_nonneg (by omega) (by omega)⟩
  · simp [hd, hm, s1, oIx, asSeq, asListR, atI, ixN, bInt]
    refine ⟨_, ?_, ?_, _, _, ?_, gc_set0 (by simp) (closed_spr _ _ _ _)⟩
    · exact Int.emod_nonneg _ (by omega)
    · exact Int.emod_lt_of_pos _ hm
    · exact ⟨by omega, by omega, hr, by omega, by omega⟩

theorem take_spec {G : Hv} {p : Nat} {m : Int} (h : HasS G p) (hm : 0 < m) (hm2 : m < 1073741824) :
    ∃ dg G', 0 ≤ dg ∧ dg < m ∧ Nx p G G' ∧ f__law_take [.ref p, .int m] G = .ok (.int dg) G' := by
  obtain ⟨a, b, d, g, e⟩ := h
  obtain ⟨dg, b', d', h1, h2, h3, h4⟩ := take_spec0 g e hm hm2
  exact ⟨dg, _, h1, h2, ⟨_, _, _, h3, rfl⟩, h4⟩
/-- one of a list by the spring -/
theorem take_w {G G1 : Hv} {p : Nat} {m : Int} (hp : p < G.length) (w : Wd p G G1) (hm : 0 < m) (hm2 : m < 1073741824) :
    ∃ dg G2, 0 ≤ dg ∧ dg < m ∧ Nx p G1 G2 ∧ Wd p G G2 ∧ f__law_take [.ref p, .int m] G1 = .ok (.int dg) G2 := by
  obtain ⟨dg, G2, h1, h2, h3, h4⟩ := take_spec (w.has hp) hm hm2
  exact ⟨dg, G2, h1, h2, h3, w.nx hp h3, h4⟩
/-- a list laid, then an item of it by the spring -/
theorem pick_w {G G1 : Hv} {p : Nat} {m : Int} (xs : List VV) (hp : p < G.length) (w : Wd p G G1) (hm : 0 < m) (hm2 : m < 1073741824) (hl : m ≤ xs.length) :
    ∃ dg G2 x, x ∈ xs ∧ Wd p G G2 ∧ f__law_take [.ref p, .int m] (G1 ++ [.lst xs]) = .ok (.int dg) G2 ∧ oIx G2 (.ref G1.length) (.int dg) = some x := by
  obtain ⟨dg, G2, h1, h2, h3, h4, e⟩ := take_w hp (w.more [.lst xs]) hm hm2
  have hg : G2[G1.length]? = some (.lst xs) := by
    rw [h3.get (by have := w.len; omega)]
    simp
  obtain ⟨x, hx, e2⟩ := ix_lit hg h1 (by omega)
  exact ⟨dg, G2, x, hx, h4, e, e2⟩
end DL
end S_A71
section S_C71
set_option linter.all false
set_option maxRecDepth 100000
set_option maxHeartbeats 4000000
/-! C71: the springs of a law; draws behind what was laid. -/
namespace DL
def ab (x : Int) : Int := if x < 0 then -x else x
theorem ab_nat (x : Int) : ab x = (x.natAbs : Int) := by unfold ab; split <;> omega
theorem habs (i : Int) (G : Hv) : bAbs [.int i] G = some (.int (ab i), G) := rfl
theorem Wd.setE {G G1 : Hv} {p i : Nat} {o : VO} (w : Wd p G G1) (hi : G.length ≤ i) : Wd p G (G1.set i o) := by
  obtain ⟨a, b, d, E, g, e⟩ := w
  refine ⟨a, b, d, E.set (i - G.length) o, g, ?_⟩
  rw [e, List.set_append_right _ _ (by simpa using hi)]
  simp
theorem mulOk_big {i j : Int} (hi : i.natAbs.log2 ≤ 2000000) (hj : j.natAbs.log2 ≤ 2000000) : MulOk i j := by
  unfold MulOk
  omega
theorem log_small {i : Int} (hi : i.natAbs < 2 ^ 64) : i.natAbs.log2 ≤ 2000000 := by
  have := log2_lt hi (by decide)
  omega
/-- the cell that is drawn from -/
theorem spring_older {G : Hv} {D : Nat} {ns : List Int} {at0 c0 : Int} (hD : G[D]? = some (.lst (ns.map VV.int))) (hc : c0.natAbs < 2 ^ 40) (u4 : Option VV) :
    ∃ (c : Int) (u : Option VV), forL [(D, .lst (ns.map VV.int))] (gName 3) (sAsg (dBin oMod (dB bInt (aCons (dBin oAdd (dBin oMul (dVar 2) (dC (.int 38699))) (dVar 3)) (aNil))) (dC (.int 2147483549))) (gName 2)) (ns.map VV.int) [some (.ref 0), some (.int at0), some (.int c0), none, u4] G = .nx [some (.ref 0), some (.int at0), some (.int c), u, u4] G ∧ c.natAbs < 2 ^ 40 := by
  obtain ⟨S', G', e, c, u, hS, hG, hc⟩ := forL_invC (chk := [(D, .lst (ns.map VV.int))]) (g := gName 3) (b := sAsg (dBin oMod (dB bInt (aCons (dBin oAdd (dBin oMul (dVar 2) (dC (.int 38699))) (dVar 3)) (aNil))) (dC (.int 2147483549))) (gName 2))
    (fun i S G' => ∃ (c : Int) (u : Option VV), S = [some (.ref 0), some (.int at0), some (.int c), u, u4] ∧ G' = G ∧ c.natAbs < 2 ^ 40) (fun _ _ _ ⟨_, _, _, h, _⟩ => by rw [h]; simp [stays, hD]) (ns.map VV.int) 0 [some (.ref 0), some (.int at0), some (.int c0), none, u4] G ⟨c0, none, rfl, rfl, hc⟩ (by
    rintro j S G' x hx _ ⟨c, u, rfl, rfl, hc⟩
    obtain ⟨n, _, rfl⟩ := List.mem_map.mp (List.mem_of_getElem? hx)
    have bI : ∀ i G, bInt [.int i] G = some (.int i, G) := fun _ _ => rfl
    have mo : MulOk c 38699 := mulOkN (by omega) (by decide)
    refine ⟨[some (.ref 0), some (.int at0), some (.int c), some (.int n), u4], G', [some (.ref 0), some (.int at0), some (.int ((c * 38699 + n) % 2147483549)), some (.int n), u4], G', by simp, by simp [mo, bI], _, _, rfl, rfl, ?_⟩
    have := Int.emod_nonneg (c * 38699 + n) (b := 2147483549) (by decide)
    have := Int.emod_lt_of_pos (c * 38699 + n) (b := 2147483549) (by decide)
    omega)
  subst hS hG
  exact ⟨c, u, e, hc⟩
theorem spring_spec {G : Hv} {ns : List Int} {a : Nat} (h : G[0]? = some (.flst (ns.map VV.int))) (hl : ns.length ≤ 63) (hb : ∀ z ∈ ns, z.natAbs.log2 ≤ 1048576) (ha : a ≤ 12) :
    ∃ E q, f__law_spring [.ref 0, .int a] G = .ok (.ref q) (G ++ E) ∧ G.length ≤ q ∧ HasS (G ++ E) q := by
  have bI : ∀ i G, bInt [.int i] G = some (.int i, G) := fun _ _ => rfl
  have bl : bLen [.ref 0] G = some (.int ns.length, G) := by simp [asListR, h]
  have mo1 : MulOk 104711 a := mulOkN (by decide) (by omega)
  have mo2 : MulOk 31 ns.length := mulOkN (by decide) (by omega)
  have mo3 : MulOk 68917 a := mulOkN (by decide) (by omega)
  have pw : ∀ G, oPow (.int 10) (.int 18) G = some (.int 1000000000000000000, G) := fun _ => rfl
  -- the cell
  have cell : ∃ (c : Int) (u : Option VV) (E : Hv), c.natAbs.log2 ≤ 1048576 ∧ (sIf (tV (dCmp cLt (dVar 1) (dB bLen (aCons (dVar 0) (aNil))))) (sAsg (dIx (dVar 0) (dVar 1)) (gName 2)) (sFor (iSeq (dSl (dVar 0) (oNone) (oSome (dC (.int 5))))) (gName 3) (sAsg (dBin oMod (dB bInt (aCons (dBin oAdd (dBin oMul (dVar 2) (dC (.int 38699))) (dVar 3)) (aNil))) (dC (.int 2147483549))) (gName 2))))
      [some (.ref 0), some (.int a), some (.int (104711 * a + 31 * ns.length)), none, none] G = .nx [some (.ref 0), some (.int a), some (.int c), u, none] (G ++ E) := by
    by_cases hlt : a < ns.length
    · have e1 := List.getElem?_eq_getElem hlt
      have ix : oIx G (.ref 0) (.int (a : Nat)) = some (.int ns[a]) := by
        unfold oIx
        simp only [asSeq, asListR, h, atI, ixN, List.length_map]
        rw [if_pos (by omega), if_pos (by omega)]
        simp [hlt]
      exact ⟨ns[a], none, [], hb _ (List.getElem_mem hlt), by simp [-bLen_ref, bl, hlt, ix]⟩
    · have sl : oSlice (.ref 0) none (some 5) G = some (.ref G.length, G ++ [.lst ((cut ns none (some 5)).map VV.int)]) := by
        unfold oSlice
        simp [asListR, h, newL, cut_map]
      obtain ⟨c, u, e, hc⟩ := spring_older (G := G ++ [.lst ((cut ns none (some 5)).map VV.int)]) (D := G.length) (ns := cut ns none (some 5)) (at0 := a) (c0 := 104711 * a + 31 * ns.length) (by simp) (by omega) none
      refine ⟨c, u, [.lst ((cut ns none (some 5)).map VV.int)], ?_, ?_⟩
      · have := log2_lt (k := 40) hc (by decide)
        omega
      · simp [-bLen_ref, bl, hlt, sl, seqOf]
        exact e
  obtain ⟨c, u, E, hc, e⟩ := cell
  have first : sAsg (dBin oAdd (dBin oMul (dC (.int 104711)) (dVar 1)) (dBin oMul (dC (.int 31)) (dB bLen (aCons (dVar 0) (aNil))))) (gName 2) [some (.ref 0), some (.int a), none, none, none] G = .nx [some (.ref 0), some (.int a), some (.int (104711 * a + 31 * ns.length)), none, none] G := by
    simp [-bLen_ref, bl, mo1, mo2]
  have mc1 : MulOk c 92821 := mulOk_big (by omega) (log_small (by decide))
  have mc2 : MulOk c c := mulOk_big (by omega) (by omega)
  have hE : ∀ d : Int, 0 ≤ d → ∃ a1 b1, Good a1 b1 d ∧ dRet (dLst (aCons (dBin oMod (dB bInt (aCons (dBin oAdd (dBin oMul (dVar 2) (dC (.int 92821))) (dVar 1)) (aNil))) (dC (.int 2147483587))) (aCons (dBin oMod (dB bInt (aCons (dBin oAdd (dBin oAdd (dBin oMul (dVar 2) (dVar 2)) (dBin oMul (dC (.int 68917)) (dVar 1))) (dC (.int 5))) (aNil))) (dC (.int 2147483563))) (aCons (dVar 4) (aNil)))))
      [some (.ref 0), some (.int a), some (.int c), u, some (.int d)] (G ++ E) = .rt (.ref (G ++ E).length) (G ++ E ++ [spr a1 b1 d]) := fun d hd => by
    refine ⟨(c * 92821 + a) % 2147483587, (c * c + 68917 * a + 5) % 2147483563, ⟨Int.emod_nonneg _ (by decide), ?_, Int.emod_nonneg _ (by decide), ?_, hd⟩, ?_⟩
    · have := Int.emod_lt_of_pos (c * 92821 + a) (b := 2147483587) (by decide)
      omega
    · have := Int.emod_lt_of_pos (c * c + 68917 * a + 5) (b := 2147483563) (by decide)
      omega
    · simp [mc1, mc2, mo3, bI, spr]
  have dig : ∃ d : Int, 0 ≤ d ∧ sAsg (dIf (tV (dCmp cGe (dB bAbs (aCons (dVar 2) (aNil))) (dBin oPow (dC (.int 10)) (dC (.int 18))))) (dB bAbs (aCons (dVar 2) (aNil))) (dC (.int 0))) (gName 4) [some (.ref 0), some (.int a), some (.int c), u, none] (G ++ E) = .nx [some (.ref 0), some (.int a), some (.int c), u, some (.int d)] (G ++ E) := by
    by_cases hd : 1000000000000000000 ≤ ab c
    · exact ⟨ab c, by rw [ab_nat]; omega, by simp [habs, pw, hd]⟩
    · exact ⟨0, by omega, by simp [habs, pw, hd]⟩
  obtain ⟨d, hd, e2⟩ := dig
  obtain ⟨a1, b1, hg, e3⟩ := hE d hd
  refine ⟨E ++ [spr a1 b1 d], (G ++ E).length, ?_, by simp, ⟨a1, b1, d, hg, by simp [List.getElem?_append_right]⟩⟩
  unfold f__law_spring
  rw [dDef_ref (k := 2) rfl (by simp)]
  have run : b__law_spring [some (.ref 0), some (.int a), none, none, none] G = .rt (.ref (G ++ E).length) (G ++ E ++ [spr a1 b1 d]) := by
    show (sAsg _ _ _ _).thn _ = _
    rw [first, thn_nx, dSeq_ap, e, thn_nx, dSeq_ap, e2, thn_nx, e3]
  show gcR G (outR (b__law_spring [some (.ref 0), some (.int a), none, none, none] G)) = _
  rw [run]
  unfold gcR
  have : closedV G.length (.ref (G ++ E).length) = false := by simp
  simp only [outR_rt, this, Bool.false_and]
  simp
theorem keep {G1 G2 : Hv} {p i : Nat} {o : VO} (w : Wd p G1 G2) (hi : i ≠ p) (h : G1[i]? = some o) : G2[i]? = some o := by
  rw [w.get hi (List.getElem?_eq_some_iff.mp h).1]; exact h
theorem keepA {G : Hv} {i : Nat} {o : VO} (E : Hv) (h : G[i]? = some o) : (G ++ E)[i]? = some o := by
  rw [List.getElem?_append_left (List.getElem?_eq_some_iff.mp h).1]; exact h
theorem hasA {G : Hv} {p : Nat} (h : HasS G p) (E : Hv) : HasS (G ++ E) p := by
  obtain ⟨a, b, d, g, e⟩ := h
  exact ⟨a, b, d, g, keepA E e⟩
theorem wdA {G1 G2 : Hv} {p : Nat} {E : Hv} (h : HasS G1 p) (n : Nx p (G1 ++ E) G2) : Wd p G1 G2 := (h.wd.more E).nx h.lt n
/-- a draw, behind what was laid -/
theorem take_k {G1 : Hv} {p : Nat} {m : Int} (h : HasS G1 p) (E : Hv) (hm : 0 < m) (hm2 : m < 1073741824) :
    ∃ d G2, 0 ≤ d ∧ d < m ∧ Nx p (G1 ++ E) G2 ∧ Wd p G1 G2 ∧ HasS G2 p ∧ f__law_take [.ref p, .int m] (G1 ++ E) = .ok (.int d) G2 := by
  obtain ⟨d, G2, h1, h2, h3, h4⟩ := take_spec (hasA h E) hm hm2
  have w := wdA h h3
  exact ⟨d, G2, h1, h2, h3, w, w.has h.lt, h4⟩
end DL
end S_C71
section S_P7a
set_option linter.all false
set_option maxRecDepth 1000000
set_option maxHeartbeats 4000000
/-! P7a: layers, their texts and parts; programs. -/
namespace DL
/-! ### layers -/
abbrev tLook : List Nat := [108, 111, 111, 107]
abbrev tAdd : List Nat := [97, 100, 100]
abbrev tClear : List Nat := [99, 108, 101, 97, 114]
abbrev tRow : List Nat := [114, 111, 119]
abbrev tTrue : List Nat := [116, 114, 117, 101]
abbrev tLine : List Nat := [108, 105, 110, 101]
abbrev tFirst : List Nat := [102, 105, 114, 115, 116]
abbrev tLast : List Nat := [108, 97, 115, 116]
abbrev tAtBack : List Nat := [97, 116, 32, 98, 97, 99, 107]
abbrev tAtAhead : List Nat := [97, 116, 32, 97, 104, 101, 97, 100]
abbrev tBack : List Nat := [98, 97, 99, 107]
abbrev tAhead : List Nat := [97, 104, 101, 97, 100]
abbrev tAround : List Nat := [97, 114, 111, 117, 110, 100]
abbrev lay (w s y : List Nat) (n e : Int) (o sp : Bool) : VV := .tup [.str w, .str s, .str y, .int n, .int e, .bl o, .bl sp]
abbrev clearL : VV := lay tClear [] [] 0 1 false false
def laysOf (w : List Nat) (o sp : Bool) : List VV := ([tFirst, tLast].map fun y => lay w tRow y 0 1 o sp) ++ [tRow, tTrue, tLine].flatMap fun s => ([tAtBack, tAtAhead].flatMap fun y => [1, 2, 3].map fun n => lay w s y n 1 o sp) ++ [tBack, tAhead, tAround].flatMap fun y => [0, 1, 2, 3].flatMap fun n => [1, 2, 3].map fun e => lay w s y n e o sp
def allLays : List VV := clearL :: ([tLook, tAdd].flatMap fun w => [true, false].flatMap fun o => [true, false].flatMap fun sp => if w = tAdd ∧ o = false then [] else laysOf w o sp)
def wid : VV → Int
  | .tup [.str w, _, .str y, .int n, .int e, _, _] => if w = tClear then 0 else if y = tFirst ∨ y = tLast then 1 else if n = 0 then e else n
  | _ => 0
theorem mem_lays {w : List Nat} {o sp : Bool} {l : VV} (hw : w = tLook ∨ w = tAdd) (ho : w = tAdd → o = true) (h : l ∈ laysOf w o sp) : l ∈ allLays := by
  refine List.mem_cons_of_mem _ (List.mem_flatMap.mpr ⟨w, by simpa using hw, List.mem_flatMap.mpr ⟨o, by cases o <;> simp, List.mem_flatMap.mpr ⟨sp, by cases sp <;> simp, ?_⟩⟩⟩)
  rw [if_neg]
  · exact h
  · rintro ⟨h1, h2⟩
    rw [ho h1] at h2
    cases h2
abbrev cPart : Nat := 1953653072
abbrev cProgram : Nat := 30787916450984528
def partV : VV → VO
  | .tup [w, s, y, n, e, o, sp] => .ins cPart [(1685221239, w), (435678045043, s), (7954807, y), (125779768604014, n), (521610294885, e), (7239535, o), (435710685299, sp)]
  | _ => .lst []
/-- a layer as it is written -/
def txt : VV → List Nat
  | .tup [.str w, .str s, .str y, .int n, .int e, .bl o, .bl sp] => if w = tClear then w else
    let far : List Nat := if n > 0 then [48 + n.toNat] else [97, 108, 108]
    w ++ [32] ++ s ++ [32] ++ (if y = tFirst ∨ y = tLast then y else if y = tAtBack ∨ y = tAtAhead then [97, 116, 32] ++ far ++ y.drop 2 else y ++ [32] ++ far ++ (if e > 1 then [32, 101, 118, 101, 114, 121, 32, 48 + e.toNat] else []))
      ++ (if o ∧ w = tLook then [32, 111, 119, 110] else []) ++ (if sp then [32, 102, 111, 114, 32, 116, 114, 117, 101] else [])
  | _ => []
def chk (l : VV) : Bool := (match f_part_of [.str (txt l)] [] with
    | .ok (.ref k) Gp => decide (Gp[k]? = some (partV l))
    | _ => false) && !(txt l).contains 10
def isLay : VV → Bool
  | .tup [.str w, .str s, .str y, .int n, .int e, .bl o, .bl sp] => true
  | _ => false
def chkP (i : Nat) : Bool := ((allLays.drop (60 * i)).take 60).all chk
theorem chk_p0 : chkP 0 = true := by decide +kernel
theorem chk_p1 : chkP 1 = true := by decide +kernel
theorem chk_p2 : chkP 2 = true := by decide +kernel
theorem chk_p3 : chkP 3 = true := by decide +kernel
theorem chk_p4 : chkP 4 = true := by decide +kernel
theorem chk_p5 : chkP 5 = true := by decide +kernel
theorem chk_p6 : chkP 6 = true := by decide +kernel
theorem chk_p7 : chkP 7 = true := by decide +kernel
theorem chk_p8 : chkP 8 = true := by decide +kernel
theorem chk_p9 : chkP 9 = true := by decide +kernel
theorem chk_p10 : chkP 10 = true := by decide +kernel
theorem chk_p11 : chkP 11 = true := by decide +kernel
theorem chk_p12 : chkP 12 = true := by decide +kernel
theorem chk_ps : ∀ i : Nat, i < 13 → chkP i = true
  | 0, _ => chk_p0
  | 1, _ => chk_p1
  | 2, _ => chk_p2
  | 3, _ => chk_p3
  | 4, _ => chk_p4
  | 5, _ => chk_p5
  | 6, _ => chk_p6
  | 7, _ => chk_p7
  | 8, _ => chk_p8
  | 9, _ => chk_p9
  | 10, _ => chk_p10
  | 11, _ => chk_p11
  | 12, _ => chk_p12
  | n + 13, h => absurd h (by omega)
theorem all_pieces {p : VV → Bool} : ∀ (n : Nat) (L : List VV), L.length ≤ 60 * n → (∀ i, i < n → ((L.drop (60 * i)).take 60).all p = true) → L.all p = true
  | 0, L, hl, _ => by
    have : L = [] := List.length_eq_zero_iff.mp (by omega)
    rw [this]; rfl
  | n + 1, L, hl, h => by
    have h0 := h 0 (by omega)
    have ih := all_pieces n (L.drop 60) (by rw [List.length_drop]; omega) fun i hi => by
      have := h (i + 1) (by omega)
      rw [List.drop_drop, show 60 + 60 * i = 60 * (i + 1) by omega]
      exact this
    rw [← List.take_append_drop 60 L, List.all_append, ih, Bool.and_true]
    simpa using h0
theorem allLays_len : allLays.length ≤ 60 * 13 := by decide +kernel
theorem chk_all : allLays.all chk = true := all_pieces 13 allLays allLays_len chk_ps
theorem lay_all : allLays.all isLay = true := by decide +kernel
end DL
end S_P7a
section S_P7
set_option linter.all false
set_option maxRecDepth 1000000
set_option maxHeartbeats 4000000
/-! P7: programs. -/
namespace DL
@[simp] theorem dGetC_ap (tb) (a d : DE) (S : Env) (G : Hv) : dGetC tb a d S G = (a S G).bind fun x G1 => (d S G1).bind fun y G2 => match x with
  | .str s => .ok ((tblGet s tb).getD y) G2
  | _ => .bad := Eq.trans rfl rfl
@[simp] theorem tIfE_ap (t a b : DT) (S : Env) (G : Hv) : tIfE t a b S G = (t S G).bind fun c G1 => if c then a S G1 else b S G1 := Eq.trans rfl rfl
@[simp] theorem cEqT0_nil (G : Hv) (xs : List VV) : cEqT0 G (.tup xs) (.tup []) = some xs.isEmpty := rfl
@[simp] theorem cNeT0_nil (G : Hv) (xs : List VV) : cNeT0 G (.tup xs) (.tup []) = some (!xs.isEmpty) := rfl
@[simp] theorem cIsB_bl (G : Hv) (a b : Bool) : cIsB G (.bl a) (.bl b) = some (a == b) := rfl
theorem lay_of {l : VV} (h : l ∈ allLays) : ∃ w s y n e o sp, l = lay w s y n e o sp := by
  have := List.all_eq_true.mp lay_all l h
  unfold isLay at this
  split at this
  · exact ⟨_, _, _, _, _, _, _, rfl⟩
  · cases this
theorem closed_lay {l : VV} (h : l ∈ allLays) (n : Nat) : closedV n l = true := by
  obtain ⟨w, s, y, k, e, o, sp, rfl⟩ := lay_of h
  simp
theorem chk_at {l : VV} (h : l ∈ allLays) : (∃ k E, f_part_of [.str (txt l)] [] = .ok (.ref k) E ∧ E[k]? = some (partV l)) ∧ 10 ∉ txt l := by
  have c := List.all_eq_true.mp chk_all l h
  unfold chk at c
  simp only [Bool.and_eq_true, Bool.not_eq_true'] at c
  obtain ⟨c1, c2⟩ := c
  refine ⟨?_, ?_⟩
  · split at c1
    · rename_i k E e'
      exact ⟨k, E, e', of_decide_eq_true c1⟩
    · cases c1
  · intro hm
    have : (txt l).contains 10 = true := by simpa using hm
    rw [this] at c2
    cases c2
theorem partV_sh {l : VV} (h : l ∈ allLays) (n : Nat) : shO n (partV l) = partV l := by
  obtain ⟨w, s, y, k, e, o, sp, rfl⟩ := lay_of h
  show shO n (.ins cPart _) = .ins cPart _
  rw [shO, shF_closed n (by simp [closedF])]
theorem part_eq {l : VV} (h : l ∈ allLays) (G : Hv) : ∃ k E, f_part_of [.str (txt l)] G = .ok (.ref (G.length + k)) (G ++ E) ∧ (G ++ E)[G.length + k]? = some (partV l) := by
  obtain ⟨k, E, e1, e2⟩ := (chk_at h).1
  refine ⟨k, E.map (shO G.length), loc_ref (by simp) e1 G, ?_⟩
  rw [List.getElem?_append_right (Nat.le_add_right _ _), Nat.add_sub_cancel_left, List.getElem?_map, e2]
  simp [partV_sh h]
theorem width_eq {G : Hv} {p : Nat} {l : VV} (hl : l ∈ allLays) (h : G[p]? = some (partV l)) : f_width_of [.ref p] G = .ok (.int (wid l)) G := by
  obtain ⟨w, s, y, k, e, o, sp, rfl⟩ := lay_of hl
  unfold f_width_of
  rw [dDef_ref (k := 1) (vs := [.ref p]) rfl (by simp)]
  unfold partV at h
  have f : ∀ (f : Nat) (v : VV), look f [(1685221239, VV.str w), (435678045043, .str s), (7954807, .str y), (125779768604014, .int k), (521610294885, .int e), (7239535, .bl o), (435710685299, .bl sp)] = some v → oFld cPart f G (.ref p) = some v := fun f v hf => by
    unfold oFld
    simp only [h]
    simpa using hf
  have f1 := f 1685221239 (.str w) rfl
  have f2 := f 7954807 (.str y) rfl
  have f3 := f 125779768604014 (.int k) rfl
  have f4 := f 521610294885 (.int e) rfl
  simp [b_width_of, start, f1, wid]
  by_cases h1 : w = [99, 108, 101, 97, 114]
  · simp [h1, gc_pure0]
  · simp [h1]
    by_cases h2 : [102, 105, 114, 115, 116] = y ∨ [108, 97, 115, 116] = y
    · have h2' : y = [102, 105, 114, 115, 116] ∨ y = [108, 97, 115, 116] := h2.imp Eq.symm Eq.symm
      simp [f2, h2, h2', gc_pure0]
    · have h2' : ¬ (y = [102, 105, 114, 115, 116] ∨ y = [108, 97, 115, 116]) := fun h => h2 (h.imp Eq.symm Eq.symm)
      simp [f2, f3, h2, h2']
      by_cases h3 : k = 0 <;> simp [f4, h3, gc_pure0]
theorem wid_all : allLays.all (fun l => decide (0 ≤ wid l)) = true := by decide +kernel
theorem wid0 {l : VV} (h : l ∈ allLays) : 0 ≤ wid l := of_decide_eq_true (List.all_eq_true.mp wid_all l h)
def wsum (ls : List VV) : Int := (ls.map wid).sum
theorem wsum_take {ls : List VV} (h : ∀ l ∈ ls, l ∈ allLays) (j : Nat) : wsum (ls.take j) ≤ wsum ls := by
  have : ∀ ls : List VV, (∀ l ∈ ls, l ∈ allLays) → 0 ≤ wsum ls := fun ls => by
    induction ls with
    | nil => exact fun _ => Int.le_refl _
    | cons a r ih =>
      intro h
      have h1 := wid0 (h a (List.mem_cons_self ..))
      have h2 := ih fun l hl => h l (List.mem_cons_of_mem _ hl)
      unfold wsum at h2 ⊢
      rw [List.map_cons, List.sum_cons]
      omega
  have e : wsum ls = wsum (ls.take j) + wsum (ls.drop j) := by
    unfold wsum
    rw [← List.sum_append, ← List.map_append, List.take_append_drop]
  have := this (ls.drop j) fun l hl => h l (List.mem_of_mem_drop hl)
  omega
theorem wsum_succ {ls : List VV} {j : Nat} {l : VV} (h : ls[j]? = some l) : wsum (ls.take (j + 1)) = wsum (ls.take j) + wid l := by
  unfold wsum
  rw [List.take_succ, h]
  simp
theorem numG : ∀ (xs : List VV) (n : Int) (i : Nat), (num n xs)[i]? = xs[i]?.map fun x => .tup [.int (n + i), x]
  | [], _, i => by simp [num]
  | x :: xs, n, 0 => by simp [num]
  | x :: xs, n, i + 1 => by
    rw [num, List.getElem?_cons_succ, List.getElem?_cons_succ, numG xs (n + 1) i]
    have e : n + 1 + (i : Int) = n + ((i + 1 : Nat) : Int) := by omega
    rw [e]
abbrev texts (ls : List VV) : List VV := ls.map fun l => .str (txt l)
theorem first_wrong_run {G : Hv} {x : VV} {ls : List VV} {chk : List (Nat × VO)} (hs : seqOf G x = some (texts ls, chk)) (hst : ∀ E, stays (G ++ E) chk = true) (hl : ∀ l ∈ ls, l ∈ allLays) (h4 : ls.length ≤ 4) (h8 : wsum ls ≤ 8) :
    ∃ E, b_first_wrong [some x, none, none, none, none] G = .rt .non (G ++ E) := by
  obtain ⟨S', G', e, E, t2, t3, t4, rfl, rfl⟩ := forL_invC (chk := chk) (g := gTup [gName 2, gName 3]) (b := dSeq (sAsg (dCall f_part_of (aCons (dVar 3) (aNil))) (gName 4)) (
    dSeq (sIf (tOr (tV (dCmp cEq (dVar 2) (dC c_MOST_LAYERS))) (tOr (tV (dIsN (dVar 4))) (tV (dCmp cGt (dBin oAdd (dVar 1) (dCall f_width_of (aCons (dVar 4) (aNil)))) (dC c_MOST_WIDTH))))) (dRet (dVar 2)) (dNext)) (
    sAug aAdd 1 (dCall f_width_of (aCons (dVar 4) (aNil))))))
    (fun j S G' => ∃ E t2 t3 t4, G' = G ++ E ∧ S = [some x, some (.int (wsum (ls.take j))), t2, t3, t4]) (fun j S G' ⟨E, _, _, _, e, _⟩ => by rw [e]; exact hst E) (num 0 (texts ls)) 0 [some x, some (.int 0), none, none, none] G ⟨[], none, none, none, by simp, by simp [wsum]⟩ (by
    rintro j S G' y hy _ ⟨E, t2, t3, t4, rfl, rfl⟩
    rw [Nat.sub_zero, numG, List.getElem?_map] at hy
    cases hlj : ls[j]? with
    | none => rw [hlj] at hy; cases hy
    | some l =>
      rw [hlj] at hy
      simp at hy
      subst hy
      have hm : l ∈ allLays := hl l (List.mem_of_getElem? hlj)
      have hj : j < ls.length := (List.getElem?_eq_some_iff.mp hlj).1
      obtain ⟨k, E2, e2, e3⟩ := part_eq hm (G ++ E)
      have hw := width_eq hm e3
      have hle : wsum (ls.take (j + 1)) ≤ 8 := Int.le_trans (wsum_take hl _) h8
      rw [wsum_succ hlj] at hle
      have n4 : ¬ (j : Int) = 4 := by omega
      have n8 : ¬ (8 : Int) < wsum (ls.take j) + wid l := by omega
      simp at e2 hw
      refine ⟨[some x, some (.int (wsum (ls.take j))), some (.int j), some (.str (txt l)), t4], G ++ E, [some x, some (.int (wsum (ls.take (j + 1)))), some (.int j), some (.str (txt l)), some (.ref (G.length + E.length + k))], (G ++ E) ++ E2, by simp, ?_, E ++ E2, some (.int j), some (.str (txt l)), some (.ref (G.length + E.length + k)), by simp, rfl⟩
      rw [wsum_succ hlj]
      simp [e2, hw, n4, n8, c_MOST_LAYERS, c_MOST_WIDTH])
  refine ⟨E, ?_⟩
  simp [b_first_wrong, enumOf, hs]
  rw [e]
  simp
theorem first_wrong_ref {G : Hv} {p : Nat} {ls : List VV} (h : G[p]? = some (.lst (texts ls))) (hl : ∀ l ∈ ls, l ∈ allLays) (h4 : ls.length ≤ 4) (h8 : wsum ls ≤ 8) : f_first_wrong [.ref p] G = .ok .non G := by
  have hp := (List.getElem?_eq_some_iff.mp h).1
  obtain ⟨E, e⟩ := first_wrong_run (G := G) (x := .ref p) (chk := [(p, .lst (texts ls))]) (by simp [seqOf, h]) (fun E => by simp [stays, List.getElem?_append_left hp, h]) hl h4 h8
  unfold f_first_wrong
  rw [dDef_ref (k := 1) (vs := [.ref p]) rfl (by simp)]
  show gcR G (outR (b_first_wrong [some (.ref p), none, none, none, none] G)) = _
  rw [e]
  exact gc_pure (by simp)
theorem closed_texts (n : Nat) : ∀ ls : List VV, closedL n (texts ls) = true
  | [] => by simp
  | l :: ls => by simp [closed_texts n ls]
theorem first_wrong_tup {G : Hv} {ls : List VV} (hl : ∀ l ∈ ls, l ∈ allLays) (h4 : ls.length ≤ 4) (h8 : wsum ls ≤ 8) : f_first_wrong [.tup (texts ls)] G = .ok .non G := by
  obtain ⟨E, e⟩ := first_wrong_run (G := []) (x := .tup (texts ls)) (chk := []) (by simp [seqOf]) (fun E => by simp [stays]) hl h4 h8
  refine loc_val (by simp [closed_texts]) ?_ (by simp) G
  rw [dDef_val (k := 1) (vs := [.tup (texts ls)]) rfl (by simp [closed_texts])]
  show reloc [] (gcR [] (outR (b_first_wrong [some (.tup (texts ls)), none, none, none, none] []))) = _
  rw [e, reloc_nil]
  exact gc_pure (by simp)
/-! ### the program -/
theorem len_all : allLays.all (fun l => decide ((txt l).length ≤ 100)) = true := by decide +kernel
theorem txt_len {l : VV} (h : l ∈ allLays) : (txt l).length ≤ 100 := of_decide_eq_true (List.all_eq_true.mp len_all l h)
def wholeText (ls : List VV) : List Nat := joinS [10] (ls.map txt)
theorem toPD_texts (G : Hv) (n : Nat) : ∀ ls : List VV, mapO (toPD G (n + 1)) (texts ls) = some (ls.map fun l => .str (txt l))
  | [] => rfl
  | l :: ls => by
    show mapO _ (VV.str (txt l) :: texts ls) = _
    rw [mapO_cons, toPD_texts G n ls]
    rfl
theorem split_text {ls : List VV} (h0 : ls ≠ []) (hl : ∀ l ∈ ls, l ∈ allLays) (h4 : ls.length ≤ 4) (G : Hv) : mSplit (.str (wholeText ls)) [.str [10]] G = some (.ref G.length, G ++ [.lst (texts ls)]) := by
  have e : splitC 10 (wholeText ls) = ls.map txt := split_join (by simpa using h0) fun w hw => by
    obtain ⟨l, hm, rfl⟩ := List.mem_map.mp hw
    exact (chk_at (hl l hm)).2
  have hlen : (wholeText ls).length + 2 ≤ LIM := by
    have := join_len (c := 10) (m := 100) (ws := ls.map txt) fun w hw => by
      obtain ⟨l, hm, rfl⟩ := List.mem_map.mp hw
      exact txt_len (hl l hm)
    rw [List.length_map] at this
    unfold wholeText
    have h5 : ls.length * (100 + 1) ≤ 4 * 101 := Nat.mul_le_mul_right _ h4
    show _ ≤ 16777216
    omega
  unfold mSplit
  simp only [hlen, if_true, e, newL, List.map_map]
  rfl
abbrev progV (ls : List VV) : VO := .ins cProgram [(495622973804, .tup (texts ls))]
theorem init_eq {ls : List VV} {G : Hv} {p : Nat} (h0 : ls ≠ []) (hl : ∀ l ∈ ls, l ∈ allLays) (h4 : ls.length ≤ 4) (h8 : wsum ls ≤ 8) (h : G[p]? = some (.ins cProgram [])) : f_ProgramX_initX [.ref p, .tup (texts ls)] G = .ok .non (G.set p (progV ls)) := by
  unfold f_ProgramX_initX
  rw [dDef_ref (k := 2) (vs := [.ref p, .tup (texts ls)]) rfl (by simp)]
  have hne : ls.isEmpty = false := by cases ls with
    | nil => exact (h0 rfl).elim
    | cons a r => rfl
  simp [b_ProgramX_initX, start, isTy, hne, first_wrong_tup hl h4 h8, h, put]
  exact gc_set0 (by simp) (by simp [closedO, closedF, closed_texts])
theorem read_eq {ls : List VV} (h0 : ls ≠ []) (hl : ∀ l ∈ ls, l ∈ allLays) (h4 : ls.length ≤ 4) (h8 : wsum ls ≤ 8) (G : Hv) : f_Program_read [.cls cProgram, .str (wholeText ls)] G = .ok (.ref (G.length + 1)) (G ++ [.lst (texts ls), progV ls]) := by
  have e : f_Program_read [.cls cProgram, .str (wholeText ls)] [] = .ok (.ref 1) [.lst (texts ls), progV ls] := by
    unfold f_Program_read
    rw [dDef_val (k := 2) (vs := [.cls cProgram, .str (wholeText ls)]) rfl (by simp), reloc_nil]
    have hs := split_text h0 hl h4 []
    have hf := first_wrong_ref (G := [.lst (texts ls)]) (p := 0) rfl hl h4 h8
    have hi := init_eq (G := [.lst (texts ls), .ins cProgram []]) (p := 1) h0 hl h4 h8 rfl
    simp at hs
    simp [b_Program_read, start, isTy, isRt, hs, hf, dMakeV, bTuple, asSeq, asListR, hi]
    rfl
  rw [show f_Program_read [.cls cProgram, .str (wholeText ls)] G = _ from loc_ref (by simp) e G]
  have c1 : shO G.length (.lst (texts ls)) = .lst (texts ls) := by rw [shO, shL_closed _ (closed_texts 0 ls)]
  have c2 : shO G.length (progV ls) = progV ls := by
    rw [shO, shF_closed _ (by simp [closedF, closed_texts])]
  simp [c1, c2]
theorem program_of_eq {ls : List VV} (h0 : ls ≠ []) (hl : ∀ l ∈ ls, l ∈ allLays) (h4 : ls.length ≤ 4) (h8 : wsum ls ≤ 8) (G : Hv) : f_program_of [.str (wholeText ls)] G = .ok (.ref (G.length + 1)) (G ++ [.lst (texts ls), progV ls]) := by
  have e : f_program_of [.str (wholeText ls)] [] = .ok (.ref 1) [.lst (texts ls), progV ls] := by
    unfold f_program_of
    rw [dDef_val (k := 1) (vs := [.str (wholeText ls)]) rfl (by simp), reloc_nil]
    simp [b_program_of, start, isTy, sCatch, dCallC, read_eq h0 hl h4 h8]
    rfl
  rw [show f_program_of [.str (wholeText ls)] G = _ from loc_ref (by simp) e G]
  have c1 : shO G.length (.lst (texts ls)) = .lst (texts ls) := by rw [shO, shL_closed _ (closed_texts 0 ls)]
  have c2 : shO G.length (progV ls) = progV ls := by
    rw [shO, shF_closed _ (by simp [closedF, closed_texts])]
  simp [c1, c2]
/-- the parts, as they lie -/
def PartsAt (G : Hv) (ls : List VV) (rs : List VV) : Prop := rs.length = ls.length ∧ ∀ (j : Nat) (l : VV), ls[j]? = some l → ∃ r, rs[j]? = some (.ref r) ∧ G[r]? = some (partV l)
theorem PartsAt.more {G : Hv} {ls rs : List VV} (h : PartsAt G ls rs) (E : Hv) : PartsAt (G ++ E) ls rs := ⟨h.1, fun j l hl => by
  obtain ⟨r, h1, h2⟩ := h.2 j l hl
  exact ⟨r, h1, by rw [List.getElem?_append_left (List.getElem?_eq_some_iff.mp h2).1]; exact h2⟩⟩
theorem layers_eq {ls : List VV} {G : Hv} {q : Nat} (h : G[q]? = some (progV ls)) : f_Program_layers [.ref q] G = .ok (.tup (texts ls)) G := by
  unfold f_Program_layers
  rw [dDef_ref (k := 1) (vs := [.ref q]) rfl (by simp)]
  simp [b_Program_layers, start, oFld, h, look]
  exact gc_pure0 (by simp [closed_texts])
theorem parts_of_eq {ls : List VV} {G : Hv} {q : Nat} (hl : ∀ l ∈ ls, l ∈ allLays) (h4 : ls.length ≤ 4) (h : G[q]? = some (progV ls)) :
    ∃ E rs, f_parts_of [.ref q] G = .ok (.ref G.length) (G ++ E) ∧ (G ++ E)[G.length]? = some (.lst rs) ∧ PartsAt (G ++ E) ls rs := by
  obtain ⟨acc, G', e, E, rfl, h1, h2, h3⟩ := lcL_inv (chk := []) (g := gName 1) (t := tYes) (e := dCall f_part_of (aCons (dVar 1) aNil)) (vs := [1]) (S0 := [some (.ref q), none]) (D := G.length)
    (fun j acc G' => ∃ E, G' = G ++ E ∧ (G ++ E)[G.length]? = some (.lst acc) ∧ acc.length = j ∧ ∀ (i : Nat) (l : VV), i < j → ls[i]? = some l → ∃ r, acc[i]? = some (.ref r) ∧ (G ++ E)[r]? = some (partV l) ∧ r ≠ G.length)
    (fun _ _ _ _ => rfl) (texts ls) 0 [] (G ++ [.lst []]) ⟨[.lst []], rfl, by simp, rfl, fun i l hi => absurd hi (Nat.not_lt_zero _)⟩ (by
    rintro j acc G' x hx _ ⟨E, rfl, hD, hlen, hall⟩
    rw [Nat.sub_zero, List.getElem?_map] at hx
    cases hlj : ls[j]? with
    | none => rw [hlj] at hx; cases hx
    | some l =>
      rw [hlj] at hx
      simp at hx
      subst hx
      have hm : l ∈ allLays := hl l (List.mem_of_getElem? hlj)
      have hj : j < ls.length := (List.getElem?_eq_some_iff.mp hlj).1
      obtain ⟨k, E2, e2, e3⟩ := part_eq hm (G ++ E)
      have hDl : G.length < (G ++ E).length := (List.getElem?_eq_some_iff.mp hD).1
      have hDE : (G ++ E ++ E2)[G.length]? = some (.lst acc) := by rw [List.getElem?_append_left hDl]; exact hD
      refine ⟨[some (.ref q), some (.str (txt l))], G ++ E, by simp, .inr ⟨G ++ E, .ref ((G ++ E).length + k), G ++ E ++ E2, by simp, by simpa using e2, hDE, ?_, ?_⟩⟩
      · show acc.length < 16777216
        omega
      · refine ⟨(E ++ E2).set 0 (.lst (acc ++ [.ref ((G ++ E).length + k)])), ?_, ?_, by simp [hlen], fun i l' hi hl' => ?_⟩
        · rw [List.append_assoc, List.set_append_right _ _ (Nat.le_refl _), Nat.sub_self]
        · have : 0 < (E ++ E2).length := by simp at hDl ⊢; omega
          rw [List.getElem?_append_right (Nat.le_refl _), Nat.sub_self, List.getElem?_set_self this]
        · have keep : ∀ r o, (G ++ E ++ E2)[r]? = some o → r ≠ G.length → (G ++ (E ++ E2).set 0 (.lst (acc ++ [.ref ((G ++ E).length + k)])))[r]? = some o := fun r o hr hne => by
            have e4 : G ++ (E ++ E2).set 0 (.lst (acc ++ [.ref ((G ++ E).length + k)])) = (G ++ E ++ E2).set G.length (.lst (acc ++ [.ref ((G ++ E).length + k)])) := by
              rw [List.append_assoc, List.set_append_right _ _ (Nat.le_refl _), Nat.sub_self]
            rw [e4, List.getElem?_set_ne (Ne.symm hne)]
            exact hr
          by_cases hij : i = j
          · subst hij
            rw [hlj] at hl'
            cases hl'
            exact ⟨(G ++ E).length + k, by rw [List.getElem?_append_right (by omega), hlen]; simp, keep _ _ e3 (by simp at hDl ⊢; omega), by simp at hDl ⊢; omega⟩
          · obtain ⟨r, h1, h2, h3⟩ := hall i l' (by omega) hl'
            have hr : r < (G ++ E).length := (List.getElem?_eq_some_iff.mp h2).1
            refine ⟨r, by rw [List.getElem?_append_left (by omega)]; exact h1, keep r _ (by rw [List.getElem?_append_left hr]; exact h2) h3, h3⟩)
  refine ⟨E, acc, ?_, h1, by rw [h2]; simp, fun j l hj => ?_⟩
  · unfold f_parts_of
    rw [dDef_ref (k := 1) (vs := [.ref q]) rfl (by simp)]
    have hi : isIns cProgram 126935165919596 G (.ref q) = true := by simp [isIns, h, look]
    simp [b_parts_of, start, hi, layers_eq h, seqOf, wipe]
    rw [e]
    unfold gcR
    simp
  · obtain ⟨r, h4, h5, _⟩ := h3 j l (by have := (List.getElem?_eq_some_iff.mp hj).1; simpa using this) hj
    exact ⟨r, h4, h5⟩
end DL
end S_P7
section S_D71
set_option linter.all false
set_option maxRecDepth 100000
set_option maxHeartbeats 4000000
/-! D71: claims that are none. -/
namespace DL
def isTup : VV → Bool
  | .tup _ => true
  | _ => false
def isStr : VV → Bool
  | .str _ => true
  | _ => false
def isBl : VV → Bool
  | .bl _ => true
  | _ => false
def isInt : VV → Bool
  | .bl _ => true
  | .int _ => true
  | _ => false
/-- a value that is no object but lists and dicts, which are laid behind n -/
def Tyd (n : Nat) (G : Hv) : VV → Prop
  | .ref i => n ≤ i ∧ ((∃ xs, G[i]? = some (.lst xs)) ∨ ∃ xs, G[i]? = some (.dic xs))
  | .exc _ _ | .clo _ _ | .cls _ => False
  | _ => True
theorem Tyd.ty {n : Nat} {G : Hv} {v : VV} (h : Tyd n G v) : isTy G .tuple v = some (isTup v) ∧ isTy G .str v = some (isStr v) ∧ isTy G .bool v = some (isBl v) ∧ isTy G .int v = some (isInt v) := by
  cases v <;> simp [Tyd] at h <;> try exact ⟨rfl, rfl, rfl, rfl⟩
  rcases h with ⟨_, ⟨xs, h⟩ | ⟨xs, h⟩⟩ <;> simp [isTy, h, isTup, isStr, isBl, isInt]
theorem Tyd.to {n : Nat} {G A : Hv} {v : VV} (h : Tyd n G v) (hA : A = G ∨ closedV 0 v = true) : Tyd n A v := by
  rcases hA with rfl | hA
  · exact h
  · cases v <;> simp [Tyd] at h hA ⊢
theorem Tyd.trim {n : Nat} {G A : Hv} {v : VV} (h : Tyd n G v) (hA : closedV n v = true) : Tyd n A v := by
  cases v <;> simp [Tyd] at h hA ⊢
  omega
theorem Tyd.more {n : Nat} {G : Hv} {v : VV} (h : Tyd n G v) (E : Hv) : Tyd n (G ++ E) v := by
  cases v <;> simp [Tyd] at h ⊢
  refine ⟨h.1, ?_⟩
  rcases h.2 with ⟨xs, h⟩ | ⟨xs, h⟩
  · exact .inl ⟨xs, keepA E h⟩
  · exact .inr ⟨xs, keepA E h⟩
theorem Tyd.keep {n p : Nat} {G1 G2 : Hv} {v : VV} (h : Tyd n G1 v) (hp : p < n) (w : Wd p G1 G2) : Tyd n G2 v := by
  cases v <;> simp [Tyd] at h ⊢
  refine ⟨h.1, ?_⟩
  rcases h.2 with ⟨xs, e⟩ | ⟨xs, e⟩
  · exact .inl ⟨xs, DL.keep w (by omega) e⟩
  · exact .inr ⟨xs, DL.keep w (by omega) e⟩
theorem acc_not_tup {n : Nat} {G : Hv} {v c : VV} (h : Tyd n G v) (hv : isTup v = false) : f_accepts [v, c] G = .ok (.bl false) G := by
  refine dDef_bl rfl fun A hA => ⟨[], ?_⟩
  have t := (h.to (A := A) (hA.imp_right fun h => by simp at h; exact h.1)).ty
  simp [b_accepts, start, t.1, hv]
theorem acc_empty {G : Hv} {c : VV} : f_accepts [.tup [], c] G = .ok (.bl false) G := by
  refine dDef_bl rfl fun A hA => ⟨[], ?_⟩
  simp [b_accepts, start, isTy]
@[simp] theorem ix_zero (G : Hv) (x : VV) (r : List VV) : oIx G (.tup (x :: r)) (.int 0) = some x := by
  simp [oIx, asSeq, atI, ixN]
theorem acc_first {n : Nat} {G : Hv} {x c : VV} {r : List VV} (h : Tyd n G x) (hv : isStr x = false) : f_accepts [.tup (x :: r), c] G = .ok (.bl false) G := by
  refine dDef_bl rfl fun A hA => ⟨[], ?_⟩
  have t := (h.to (A := A) (hA.imp_right fun h => by simp at h; exact h.1.1)).ty
  have e : isTy A .tuple (.tup (x :: r)) = some true := rfl
  simp [b_accepts, start, e, t.2.1, hv]
theorem ix_last_tup (G : Hv) (xs : List VV) (h : xs ≠ []) : ∃ z, xs.getLast? = some z ∧ oIx G (.tup xs) (.int (-1)) = some z := by
  refine ⟨xs.getLast h, List.getLast?_eq_some_getLast h, ?_⟩
  have hl : 0 < xs.length := List.length_pos_iff.mpr h
  simp only [oIx, asSeq, atI, ixN]
  rw [if_neg (by decide), if_pos (by omega)]
  have : (-1 + (xs.length : Int)).toNat = xs.length - 1 := by omega
  rw [this, List.getLast_eq_getElem]
  exact List.getElem?_eq_getElem (by omega)
def sizeOf (w : List Nat) : VV := (tblGet w c_SIZES).getD (.int 0)
theorem size_int (w : List Nat) : ∃ k : Int, sizeOf w = .int k ∧ (k = 0 ∨ k = 3 ∨ k = 4) := by
  unfold sizeOf c_SIZES
  simp only [tblGet]
  repeat' split
  all_goals simp
theorem acc_size {G : Hv} {w : List Nat} {c : VV} {r : List VV} (h : sizeOf w ≠ .int ((r.length + 1 : Nat) : Int)) : f_accepts [.tup (.str w :: r), c] G = .ok (.bl false) G := by
  refine dDef_bl rfl fun A hA => ⟨[], ?_⟩
  have e : isTy A .tuple (.tup (.str w :: r)) = some true := rfl
  have e2 : isTy A .str (.str w) = some true := rfl
  obtain ⟨z, _, hz⟩ := ix_last_tup A (.str w :: r) (by simp)
  obtain ⟨k, hk, _⟩ := size_int w
  rw [hk] at h
  have hk' := hk
  unfold sizeOf at hk'
  have hne : ¬ k = (r.length : Int) + 1 := fun e => h (by rw [e]; simp)
  simp [b_accepts, start, e, e2, hz, hk', hne]
end DL
end S_D71
section S_E71
set_option linter.all false
set_option maxRecDepth 100000
set_option maxHeartbeats 4000000
/-! E71: claims that are none, further on. -/
namespace DL
abbrev planSS : List (List Nat) := [[98, 101, 104, 105, 110, 100], [102, 114, 111, 110, 116], [106, 111, 105, 110, 101, 100], [112, 97, 99, 107, 101, 100], [97, 110, 121]]
abbrev kindSS : List (List Nat) := [[102, 105, 108, 108, 105, 110, 103], [111, 116, 104, 101, 114], [115, 116, 114, 97, 110, 103, 101], [108, 97, 116, 101, 114], [101, 97, 114, 108, 105, 101, 114]]
theorem nin_strs (G : Hv) (t : List Nat) (ss : List (List Nat)) : cNin G (.str t) (.tup (ss.map VV.str)) = some (!(ss.any fun s => decide (s = t))) := by
  have : cNin G (.str t) (.tup (ss.map VV.str)) = (cIn G (.str t) (.tup (ss.map VV.str))).map not := rfl
  rw [this, cIn_tup, inL_str]
  rfl
theorem nin_plans (G : Hv) (t : List Nat) : cNin G (.str t) c_PLANS = some (!(planSS.any fun s => decide (s = t))) := nin_strs G t planSS
theorem nin_kinds (G : Hv) (t : List Nat) : cNin G (.str t) c_KINDS = some (!(kindSS.any fun s => decide (s = t))) := nin_strs G t kindSS
/-- no plan, no kind -/
def noWord (ss : List (List Nat)) : VV → Bool
  | .str t => !(ss.any fun s => decide (s = t))
  | _ => true
theorem getLast_ix (G : Hv) {xs : List VV} {z : VV} (h : xs.getLast? = some z) : oIx G (.tup xs) (.int (-1)) = some z := by
  have hn : xs ≠ [] := fun e => by rw [e] at h; cases h
  obtain ⟨z', h1, h2⟩ := ix_last_tup G xs hn
  rw [h] at h1; cases h1
  exact h2
theorem closed_mem {n : Nat} : ∀ {xs : List VV} {x : VV}, closedL n xs = true → x ∈ xs → closedV n x = true
  | y :: xs, x, h, hx => by
    rw [closedL_cons, Bool.and_eq_true] at h
    rcases List.mem_cons.mp hx with rfl | hx
    · exact h.1
    · exact closed_mem h.2 hx
theorem acc_plan {n : Nat} {G : Hv} {w : List Nat} {c z : VV} {r : List VV} (hs : sizeOf w = .int ((r.length + 1 : Nat) : Int)) (hz : r.getLast? = some z) (h : Tyd n G z) (hv : noWord planSS z = true) : f_accepts [.tup (.str w :: r), c] G = .ok (.bl false) G := by
  refine dDef_bl rfl fun A hA => ⟨[], ?_⟩
  have hm : z ∈ r := List.mem_of_getLast? hz
  have t := (h.to (A := A) (hA.imp_right fun h => by
    simp at h
    exact closed_mem h.1 hm)).ty
  have e : isTy A .tuple (.tup (.str w :: r)) = some true := rfl
  have e2 : isTy A .str (.str w) = some true := rfl
  have hl : (VV.str w :: r).getLast? = some z := by
    rw [List.getLast?_cons, hz]; rfl
  have hz' := getLast_ix A hl
  unfold sizeOf at hs
  have t2 := t.2.1
  cases hst : isStr z with
  | false => simp [b_accepts, start, e, e2, hz', hs, t2, hst]
  | true =>
    obtain ⟨s, rfl⟩ : ∃ s, z = .str s := by cases z <;> simp [isStr] at hst; exact ⟨_, rfl⟩
    have hn := nin_plans A s
    have hv' : (planSS.any fun q => decide (q = s)) = false := by simpa [noWord] using hv
    rw [hv'] at hn
    simp [b_accepts, start, e, e2, hz', hs, t2, hst, hn]
/-- no text of a program -/
def NoProg (x : VV) : Prop := ∀ t, x = .str t → f_program_of [.str t] [] = .ok .non []
theorem prog_none {n : Nat} {G : Hv} {x : VV} (h : Tyd n G x) (hx : NoProg x) : f_program_of [x] G = .ok .non G := by
  cases hst : isStr x with
  | false =>
    have key : ∀ A, Tyd n A x → b_program_of [some x] A = .rt .non A := fun A h => by
      have t := h.ty.2.1
      simp [b_program_of, t, hst]
    unfold f_program_of dDef
    rw [if_pos (show [x].length = 1 from rfl)]
    split
    · rename_i hc
      have := key [] (h.to (.inr (by simpa using hc)))
      show reloc G (gcR [] (outR (b_program_of [some x] []))) = _
      rw [this, outR_rt, gc_pure0 (by simp)]
      simp [reloc, shV]
    · show gcR G (outR (b_program_of [some x] G)) = _
      rw [key G h, outR_rt, gc_pure0 (by simp)]
  | true =>
    obtain ⟨s, rfl⟩ : ∃ s, x = .str s := by cases x <;> simp [isStr] at hst; exact ⟨_, rfl⟩
    exact loc_val (by simp) (hx s rfl) (by simp) G
theorem isPlan_nin {z : List Nat} (h : z ∈ planSS) (G : Hv) : cNin G (.str z) c_PLANS = some false := by
  rw [nin_plans]
  have : planSS.any (fun s => decide (s = z)) = true := List.any_eq_true.mpr ⟨z, h, by simp⟩
  rw [this]; rfl
theorem acc_text {n : Nat} {G : Hv} {w z : List Nat} {c x : VV} {r : List VV} (hs : sizeOf w = .int ((r.length + 2 : Nat) : Int)) (hz : (x :: r).getLast? = some (.str z)) (hp : z ∈ planSS) (h : Tyd n G x) (hx : NoProg x) : f_accepts [.tup (.str w :: x :: r), c] G = .ok (.bl false) G := by
  refine dDef_bl rfl fun A hA => ⟨[], ?_⟩
  have t := prog_none (h.to (A := A) (hA.imp_right fun h => by
    simp at h
    exact h.1.1)) hx
  have e : isTy A .tuple (.tup (.str w :: x :: r)) = some true := rfl
  have e2 : ∀ w, isTy A .str (.str w) = some true := fun _ => rfl
  have hl : (VV.str w :: x :: r).getLast? = some (.str z) := by
    rw [List.getLast?_cons, hz]; rfl
  have hz' := getLast_ix A hl
  unfold sizeOf at hs
  have hn := isPlan_nin hp A
  have ix1 : oIx A (.tup (.str w :: x :: r)) (.int 1) = some x := by
    have h1 : (1 : Int) < r.length + 1 + 1 := by omega
    simp [oIx, asSeq, atI, ixN, h1]
  have hs' : (tblGet w c_SIZES).getD (.int 0) = .int ((r.length : Int) + 1 + 1) := by rw [hs]; congr 1
  simp [b_accepts, start, e, e2, hz', hs', hn, ix1, t]
theorem ix_two (G : Hv) (a b x : VV) (r : List VV) : oIx G (.tup (a :: b :: x :: r)) (.int 2) = some x := by
  have h1 : (2 : Int) < r.length + 1 + 1 + 1 := by omega
  simp [oIx, asSeq, atI, ixN, h1]
theorem ix_one (G : Hv) (a x : VV) (r : List VV) : oIx G (.tup (a :: x :: r)) (.int 1) = some x := by
  have h1 : (1 : Int) < r.length + 1 + 1 := by omega
  simp [oIx, asSeq, atI, ixN, h1]
theorem ix_four (G : Hv) (a b x y : VV) : oIx G (.tup [a, b, x, y]) (.int (-1)) = some y := getLast_ix G (by simp)
theorem ix_three (G : Hv) (a b x : VV) : oIx G (.tup [a, b, x]) (.int (-1)) = some x := getLast_ix G (by simp)
/-- layers whose text is this -/
def Lays (ls : List VV) : Prop := ls ≠ [] ∧ (∀ l ∈ ls, l ∈ allLays) ∧ ls.length ≤ 4 ∧ wsum ls ≤ 8
theorem acc_other {n : Nat} {G : Hv} {z : List Nat} {c x : VV} {ls : List VV} (hl : Lays ls) (hp : z ∈ planSS) (h : Tyd n G x) (hx : NoProg x) : f_accepts [.tup [.str [117, 110, 108, 105, 107, 101], .str (wholeText ls), x, .str z], c] G = .ok (.bl false) G := by
  obtain ⟨h0, h1, h4, h8⟩ := hl
  refine dDef_bl rfl fun A hA => ⟨[.lst (texts ls), progV ls], ?_⟩
  have hA' : Tyd n A x := h.to (A := A) (hA.imp_right fun h => by
    simp at h
    exact h.1)
  have t := prog_none (hA'.more [.lst (texts ls), progV ls]) hx
  have e : ∀ xs, isTy A .tuple (.tup xs) = some true := fun _ => rfl
  have e2 : ∀ w, isTy A .str (.str w) = some true := fun _ => rfl
  have hn := isPlan_nin hp A
  have hp := program_of_eq h0 h1 h4 h8 A
  have sz : tblGet [117, 110, 108, 105, 107, 101] c_SIZES = some (.int 4) := rfl
  simp [b_accepts, start, e, e2, ix_four, sz, hn, ix_one, hp, ix_two, t]
theorem acc_kind {n : Nat} {G : Hv} {w z : List Nat} {c x : VV} {ls : List VV} (hw : w = [110, 101, 118, 101, 114] ∨ w = [99, 97, 110] ∨ w = [101, 118, 101, 114] ∨ w = [115, 111, 109, 101, 116, 105, 109, 101]) (hl : Lays ls) (hp : z ∈ planSS) (h : Tyd n G x) (hx : noWord kindSS x = true) : f_accepts [.tup [.str w, .str (wholeText ls), x, .str z], c] G = .ok (.bl false) G := by
  obtain ⟨h0, h1, h4, h8⟩ := hl
  refine dDef_bl rfl fun A hA => ?_
  have hA' : Tyd n A x := h.to (A := A) (hA.imp_right fun h => by
    simp at h
    exact h.1)
  have e : ∀ xs, isTy A .tuple (.tup xs) = some true := fun _ => rfl
  have e2 : ∀ w, isTy A .str (.str w) = some true := fun _ => rfl
  have hn := isPlan_nin hp A
  have hp := program_of_eq h0 h1 h4 h8 A
  have sz : tblGet w c_SIZES = some (.int 4) := by rcases hw with rfl | rfl | rfl | rfl <;> rfl
  have n1 : ¬ w = [109, 111, 114, 101] := by rcases hw with rfl | rfl | rfl | rfl <;> decide
  have n2 : ¬ w = [117, 110, 108, 105, 107, 101] := by rcases hw with rfl | rfl | rfl | rfl <;> decide
  obtain ⟨E, rs, q1, q2, q3⟩ := parts_of_eq (G := A ++ [.lst (texts ls), progV ls]) (q := A.length + 1) h1 h4 (by rw [List.getElem?_append_right (by omega)]; simp)
  have t := ((hA'.more [.lst (texts ls), progV ls]).more E).ty.2.1
  refine ⟨[.lst (texts ls), progV ls] ++ E, ?_⟩
  simp at q1 t
  cases hst : isStr x with
  | false => simp [b_accepts, start, e, e2, ix_four, sz, hn, ix_one, hp, ix_two, n1, n2, q1, t, hst]
  | true =>
    obtain ⟨s, rfl⟩ : ∃ s, x = .str s := by cases x <;> simp [isStr] at hst; exact ⟨_, rfl⟩
    have hv' : (kindSS.any fun q => decide (q = s)) = false := by simpa [noWord] using hx
    have hk := nin_kinds (A ++ ([.lst (texts ls), progV ls] ++ E)) s
    rw [hv'] at hk
    simp at hk
    simp [b_accepts, start, e, e2, ix_four, sz, hn, ix_one, hp, ix_two, n1, n2, q1, t, hst, hk]
end DL
end S_E71
section S_Tk
set_option linter.all false
set_option maxRecDepth 100000
set_option maxHeartbeats 4000000
/-! Tk: how far it is read that a place takes from a place: the checker's way, as plain functions. -/
namespace DL
/-- a layer -/
structure Ly where
  w : List Nat
  s : List Nat
  y : List Nat
  n : Nat
  e : Nat
  o : Bool
  sp : Bool
  deriving DecidableEq
def Ly.v (L : Ly) : VV := lay L.w L.s L.y (L.n : Nat) (L.e : Nat) L.o L.sp
def lyOf : VV → Ly
  | .tup [.str w, .str s, .str y, .int n, .int e, .bl o, .bl sp] => ⟨w, s, y, n.toNat, e.toNat, o, sp⟩
  | _ => ⟨[], [], [], 0, 0, false, false⟩
def isLy (v : VV) : Bool := decide ((lyOf v).v = v) && (decide (1 ≤ (lyOf v).e) && (decide ((lyOf v).e ≤ 3) && decide ((lyOf v).n ≤ 3)))
theorem ly_all : allLays.all isLy = true := by decide +kernel
def allLy : List Ly := allLays.map lyOf
theorem ly_of {l : VV} (h : l ∈ allLays) : ∃ L : Ly, L ∈ allLy ∧ l = L.v ∧ 1 ≤ L.e ∧ L.e ≤ 3 ∧ L.n ≤ 3 := by
  have c := List.all_eq_true.mp ly_all l h
  unfold isLy at c
  simp only [Bool.and_eq_true, decide_eq_true_eq] at c
  exact ⟨lyOf l, List.mem_map_of_mem h, c.1.symm, c.2.1, c.2.2.1, c.2.2.2⟩
theorem ly_mem {L : Ly} (h : L ∈ allLy) : L.v ∈ allLays ∧ 1 ≤ L.e ∧ L.e ≤ 3 ∧ L.n ≤ 3 := by
  obtain ⟨l, hl, rfl⟩ := List.mem_map.mp h
  have c := List.all_eq_true.mp ly_all l hl
  unfold isLy at c
  simp only [Bool.and_eq_true, decide_eq_true_eq] at c
  exact ⟨by rw [c.1]; exact hl, c.2.1, c.2.2.1, c.2.2.2⟩
/-! the checker's way -/
def took (L : Ly) (x : Nat) : Option (Nat × Nat) :=
  if L.w = tClear then (if x = 2 then none else some (3, 0))
  else if L.o = true ∨ (L.sp = true ∧ x = 2) ∨ (L.y = tFirst ∧ x = 0) then some (3, 0)
  else if L.y = tLast ∧ x ≠ 2 then some (4, 0) else none
def begn (L : Ly) (x m : Nat) : Option (Nat × Nat) :=
  if L.w = tClear ∨ (x = 2 ∧ L.s = tRow) then none
  else if m = 1 then (if (tAhead = L.y ∨ tAround = L.y ∨ tAtAhead = L.y ∨ tLast = L.y) ∧ ¬ (L.sp = true ∧ x = 2) then some (1, 0) else none)
  else if x = 2 ∧ L.s = tTrue then none
  else if (tBack = L.y ∨ tAround = L.y ∨ tAtBack = L.y) ∨ (L.y = tFirst ∧ x = 0) then some (2, 0) else none
def farth (L : Ly) (g : Nat) : Option Nat := if tFirst = L.y ∨ tLast = L.y then some 0 else if L.n = 0 then some ((g + 1) % L.e) else if g < L.n then some (g + 1) else none
def rightD (L : Ly) (g : Nat) : Bool := if tAtBack = L.y ∨ tAtAhead = L.y then decide (g = L.n) else decide (g % L.e = 0)
def tkA (L : Ly) (ph g x m : Nat) : Option (Nat × Nat) :=
  if 2 < ph then (if m = 0 ∧ ¬ (ph = 4 ∧ x = 1) then some (3, 0) else none)
  else if ph = 0 then (if m = 3 then took L x else if m = 0 then some (ph, g) else begn L x m)
  else match farth L g with
    | none => none
    | some lg => if L.s = tRow ∧ x ≠ 1 then none
      else if m = 0 then some (ph, lg)
      else if m ≠ 3 - ph ∨ rightD L lg = false then none
      else if x = 2 ∧ (if m = 2 then L.s = tTrue else L.sp = true) then none
      else if L.y = tLast then some (4, 0) else some (3, 0)
def encP : Option (Nat × Nat) → VV
  | none => .non
  | some (a, b) => .tup [.int (a : Nat), .int (b : Nat)]
section
variable {L : Ly} {G : Hv} {r : Nat}
theorem inL_s4 (G : Hv) (x a b c d : List Nat) : inL G (.str x) [.str a, .str b, .str c, .str d] = some (decide (a = x) || (decide (b = x) || (decide (c = x) || decide (d = x)))) := by
  have := inL_str G x [a, b, c, d]
  simpa using this
theorem flds (h : G[r]? = some (partV L.v)) : oFld cPart 1685221239 G (.ref r) = some (.str L.w) ∧ oFld cPart 435678045043 G (.ref r) = some (.str L.s) ∧ oFld cPart 7954807 G (.ref r) = some (.str L.y) ∧ oFld cPart 125779768604014 G (.ref r) = some (.int L.n) ∧ oFld cPart 521610294885 G (.ref r) = some (.int L.e) ∧ oFld cPart 7239535 G (.ref r) = some (.bl L.o) ∧ oFld cPart 435710685299 G (.ref r) = some (.bl L.sp) := by
  have f : ∀ (f : Nat) (v : VV), look f [(1685221239, VV.str L.w), (435678045043, .str L.s), (7954807, .str L.y), (125779768604014, .int L.n), (521610294885, .int L.e), (7239535, .bl L.o), (435710685299, .bl L.sp)] = some v → oFld cPart f G (.ref r) = some v := fun f v hf => by
    unfold oFld
    simp only [h, partV, Ly.v]
    simpa using hf
  exact ⟨f _ _ rfl, f _ _ rfl, f _ _ rfl, f _ _ rfl, f _ _ rfl, f _ _ rfl, f _ _ rfl⟩
end
mutual
theorem closed_up (n : Nat) : ∀ {v : VV}, closedV 0 v = true → closedV n v = true
  | .non, _ => by simp
  | .bl _, _ => by simp
  | .int _, _ => by simp
  | .str _, _ => by simp
  | .cls _, _ => by simp
  | .ref i, h => by simp at h
  | .tup xs, h => by rw [closedV_tup] at h ⊢; exact closed_upL n h
  | .exc c fs, h => by rw [closedV] at h ⊢; exact closed_upF n h
  | .clo c xs, h => by rw [closedV] at h ⊢; exact closed_upL n h
theorem closed_upL (n : Nat) : ∀ {v : List VV}, closedL 0 v = true → closedL n v = true
  | [], _ => by rw [closedL]
  | x :: xs, h => by
    rw [closedL_cons, Bool.and_eq_true] at h ⊢
    exact ⟨closed_up n h.1, closed_upL n h.2⟩
theorem closed_upF (n : Nat) : ∀ {v : List (Nat × VV)}, closedF 0 v = true → closedF n v = true
  | [], _ => by rw [closedF]
  | (c, x) :: xs, h => by
    rw [closedF, Bool.and_eq_true] at h ⊢
    exact ⟨closed_up n h.1, closed_upF n h.2⟩
end
section
variable {L : Ly} {G : Hv} {r : Nat}
/-- a def with an object, its answer not an object -/
theorem dDef_vr {k n : Nat} {b : DS} {vs : List VV} {v : VV} (h1 : vs.length = k) (h2 : closedL 0 vs = false) (hv : closedV 0 v = true) (e : b (start n vs) G = .rt v G) : dDef k n b vs G = .ok v G := by
  rw [dDef_ref h1 h2, e, outR_rt, gc_pure0]
  exact closed_up _ hv
theorem closed_encP (o : Option (Nat × Nat)) : closedV 0 (encP o) = true := by
  cases o with
  | none => simp [encP]
  | some p => obtain ⟨a, b⟩ := p; simp [encP]
theorem took_eq (h : G[r]? = some (partV L.v)) {x : Nat} (hx : x < 3) : f_took_itself [.ref r, .int (x : Nat)] G = .ok (encP (took L x)) G := by
  obtain ⟨fw, fs, fy, fn, fe, fo, fsp⟩ := flds h
  refine dDef_vr rfl (by simp) (closed_encP _) ?_
  have hx3 : x = 0 ∨ x = 1 ∨ x = 2 := by omega
  by_cases hw : L.w = tClear
  · rcases hx3 with rfl | rfl | rfl <;> simp [b_took_itself, start, fw, hw, took, encP]
  · have hw' : ¬ L.w = [99, 108, 101, 97, 114] := hw
    cases ho : L.o <;> cases hs : L.sp <;> by_cases h1 : L.y = tFirst <;> by_cases h2 : L.y = tLast <;> rcases hx3 with rfl | rfl | rfl <;> simp_all [b_took_itself, start, took, encP]
theorem begn_eq (h : G[r]? = some (partV L.v)) {x m : Nat} (hx : x < 3) (hm : m = 1 ∨ m = 2) : f_began [.ref r, .int (x : Nat), .int (m : Nat)] G = .ok (encP (begn L x m)) G := by
  obtain ⟨fw, fs, fy, fn, fe, fo, fsp⟩ := flds h
  refine dDef_vr rfl (by simp) (closed_encP _) ?_
  have hx3 : x = 0 ∨ x = 1 ∨ x = 2 := by omega
  by_cases hw : L.w = [99, 108, 101, 97, 114]
  · rcases hx3 with rfl | rfl | rfl <;> simp [b_began, start, fw, hw, begn, encP]
  · rcases hm with rfl | rfl
    · by_cases h1 : tAhead = L.y ∨ tAround = L.y ∨ tAtAhead = L.y ∨ tLast = L.y <;> cases hs : L.sp <;> by_cases h2 : L.s = tRow <;> rcases hx3 with rfl | rfl | rfl <;> simp_all [b_began, start, begn, encP, inL_s4]
    · by_cases h1 : tBack = L.y ∨ tAround = L.y ∨ tAtBack = L.y <;> by_cases h3 : L.y = tFirst <;> by_cases h2 : L.s = tRow <;> by_cases h4 : L.s = tTrue <;> rcases hx3 with rfl | rfl | rfl <;> simp_all [b_began, start, begn, encP]
def encI : Option Nat → VV
  | none => .non
  | some k => .int (k : Nat)
@[simp] theorem closed_encI (n : Nat) (o : Option Nat) : closedV n (encI o) = true := by cases o <;> simp [encI]
theorem farth_eq (h : G[r]? = some (partV L.v)) (he : 1 ≤ L.e) (g : Nat) : f_farther [.ref r, .int (g : Nat)] G = .ok (encI (farth L g)) G := by
  obtain ⟨fw, fs, fy, fn, fe, fo, fsp⟩ := flds h
  refine dDef_vr rfl (by simp) (by simp) ?_
  by_cases h1 : tFirst = L.y ∨ tLast = L.y
  · simp [b_farther, start, fy, h1, farth, encI]
  · by_cases h2 : L.n = 0
    · have he' : 0 < L.e := he
      simp [b_farther, start, fy, fn, fe, h1, h2, farth, encI, he']
    · by_cases h3 : g < L.n <;> simp [b_farther, start, fy, fn, fe, h1, h2, h3, farth, encI]
theorem rightD_eq (h : G[r]? = some (partV L.v)) (he : 1 ≤ L.e) (g : Nat) : f_is_right_distance [.ref r, .int (g : Nat)] G = .ok (.bl (rightD L g)) G := by
  obtain ⟨fw, fs, fy, fn, fe, fo, fsp⟩ := flds h
  refine dDef_vr rfl (by simp) (by simp) ?_
  have he' : 0 < L.e := he
  by_cases h1 : tAtBack = L.y ∨ tAtAhead = L.y
  · simp [b_is_right_distance, start, fy, fn, fe, h1, rightD]
    omega
  · simp [b_is_right_distance, start, fy, fn, fe, h1, rightD, he']
    omega
theorem tkA_eq (h : G[r]? = some (partV L.v)) (he : 1 ≤ L.e) {ph g x m : Nat} (hp : ph < 5) (hx : x < 3) (hm : m < 4) : f_taking_after [.ref r, .tup [.int (ph : Nat), .int (g : Nat)], .int (x : Nat), .int (m : Nat)] G = .ok (encP (tkA L ph g x m)) G := by
  obtain ⟨fw, fs, fy, fn, fe, fo, fsp⟩ := flds h
  refine dDef_vr rfl (by simp) (closed_encP _) ?_
  have hx3 : x = 0 ∨ x = 1 ∨ x = 2 := by omega
  have hm4 : m = 0 ∨ m = 1 ∨ m = 2 ∨ m = 3 := by omega
  have hp5 : ph = 0 ∨ ph = 1 ∨ ph = 2 ∨ ph = 3 ∨ ph = 4 := by omega
  rcases hp5 with rfl | rfl | rfl | rfl | rfl
  · rcases hm4 with rfl | rfl | rfl | rfl
    · simp [b_taking_after, start, tkA, encP]
    · have q := begn_eq h (x := x) (m := 1) hx (.inl rfl)
      simp at q
      simp [b_taking_after, start, tkA, q]
    · have q := begn_eq h (x := x) (m := 2) hx (.inr rfl)
      simp at q
      simp [b_taking_after, start, tkA, q]
    · have q := took_eq h (x := x) hx
      simp [b_taking_after, start, tkA, q]
  · have qf := farth_eq h he g
    cases hf : farth L g with
    | none =>
      rw [hf] at qf
      simp only [encI] at qf
      simp [b_taking_after, start, tkA, hf, qf, encP]
    | some lg =>
      rw [hf] at qf
      simp only [encI] at qf
      have qr := rightD_eq h he lg
      by_cases hs : L.s = [114, 111, 119] <;> by_cases hl : L.y = [108, 97, 115, 116] <;> cases hr : rightD L lg <;> rcases hm4 with rfl | rfl | rfl | rfl <;> rcases hx3 with rfl | rfl | rfl <;>
        (try by_cases hst : L.s = [116, 114, 117, 101]) <;> (try cases hsp : L.sp) <;> simp_all [b_taking_after, start, tkA, encP]
  · have qf := farth_eq h he g
    cases hf : farth L g with
    | none =>
      rw [hf] at qf
      simp only [encI] at qf
      simp [b_taking_after, start, tkA, hf, qf, encP]
    | some lg =>
      rw [hf] at qf
      simp only [encI] at qf
      have qr := rightD_eq h he lg
      by_cases hs : L.s = [114, 111, 119] <;> by_cases hl : L.y = [108, 97, 115, 116] <;> cases hr : rightD L lg <;> rcases hm4 with rfl | rfl | rfl | rfl <;> rcases hx3 with rfl | rfl | rfl <;>
        (try by_cases hst : L.s = [116, 114, 117, 101]) <;> (try cases hsp : L.sp) <;> simp_all [b_taking_after, start, tkA, encP]
  · by_cases m0 : m = 0
    · simp [b_taking_after, start, tkA, m0, encP]
    · simp [b_taking_after, start, tkA, m0, encP]
  · by_cases m0 : m = 0
    · rcases hx3 with rfl | rfl | rfl <;> simp [b_taking_after, start, tkA, m0, encP]
    · simp [b_taking_after, start, tkA, m0, encP]
end
end DL
end S_Tk
section S_Tl
set_option linter.all false
set_option maxRecDepth 100000
set_option maxHeartbeats 4000000
/-! Tl: how far it is read that a place takes from a place: the law's way, as plain functions. -/
namespace DL
def lawFar (L : Ly) (g : Nat) : Nat := if L.w = tClear ∨ (tFirst = L.y ∨ tLast = L.y) then 1 else if 0 < L.n then (if g < L.n then g + 1 else 0) else if g < L.e then g + 1 else 1
def lawTaken (L : Ly) (mine its : Nat) (far : Int) (joined : Bool) : Bool :=
  if L.w = tClear ∨ (L.sp = true ∧ mine = 2) then decide (far = 0) && (decide (L.w ≠ tClear) || decide (mine ≠ 2))
  else if L.o = true ∧ far = 0 then true
  else if (L.s = tRow ∧ joined = false) ∨ (L.s = tTrue ∧ its = 2) then false
  else if tFirst = L.y ∨ tLast = L.y then (if L.y = tFirst then decide (its = 0) else decide (0 ≤ far))
  else if tAtBack = L.y ∨ tAtAhead = L.y then decide (far = if L.y = tAtAhead then (L.n : Int) else -(L.n : Int))
  else if far = 0 ∨ (L.y = tBack ∧ 0 < far) ∨ (L.y = tAhead ∧ far < 0) then false
  else decide ((if far < 0 then -far else far) % (L.e : Int) = 0)
abbrev LS := Nat × Nat × Bool × Nat
def lawTk (L : Ly) (met gap : Nat) (joined : Bool) (first x m : Nat) : Option LS :=
  if 2 < met then (if m = 0 ∧ (met = 3 ∨ x ≠ 1) then some (3, 0, false, 0) else none)
  else if met = 0 ∧ m < 3 then (if m = 0 then some (met, gap, joined, first) else some (m, 0, decide (x ≠ 2), x))
  else
    let far := if met = 0 then 0 else lawFar L gap
    let jn := decide (x ≠ 2) && (decide (met = 0) || (joined && decide (x = 1)))
    if met ≠ 0 ∧ (far = 0 ∨ (m ≠ 0 ∧ m ≠ 3 - met)) then none
    else if met ≠ 0 ∧ m = 0 then some (met, far, jn, first)
    else
      let mine := if met = 0 then x else if met = 1 then first else x
      let its := if met = 0 then x else if met = 1 then x else first
      if lawTaken L mine its (if met = 1 then (far : Int) else -(far : Int)) jn = false then none
      else some (if L.y = tLast ∧ mine ≠ 2 ∧ ¬ (far = 0 ∧ L.o = true) then 4 else 3, 0, false, 0)
def encS : LS → VV
  | (a, b, c, d) => .tup [.int (a : Nat), .int (b : Nat), .bl c, .int (d : Nat)]
def encSO : Option LS → VV
  | none => .tup []
  | some t => encS t
/-- a def with no object, its answer none -/
theorem dDef_cl {k n : Nat} {b : DS} {vs : List VV} {v : VV} {G : Hv} (h1 : vs.length = k) (h2 : closedL 0 vs = true) (hv : closedV 0 v = true) (e : ∃ E, b (start n vs) [] = .rt v E) : dDef k n b vs G = .ok v G := by
  obtain ⟨E, e⟩ := e
  rw [dDef_val h1 h2, e, outR_rt]
  have := gc_pure (G := []) (E := E) (v := v) (by simpa using hv)
  simp at this
  rw [this]
  simp [reloc, shV_closed _ hv]
theorem closed_lyv (L : Ly) (n : Nat) : closedV n L.v = true := by simp [Ly.v]
theorem closed_encSO (o : Option LS) : closedV 0 (encSO o) = true := by
  cases o with
  | none => simp [encSO]
  | some p => obtain ⟨a, b, c, d⟩ := p; simp [encSO, encS]
section
variable {L : Ly} {G : Hv}
theorem lawFar_eq (g : Nat) : f__law_farther [L.v, .int (g : Nat)] G = .ok (.int (lawFar L g : Nat)) G := by
  refine dDef_cl rfl (by simp [closed_lyv]) (by simp) ?_
  have cut5 : ∀ a b c d e f g : VV, cut [a, b, c, d, e, f, g] (some 2) (some 5) = [c, d, e] := fun _ _ _ _ _ _ _ => rfl
  have ix0 : ∀ (a b c d e f g : VV) (G : Hv), oIx G (.tup [a, b, c, d, e, f, g]) (.int 0) = some a := fun _ _ _ _ _ _ _ _ => rfl
  by_cases h1 : L.w = tClear
  · exact ⟨[], by simp [b__law_farther, start, Ly.v, cut5, ix0, h1, lawFar]⟩
  · have h1' : ¬ L.w = [99, 108, 101, 97, 114] := h1
    by_cases h2 : tFirst = L.y ∨ tLast = L.y
    · refine ⟨[.lst [.str tFirst, .str tLast]], ?_⟩
      simp [b__law_farther, start, Ly.v, cut5, ix0, h1', h2, lawFar]
    · refine ⟨[.lst [.str tFirst, .str tLast]], ?_⟩
      by_cases h3 : 0 < L.n
      · by_cases h4 : g < L.n <;> simp [b__law_farther, start, Ly.v, cut5, ix0, h1', h2, h3, h4, lawFar]
      · by_cases h4 : g < L.e <;> simp [b__law_farther, start, Ly.v, cut5, ix0, h1', h2, h3, h4, lawFar]
abbrev envT (L : Ly) (mine its : Nat) (far : Int) (jn : Bool) : Env := [some L.v, some (.int (mine : Nat)), some (.int (its : Nat)), some (.int far), some (.bl jn), some (.str L.w), some (.str L.s), some (.str L.y), some (.int L.n), some (.int L.e), some (.bl L.o), some (.bl L.sp)]
theorem lawTaken_eq (he : 1 ≤ L.e) {mine its : Nat} (h1 : mine < 3) (h2 : its < 3) (far : Int) (jn : Bool) : f__law_taken [L.v, .int (mine : Nat), .int (its : Nat), .int far, .bl jn] G = .ok (.bl (lawTaken L mine its far jn)) G := by
  refine dDef_cl rfl (by simp [closed_lyv]) (by simp) ?_
  have he' : 0 < L.e := he
  have habs : ∀ i G, bAbs [.int i] G = some (.int (if i < 0 then -i else i), G) := fun _ _ => rfl
  have hint : ∀ i G, bInt [.int i] G = some (.int i, G) := fun _ _ => rfl
  have hm2 : ((mine : Int) = 2) = (mine = 2) := by simp; omega
  have hi2 : ((its : Int) = 2) = (its = 2) := by simp; omega
  have c1 : ∀ G : Hv, (tOr (tV (dCmp cEq (dVar 5) (dC (.str [99, 108, 101, 97, 114])))) (tAnd (tV (dVar 11)) (tV (dCmp cEq (dVar 1) (dC (.int 2)))))) (envT L mine its far jn) G = .ok (decide (L.w = tClear ∨ (L.sp = true ∧ mine = 2))) G := fun G => by
    by_cases hw : L.w = [99, 108, 101, 97, 114] <;> cases hs : L.sp <;> simp [envT, hw, hs, hm2]
  have c2 : ∀ G : Hv, (tAnd (tV (dVar 10)) (tV (dCmp cEq (dVar 3) (dC (.int 0))))) (envT L mine its far jn) G = .ok (decide (L.o = true ∧ far = 0)) G := fun G => by
    cases hs : L.o <;> simp [envT, hs]
  have c3 : ∀ G : Hv, (tOr (tAnd (tV (dCmp cEq (dVar 6) (dC (.str [114, 111, 119])))) (tNot (tV (dVar 4)))) (tAnd (tV (dCmp cEq (dVar 6) (dC (.str [116, 114, 117, 101])))) (tV (dCmp cEq (dVar 2) (dC (.int 2)))))) (envT L mine its far jn) G = .ok (decide ((L.s = tRow ∧ jn = false) ∨ (L.s = tTrue ∧ its = 2))) G := fun G => by
    by_cases hs : L.s = [114, 111, 119] <;> by_cases hs' : L.s = [116, 114, 117, 101] <;> cases jn <;> simp [envT, hs, hs', hi2]
  have c4 : ∀ G : Hv, (tOr (tV (dCmp cEq (dVar 3) (dC (.int 0)))) (tOr (tAnd (tV (dCmp cEq (dVar 7) (dC (.str [98, 97, 99, 107])))) (tV (dCmp cGt (dVar 3) (dC (.int 0))))) (tAnd (tV (dCmp cEq (dVar 7) (dC (.str [97, 104, 101, 97, 100])))) (tV (dCmp cLt (dVar 3) (dC (.int 0))))))) (envT L mine its far jn) G = .ok (decide (far = 0 ∨ (L.y = tBack ∧ 0 < far) ∨ (L.y = tAhead ∧ far < 0))) G := fun G => by
    by_cases hf : far = 0
    · simp [envT, hf]
    · by_cases hy : L.y = [98, 97, 99, 107]
      · by_cases hp : 0 < far <;> simp [envT, hf, hy, hp]
      · by_cases hy' : L.y = [97, 104, 101, 97, 100] <;> simp [envT, hf, hy, hy']
  have c5 : ∀ A : Hv, (tV (dCmp cIn (dVar 7) (dLst (aCons (dC (.str [102, 105, 114, 115, 116])) (aCons (dC (.str [108, 97, 115, 116])) (aNil)))))) (envT L mine its far jn) A = .ok (decide (tFirst = L.y ∨ tLast = L.y)) (A ++ [.lst [.str tFirst, .str tLast]]) := fun A => by
    simp [envT, Bool.decide_or]
  have c6 : ∀ A : Hv, (tV (dCmp cIn (dVar 7) (dLst (aCons (dC (.str [97, 116, 32, 98, 97, 99, 107])) (aCons (dC (.str [97, 116, 32, 97, 104, 101, 97, 100])) (aNil)))))) (envT L mine its far jn) A = .ok (decide (tAtBack = L.y ∨ tAtAhead = L.y)) (A ++ [.lst [.str tAtBack, .str tAtAhead]]) := fun A => by
    simp [envT, Bool.decide_or]
  have begin_ : ∀ B : DS, (dSeq (sAsg (dVar 0) (gTup [gName 5, gName 6, gName 7, gName 8, gName 9, gName 10, gName 11])) B) (start 12 [L.v, .int (mine : Nat), .int (its : Nat), .int far, .bl jn]) [] = B (envT L mine its far jn) [] := fun B => by
    simp [start, Ly.v, envT]
  unfold b__law_taken
  rw [begin_]
  unfold lawTaken
  rw [dSeq_ap, sIf_ap, c1, R.st_ok]
  by_cases q1 : L.w = tClear ∨ (L.sp = true ∧ mine = 2)
  · rw [if_pos q1, decide_eq_true q1]
    refine ⟨[], ?_⟩
    by_cases hf : far = 0 <;> by_cases hw : L.w = [99, 108, 101, 97, 114] <;> simp [envT, hf, hw, hm2]
  rw [if_neg q1, decide_eq_false q1]
  simp only [Bool.false_eq_true, if_false, dNext_ap, thn_nx]
  rw [dSeq_ap, sIf_ap, c2, R.st_ok]
  by_cases q2 : L.o = true ∧ far = 0
  · rw [if_pos q2, decide_eq_true q2]
    exact ⟨[], by simp⟩
  rw [if_neg q2, decide_eq_false q2]
  simp only [Bool.false_eq_true, if_false, dNext_ap, thn_nx]
  rw [dSeq_ap, sIf_ap, c3, R.st_ok]
  by_cases q3 : (L.s = tRow ∧ jn = false) ∨ (L.s = tTrue ∧ its = 2)
  · rw [if_pos q3, decide_eq_true q3]
    exact ⟨[], by simp⟩
  rw [if_neg q3, decide_eq_false q3]
  simp only [Bool.false_eq_true, if_false, dNext_ap, thn_nx]
  rw [dSeq_ap, sIf_ap, c5, R.st_ok]
  by_cases q4 : tFirst = L.y ∨ tLast = L.y
  · rw [if_pos q4, decide_eq_true q4]
    refine ⟨[.lst [.str tFirst, .str tLast]], ?_⟩
    by_cases hy : L.y = [102, 105, 114, 115, 116] <;> simp [envT, hy]
  rw [if_neg q4, decide_eq_false q4]
  simp only [Bool.false_eq_true, if_false, dNext_ap, thn_nx]
  rw [dSeq_ap, sIf_ap, c6, R.st_ok]
  by_cases q5 : tAtBack = L.y ∨ tAtAhead = L.y
  · rw [if_pos q5, decide_eq_true q5]
    refine ⟨[] ++ [.lst [.str tFirst, .str tLast]] ++ [.lst [.str tAtBack, .str tAtAhead]], ?_⟩
    by_cases hy : L.y = [97, 116, 32, 97, 104, 101, 97, 100] <;> simp [envT, hy]
  rw [if_neg q5, decide_eq_false q5]
  simp only [Bool.false_eq_true, if_false, dNext_ap, thn_nx]
  rw [dSeq_ap, sIf_ap, c4, R.st_ok]
  by_cases q6 : far = 0 ∨ (L.y = tBack ∧ 0 < far) ∨ (L.y = tAhead ∧ far < 0)
  · rw [if_pos q6, decide_eq_true q6]
    exact ⟨[] ++ [.lst [.str tFirst, .str tLast]] ++ [.lst [.str tAtBack, .str tAtAhead]], by simp⟩
  rw [if_neg q6, decide_eq_false q6]
  refine ⟨[] ++ [.lst [.str tFirst, .str tLast]] ++ [.lst [.str tAtBack, .str tAtAhead]], ?_⟩
  simp [envT, habs, hint, he']
theorem lawTk_eq (he : 1 ≤ L.e) {met gap first x m : Nat} {jn : Bool} (hp : met < 5) (hf : first < 3) (hx : x < 3) (hm : m < 4) : f__law_taking [L.v, encS (met, gap, jn, first), .int (x : Nat), .int (m : Nat)] G = .ok (encSO (lawTk L met gap jn first x m)) G := by
  refine dDef_cl rfl (by simp [closed_lyv, encS]) (closed_encSO _) ⟨[], ?_⟩
  have hx3 : x = 0 ∨ x = 1 ∨ x = 2 := by omega
  have hm4 : m = 0 ∨ m = 1 ∨ m = 2 ∨ m = 3 := by omega
  have hp5 : met = 0 ∨ met = 1 ∨ met = 2 ∨ met = 3 ∨ met = 4 := by omega
  have ixy : oIx [] L.v (.int 2) = some (.str L.y) := rfl
  have ixo : oIx [] L.v (.int 5) = some (.bl L.o) := rfl
  rcases hp5 with rfl | rfl | rfl | rfl | rfl
  · rcases hm4 with rfl | rfl | rfl | rfl
    · simp [b__law_taking, start, lawTk, encSO, encS]
    · rcases hx3 with rfl | rfl | rfl <;> simp [b__law_taking, start, lawTk, encSO, encS]
    · rcases hx3 with rfl | rfl | rfl <;> simp [b__law_taking, start, lawTk, encSO, encS]
    · have q : ∀ j, f__law_taken [L.v, .int (x : Nat), .int (x : Nat), .int 0, .bl j] [] = .ok (.bl (lawTaken L x x 0 j)) [] := fun j => lawTaken_eq (G := []) he hx hx 0 j
      rcases hx3 with rfl | rfl | rfl
      · have q1 := q true
        simp at q1
        cases ht : lawTaken L 0 0 0 true <;> rw [ht] at q1 <;> by_cases hl : L.y = [108, 97, 115, 116] <;> cases ho : L.o <;> simp [b__law_taking, start, lawTk, encSO, encS, q1, ht, ixy, ixo, hl, ho]
      · have q1 := q true
        simp at q1
        cases ht : lawTaken L 1 1 0 true <;> rw [ht] at q1 <;> by_cases hl : L.y = [108, 97, 115, 116] <;> cases ho : L.o <;> simp [b__law_taking, start, lawTk, encSO, encS, q1, ht, ixy, ixo, hl, ho]
      · have q1 := q false
        simp at q1
        cases ht : lawTaken L 2 2 0 false <;> rw [ht] at q1 <;> by_cases hl : L.y = [108, 97, 115, 116] <;> cases ho : L.o <;> simp [b__law_taking, start, lawTk, encSO, encS, q1, ht, ixy, ixo, hl, ho]
  · have qf := lawFar_eq (L := L) (G := []) gap
    by_cases h0 : lawFar L gap = 0
    · rw [h0] at qf
      simp at qf
      rcases hx3 with rfl | rfl | rfl <;> cases jn <;> simp [b__law_taking, start, lawTk, encSO, encS, qf, h0]
    · have hlg : ∃ k, lawFar L gap = k + 1 := ⟨lawFar L gap - 1, by omega⟩
      obtain ⟨k, hk⟩ := hlg
      rw [hk] at qf
      have hk0 : ¬ ((k : Int) + 1 = 0) := by omega
      simp at qf
      have q : ∀ j, f__law_taken [L.v, .int (first : Nat), .int (x : Nat), .int ((k : Int) + 1), .bl j] [] = .ok (.bl (lawTaken L first x ((k : Int) + 1) j)) [] := fun j => lawTaken_eq (G := []) he hf hx _ j
      have hf3 : first = 0 ∨ first = 1 ∨ first = 2 := by omega
      rcases hm4 with rfl | rfl | rfl | rfl
      · rcases hx3 with rfl | rfl | rfl <;> cases jn <;> simp [b__law_taking, start, lawTk, encSO, encS, qf, hk, hk0]
      · rcases hx3 with rfl | rfl | rfl <;> cases jn <;> simp [b__law_taking, start, lawTk, encSO, encS, qf, hk, hk0]
      · rcases hx3 with rfl | rfl | rfl <;> cases jn <;> rcases hf3 with rfl | rfl | rfl
        · have q1 := q false
          simp at q1
          cases ht : lawTaken L 0 0 ((k : Int) + 1) false <;> simp [ht] at q1 <;> by_cases hl : L.y = [108, 97, 115, 116] <;> simp [b__law_taking, start, lawTk, encSO, encS, qf, hk, hk0, q1, ht, ixy, ixo, hl]
        · have q1 := q false
          simp at q1
          cases ht : lawTaken L 1 0 ((k : Int) + 1) false <;> simp [ht] at q1 <;> by_cases hl : L.y = [108, 97, 115, 116] <;> simp [b__law_taking, start, lawTk, encSO, encS, qf, hk, hk0, q1, ht, ixy, ixo, hl]
        · have q1 := q false
          simp at q1
          cases ht : lawTaken L 2 0 ((k : Int) + 1) false <;> simp [ht] at q1 <;> by_cases hl : L.y = [108, 97, 115, 116] <;> simp [b__law_taking, start, lawTk, encSO, encS, qf, hk, hk0, q1, ht, ixy, ixo, hl]
        · have q1 := q false
          simp at q1
          cases ht : lawTaken L 0 0 ((k : Int) + 1) false <;> simp [ht] at q1 <;> by_cases hl : L.y = [108, 97, 115, 116] <;> simp [b__law_taking, start, lawTk, encSO, encS, qf, hk, hk0, q1, ht, ixy, ixo, hl]
        · have q1 := q false
          simp at q1
          cases ht : lawTaken L 1 0 ((k : Int) + 1) false <;> simp [ht] at q1 <;> by_cases hl : L.y = [108, 97, 115, 116] <;> simp [b__law_taking, start, lawTk, encSO, encS, qf, hk, hk0, q1, ht, ixy, ixo, hl]
        · have q1 := q false
          simp at q1
          cases ht : lawTaken L 2 0 ((k : Int) + 1) false <;> simp [ht] at q1 <;> by_cases hl : L.y = [108, 97, 115, 116] <;> simp [b__law_taking, start, lawTk, encSO, encS, qf, hk, hk0, q1, ht, ixy, ixo, hl]
        · have q1 := q false
          simp at q1
          cases ht : lawTaken L 0 1 ((k : Int) + 1) false <;> simp [ht] at q1 <;> by_cases hl : L.y = [108, 97, 115, 116] <;> simp [b__law_taking, start, lawTk, encSO, encS, qf, hk, hk0, q1, ht, ixy, ixo, hl]
        · have q1 := q false
          simp at q1
          cases ht : lawTaken L 1 1 ((k : Int) + 1) false <;> simp [ht] at q1 <;> by_cases hl : L.y = [108, 97, 115, 116] <;> simp [b__law_taking, start, lawTk, encSO, encS, qf, hk, hk0, q1, ht, ixy, ixo, hl]
        · have q1 := q false
          simp at q1
          cases ht : lawTaken L 2 1 ((k : Int) + 1) false <;> simp [ht] at q1 <;> by_cases hl : L.y = [108, 97, 115, 116] <;> simp [b__law_taking, start, lawTk, encSO, encS, qf, hk, hk0, q1, ht, ixy, ixo, hl]
        · have q1 := q true
          simp at q1
          cases ht : lawTaken L 0 1 ((k : Int) + 1) true <;> simp [ht] at q1 <;> by_cases hl : L.y = [108, 97, 115, 116] <;> simp [b__law_taking, start, lawTk, encSO, encS, qf, hk, hk0, q1, ht, ixy, ixo, hl]
        · have q1 := q true
          simp at q1
          cases ht : lawTaken L 1 1 ((k : Int) + 1) true <;> simp [ht] at q1 <;> by_cases hl : L.y = [108, 97, 115, 116] <;> simp [b__law_taking, start, lawTk, encSO, encS, qf, hk, hk0, q1, ht, ixy, ixo, hl]
        · have q1 := q true
          simp at q1
          cases ht : lawTaken L 2 1 ((k : Int) + 1) true <;> simp [ht] at q1 <;> by_cases hl : L.y = [108, 97, 115, 116] <;> simp [b__law_taking, start, lawTk, encSO, encS, qf, hk, hk0, q1, ht, ixy, ixo, hl]
        · have q1 := q false
          simp at q1
          cases ht : lawTaken L 0 2 ((k : Int) + 1) false <;> simp [ht] at q1 <;> by_cases hl : L.y = [108, 97, 115, 116] <;> simp [b__law_taking, start, lawTk, encSO, encS, qf, hk, hk0, q1, ht, ixy, ixo, hl]
        · have q1 := q false
          simp at q1
          cases ht : lawTaken L 1 2 ((k : Int) + 1) false <;> simp [ht] at q1 <;> by_cases hl : L.y = [108, 97, 115, 116] <;> simp [b__law_taking, start, lawTk, encSO, encS, qf, hk, hk0, q1, ht, ixy, ixo, hl]
        · have q1 := q false
          simp at q1
          cases ht : lawTaken L 2 2 ((k : Int) + 1) false <;> simp [ht] at q1 <;> by_cases hl : L.y = [108, 97, 115, 116] <;> simp [b__law_taking, start, lawTk, encSO, encS, qf, hk, hk0, q1, ht, ixy, ixo, hl]
        · have q1 := q false
          simp at q1
          cases ht : lawTaken L 0 2 ((k : Int) + 1) false <;> simp [ht] at q1 <;> by_cases hl : L.y = [108, 97, 115, 116] <;> simp [b__law_taking, start, lawTk, encSO, encS, qf, hk, hk0, q1, ht, ixy, ixo, hl]
        · have q1 := q false
          simp at q1
          cases ht : lawTaken L 1 2 ((k : Int) + 1) false <;> simp [ht] at q1 <;> by_cases hl : L.y = [108, 97, 115, 116] <;> simp [b__law_taking, start, lawTk, encSO, encS, qf, hk, hk0, q1, ht, ixy, ixo, hl]
        · have q1 := q false
          simp at q1
          cases ht : lawTaken L 2 2 ((k : Int) + 1) false <;> simp [ht] at q1 <;> by_cases hl : L.y = [108, 97, 115, 116] <;> simp [b__law_taking, start, lawTk, encSO, encS, qf, hk, hk0, q1, ht, ixy, ixo, hl]
      · rcases hx3 with rfl | rfl | rfl <;> cases jn <;> simp [b__law_taking, start, lawTk, encSO, encS, qf, hk, hk0]
  · have qf := lawFar_eq (L := L) (G := []) gap
    by_cases h0 : lawFar L gap = 0
    · rw [h0] at qf
      simp at qf
      rcases hx3 with rfl | rfl | rfl <;> cases jn <;> simp [b__law_taking, start, lawTk, encSO, encS, qf, h0]
    · have hlg : ∃ k, lawFar L gap = k + 1 := ⟨lawFar L gap - 1, by omega⟩
      obtain ⟨k, hk⟩ := hlg
      rw [hk] at qf
      have hk0 : ¬ ((k : Int) + 1 = 0) := by omega
      simp at qf
      have q : ∀ j, f__law_taken [L.v, .int (x : Nat), .int (first : Nat), .int (-((k : Int) + 1)), .bl j] [] = .ok (.bl (lawTaken L x first (-((k : Int) + 1)) j)) [] := fun j => lawTaken_eq (G := []) he hx hf _ j
      have hf3 : first = 0 ∨ first = 1 ∨ first = 2 := by omega
      rcases hm4 with rfl | rfl | rfl | rfl
      · rcases hx3 with rfl | rfl | rfl <;> cases jn <;> simp [b__law_taking, start, lawTk, encSO, encS, qf, hk, hk0]
      · rcases hx3 with rfl | rfl | rfl <;> cases jn <;> rcases hf3 with rfl | rfl | rfl
        · have q1 := q false
          simp at q1
          cases ht : lawTaken L 0 0 (-((k : Int) + 1)) false <;> simp [ht] at q1 <;> by_cases hl : L.y = [108, 97, 115, 116] <;> simp [b__law_taking, start, lawTk, encSO, encS, qf, hk, hk0, q1, ht, ixy, ixo, hl]
        · have q1 := q false
          simp at q1
          cases ht : lawTaken L 0 1 (-((k : Int) + 1)) false <;> simp [ht] at q1 <;> by_cases hl : L.y = [108, 97, 115, 116] <;> simp [b__law_taking, start, lawTk, encSO, encS, qf, hk, hk0, q1, ht, ixy, ixo, hl]
        · have q1 := q false
          simp at q1
          cases ht : lawTaken L 0 2 (-((k : Int) + 1)) false <;> simp [ht] at q1 <;> by_cases hl : L.y = [108, 97, 115, 116] <;> simp [b__law_taking, start, lawTk, encSO, encS, qf, hk, hk0, q1, ht, ixy, ixo, hl]
        · have q1 := q false
          simp at q1
          cases ht : lawTaken L 0 0 (-((k : Int) + 1)) false <;> simp [ht] at q1 <;> by_cases hl : L.y = [108, 97, 115, 116] <;> simp [b__law_taking, start, lawTk, encSO, encS, qf, hk, hk0, q1, ht, ixy, ixo, hl]
        · have q1 := q false
          simp at q1
          cases ht : lawTaken L 0 1 (-((k : Int) + 1)) false <;> simp [ht] at q1 <;> by_cases hl : L.y = [108, 97, 115, 116] <;> simp [b__law_taking, start, lawTk, encSO, encS, qf, hk, hk0, q1, ht, ixy, ixo, hl]
        · have q1 := q false
          simp at q1
          cases ht : lawTaken L 0 2 (-((k : Int) + 1)) false <;> simp [ht] at q1 <;> by_cases hl : L.y = [108, 97, 115, 116] <;> simp [b__law_taking, start, lawTk, encSO, encS, qf, hk, hk0, q1, ht, ixy, ixo, hl]
        · have q1 := q false
          simp at q1
          cases ht : lawTaken L 1 0 (-((k : Int) + 1)) false <;> simp [ht] at q1 <;> by_cases hl : L.y = [108, 97, 115, 116] <;> simp [b__law_taking, start, lawTk, encSO, encS, qf, hk, hk0, q1, ht, ixy, ixo, hl]
        · have q1 := q false
          simp at q1
          cases ht : lawTaken L 1 1 (-((k : Int) + 1)) false <;> simp [ht] at q1 <;> by_cases hl : L.y = [108, 97, 115, 116] <;> simp [b__law_taking, start, lawTk, encSO, encS, qf, hk, hk0, q1, ht, ixy, ixo, hl]
        · have q1 := q false
          simp at q1
          cases ht : lawTaken L 1 2 (-((k : Int) + 1)) false <;> simp [ht] at q1 <;> by_cases hl : L.y = [108, 97, 115, 116] <;> simp [b__law_taking, start, lawTk, encSO, encS, qf, hk, hk0, q1, ht, ixy, ixo, hl]
        · have q1 := q true
          simp at q1
          cases ht : lawTaken L 1 0 (-((k : Int) + 1)) true <;> simp [ht] at q1 <;> by_cases hl : L.y = [108, 97, 115, 116] <;> simp [b__law_taking, start, lawTk, encSO, encS, qf, hk, hk0, q1, ht, ixy, ixo, hl]
        · have q1 := q true
          simp at q1
          cases ht : lawTaken L 1 1 (-((k : Int) + 1)) true <;> simp [ht] at q1 <;> by_cases hl : L.y = [108, 97, 115, 116] <;> simp [b__law_taking, start, lawTk, encSO, encS, qf, hk, hk0, q1, ht, ixy, ixo, hl]
        · have q1 := q true
          simp at q1
          cases ht : lawTaken L 1 2 (-((k : Int) + 1)) true <;> simp [ht] at q1 <;> by_cases hl : L.y = [108, 97, 115, 116] <;> simp [b__law_taking, start, lawTk, encSO, encS, qf, hk, hk0, q1, ht, ixy, ixo, hl]
        · have q1 := q false
          simp at q1
          cases ht : lawTaken L 2 0 (-((k : Int) + 1)) false <;> simp [ht] at q1 <;> by_cases hl : L.y = [108, 97, 115, 116] <;> simp [b__law_taking, start, lawTk, encSO, encS, qf, hk, hk0, q1, ht, ixy, ixo, hl]
        · have q1 := q false
          simp at q1
          cases ht : lawTaken L 2 1 (-((k : Int) + 1)) false <;> simp [ht] at q1 <;> by_cases hl : L.y = [108, 97, 115, 116] <;> simp [b__law_taking, start, lawTk, encSO, encS, qf, hk, hk0, q1, ht, ixy, ixo, hl]
        · have q1 := q false
          simp at q1
          cases ht : lawTaken L 2 2 (-((k : Int) + 1)) false <;> simp [ht] at q1 <;> by_cases hl : L.y = [108, 97, 115, 116] <;> simp [b__law_taking, start, lawTk, encSO, encS, qf, hk, hk0, q1, ht, ixy, ixo, hl]
        · have q1 := q false
          simp at q1
          cases ht : lawTaken L 2 0 (-((k : Int) + 1)) false <;> simp [ht] at q1 <;> by_cases hl : L.y = [108, 97, 115, 116] <;> simp [b__law_taking, start, lawTk, encSO, encS, qf, hk, hk0, q1, ht, ixy, ixo, hl]
        · have q1 := q false
          simp at q1
          cases ht : lawTaken L 2 1 (-((k : Int) + 1)) false <;> simp [ht] at q1 <;> by_cases hl : L.y = [108, 97, 115, 116] <;> simp [b__law_taking, start, lawTk, encSO, encS, qf, hk, hk0, q1, ht, ixy, ixo, hl]
        · have q1 := q false
          simp at q1
          cases ht : lawTaken L 2 2 (-((k : Int) + 1)) false <;> simp [ht] at q1 <;> by_cases hl : L.y = [108, 97, 115, 116] <;> simp [b__law_taking, start, lawTk, encSO, encS, qf, hk, hk0, q1, ht, ixy, ixo, hl]
      · rcases hx3 with rfl | rfl | rfl <;> cases jn <;> simp [b__law_taking, start, lawTk, encSO, encS, qf, hk, hk0]
      · rcases hx3 with rfl | rfl | rfl <;> cases jn <;> simp [b__law_taking, start, lawTk, encSO, encS, qf, hk, hk0]
  · by_cases m0 : m = 0
    · simp [b__law_taking, start, lawTk, encSO, encS, m0]
    · simp [b__law_taking, start, lawTk, encSO, encS, m0]
  · by_cases m0 : m = 0
    · rcases hx3 with rfl | rfl | rfl <;> simp [b__law_taking, start, lawTk, encSO, encS, m0]
    · simp [b__law_taking, start, lawTk, encSO, encS, m0]
end
end DL
end S_Tl
section S_Tm
set_option linter.all false
set_option maxRecDepth 1000000
set_option maxHeartbeats 4000000
/-! Tm: both ways of reading what is taken agree: looked through layer by layer. -/
namespace DL
def codA : Option (Nat × Nat) → Nat
  | none => 0
  | some (a, b) => 1 + a + 5 * b
def codT : Option LS → Nat
  | none => 0
  | some (a, b, c, d) => 1 + a + 5 * (b + 4 * ((bif c then 1 else 0) + 2 * d))
abbrev PT := Option (Nat × Nat) × Option LS
def codP (p : PT) : Nat := codA p.1 + 32 * codT p.2
def stA (L : Ly) (c : Option (Nat × Nat)) (x m : Nat) : Option (Nat × Nat) := match c with
  | some (a, b) => tkA L a b x m
  | none => none
def stT (L : Ly) (c : Option LS) (x m : Nat) : Option LS := match c with
  | some (a, b, c, d) => lawTk L a b c d x m
  | none => none
def stepP (L : Ly) (p : PT) (x m : Nat) : PT := (stA L p.1 x m, stT L p.2 x m)
def accA : Option (Nat × Nat) → Bool
  | some (a, _) => Nat.ble 3 a
  | none => false
def accT : Option LS → Bool
  | some (a, _) => Nat.ble 3 a
  | none => false
def vldA : Option (Nat × Nat) → Bool
  | some (a, b) => Nat.ble a 4 && Nat.ble b 3
  | none => true
def vldT : Option LS → Bool
  | some (a, b, _, d) => Nat.ble a 4 && (Nat.ble b 3 && Nat.ble d 2)
  | none => true
def vldP (p : PT) : Bool := vldA p.1 && (vldT p.2 && (accA p.1 == accT p.2))
theorem codA_inj {a b : Option (Nat × Nat)} (ha : vldA a = true) (hb : vldA b = true) (h : codA a = codA b) : a = b := by
  cases a with
  | none => cases b with
    | none => rfl
    | some q => obtain ⟨q1, q2⟩ := q; simp [codA] at h; omega
  | some p =>
    obtain ⟨p1, p2⟩ := p
    cases b with
    | none => simp [codA] at h
    | some q =>
      obtain ⟨q1, q2⟩ := q
      simp [codA, vldA] at h ha hb
      have : p1 = q1 := by omega
      have : p2 = q2 := by omega
      subst_vars; rfl
theorem codA_lt {a : Option (Nat × Nat)} (ha : vldA a = true) : codA a < 32 := by
  cases a with
  | none => simp [codA]
  | some p =>
    obtain ⟨p1, p2⟩ := p
    simp [codA, vldA] at ha ⊢
    omega
theorem codT_inj {a b : Option LS} (ha : vldT a = true) (hb : vldT b = true) (h : codT a = codT b) : a = b := by
  cases a with
  | none => cases b with
    | none => rfl
    | some q => obtain ⟨q1, q2, q3, q4⟩ := q; simp [codT] at h; omega
  | some p =>
    obtain ⟨p1, p2, p3, p4⟩ := p
    cases b with
    | none => simp [codT] at h
    | some q =>
      obtain ⟨q1, q2, q3, q4⟩ := q
      simp [codT, vldT] at h ha hb
      have : p1 = q1 := by omega
      cases p3 <;> cases q3 <;> simp at h
      · have : p2 = q2 := by omega
        have : p4 = q4 := by omega
        subst_vars; rfl
      · omega
      · omega
      · have : p2 = q2 := by omega
        have : p4 = q4 := by omega
        subst_vars; rfl
theorem codP_inj {a b : PT} (ha : vldP a = true) (hb : vldP b = true) (h : codP a = codP b) : a = b := by
  unfold vldP at ha hb
  simp only [Bool.and_eq_true] at ha hb
  unfold codP at h
  have l1 := codA_lt ha.1
  have l2 := codA_lt hb.1
  exact Prod.ext (codA_inj ha.1 hb.1 (by omega)) (codT_inj ha.2.1 hb.2.1 (by omega))
structure SS where
  todo : List PT
  s : List PT
  b : Nat
  ok : Bool
def pushP (p : PT) (st : SS) : SS := bif Nat.testBit st.b (codP p) && vldP p then st else ⟨p :: st.todo, p :: st.s, Nat.lor st.b (Nat.shiftLeft 1 (codP p)), st.ok && vldP p⟩
def letsP : List (Nat × Nat) := [(0, 0), (0, 1), (0, 2), (0, 3), (1, 0), (1, 1), (1, 2), (1, 3), (2, 0), (2, 1), (2, 2), (2, 3)]
def pushL (L : Ly) (p : PT) : List (Nat × Nat) → SS → SS
  | [], st => st
  | l :: r, st => pushL L p r (pushP (stepP L p l.1 l.2) st)
def explP (L : Ly) : Nat → SS → SS
  | 0, st => ⟨st.todo, st.s, st.b, false⟩
  | f + 1, st => match st.todo with
    | [] => st
    | p :: r => explP L f (pushL L p letsP ⟨r, st.s, st.b, st.ok⟩)
def startP : PT := (some (0, 0), some (0, 0, false, 0))
def goP (L : Ly) : Bool := (fun st : SS => st.ok && Nat.ble st.s.length 40) (explP L 61 (pushP startP ⟨[], [], 0, true⟩))
/-- what holds on the way -/
structure SInv (L : Ly) (st : SS) (todo : List PT) : Prop where
  v : st.ok = true → ∀ p ∈ st.s, vldP p = true
  b : ∀ c, Nat.testBit st.b c = true ↔ ∃ p ∈ st.s, codP p = c
  t : ∀ p ∈ todo, p ∈ st.s
  d : st.ok = true → ∀ p ∈ st.s, p ∉ todo → ∀ l ∈ letsP, stepP L p l.1 l.2 ∈ st.s
theorem testBit_set (b c i : Nat) : Nat.testBit (Nat.lor b (Nat.shiftLeft 1 c)) i = (Nat.testBit b i || decide (i = c)) := by
  show Nat.testBit (b ||| (1 <<< c)) i = _
  rw [Nat.testBit_or, Nat.testBit_shiftLeft]
  have one : ∀ j, Nat.testBit 1 j = decide (j = 0) := fun j => by
    cases j with
    | zero => rfl
    | succ j => simp [Nat.testBit_succ]
  rw [one]
  congr 1
  by_cases h : i = c
  · subst h; simp
  · rw [decide_eq_false h]
    by_cases h2 : c ≤ i
    · have : i - c ≠ 0 := by omega
      simp [this]
    · simp [h2]
theorem push_in {p : PT} {st : SS} (hb : ∀ c, Nat.testBit st.b c = true ↔ ∃ p ∈ st.s, codP p = c) (hv : (pushP p st).ok = true → st.ok = true → ∀ p ∈ st.s, vldP p = true) : (pushP p st).ok = true → p ∈ (pushP p st).s := by
  intro hok
  unfold pushP at hok hv ⊢
  cases h : Nat.testBit st.b (codP p) && vldP p with
  | true =>
    rw [h] at hok hv
    simp only [cond_true] at hok hv ⊢
    rw [Bool.and_eq_true] at h
    obtain ⟨q, hq, e⟩ := (hb _).mp h.1
    rw [← codP_inj (hv hok hok q hq) h.2 e]
    exact hq
  | false => simp
theorem push_mono {p : PT} {st : SS} : (∀ q ∈ st.s, q ∈ (pushP p st).s) ∧ ((pushP p st).ok = true → st.ok = true) ∧ (∀ q ∈ st.todo, q ∈ (pushP p st).todo) ∧ (∀ q ∈ (pushP p st).s, q ∈ st.s ∨ q ∈ (pushP p st).todo) := by
  unfold pushP
  cases h : Nat.testBit st.b (codP p) && vldP p with
  | true => exact ⟨fun q hq => hq, fun h => h, fun q hq => hq, fun q hq => .inl hq⟩
  | false =>
    refine ⟨fun q hq => List.mem_cons_of_mem _ hq, fun h => ?_, fun q hq => List.mem_cons_of_mem _ hq, fun q hq => ?_⟩
    · simp at h; exact h.1
    · rcases List.mem_cons.mp hq with rfl | hq
      · exact .inr (List.mem_cons_self ..)
      · exact .inl hq
/-- while the letters of p are gone through: everything else is closed -/
structure SMid (L : Ly) (p : PT) (st : SS) (done : List (Nat × Nat)) : Prop where
  v : st.ok = true → ∀ q ∈ st.s, vldP q = true
  b : ∀ c, Nat.testBit st.b c = true ↔ ∃ q ∈ st.s, codP q = c
  t : ∀ q ∈ st.todo, q ∈ st.s
  d : st.ok = true → ∀ q ∈ st.s, q ∉ st.todo → q ≠ p → ∀ l ∈ letsP, stepP L q l.1 l.2 ∈ st.s
  p : st.ok = true → ∀ l ∈ done, stepP L p l.1 l.2 ∈ st.s
theorem pushP_b {p : PT} {st : SS} (hb : ∀ c, Nat.testBit st.b c = true ↔ ∃ q ∈ st.s, codP q = c) : ∀ c, Nat.testBit (pushP p st).b c = true ↔ ∃ q ∈ (pushP p st).s, codP q = c := by
  unfold pushP
  cases h : Nat.testBit st.b (codP p) && vldP p with
  | true => exact hb
  | false =>
    intro c
    simp only [cond_false]
    rw [testBit_set, Bool.or_eq_true, hb, decide_eq_true_eq]
    constructor
    · rintro (⟨q, hq, e⟩ | rfl)
      · exact ⟨q, List.mem_cons_of_mem _ hq, e⟩
      · exact ⟨p, List.mem_cons_self .., rfl⟩
    · rintro ⟨q, hq, e⟩
      rcases List.mem_cons.mp hq with rfl | hq
      · exact .inr e.symm
      · exact .inl ⟨q, hq, e⟩
theorem pushP_v {p : PT} {st : SS} (hv : st.ok = true → ∀ q ∈ st.s, vldP q = true) : (pushP p st).ok = true → ∀ q ∈ (pushP p st).s, vldP q = true := by
  unfold pushP
  cases h : Nat.testBit st.b (codP p) && vldP p with
  | true => exact hv
  | false =>
    intro hok q hq
    simp only [cond_false, Bool.and_eq_true] at hok hq
    rcases List.mem_cons.mp hq with rfl | hq
    · exact hok.2
    · exact hv hok.1 q hq
theorem pushP_t {p : PT} {st : SS} (ht : ∀ q ∈ st.todo, q ∈ st.s) : ∀ q ∈ (pushP p st).todo, q ∈ (pushP p st).s := by
  unfold pushP
  cases h : Nat.testBit st.b (codP p) && vldP p with
  | true => exact ht
  | false =>
    intro q hq
    simp only [cond_false] at hq ⊢
    rcases List.mem_cons.mp hq with rfl | hq
    · exact List.mem_cons_self ..
    · exact List.mem_cons_of_mem _ (ht q hq)
theorem SMid.push {L : Ly} {p : PT} {st : SS} {done : List (Nat × Nat)} (h : SMid L p st done) (l : Nat × Nat) : SMid L p (pushP (stepP L p l.1 l.2) st) (l :: done) := by
  obtain ⟨m1, m2, m3, m4⟩ := push_mono (p := stepP L p l.1 l.2) (st := st)
  refine ⟨pushP_v h.v, pushP_b h.b, pushP_t h.t, fun hok q hq hn hp l' hl' => ?_, fun hok l' hl' => ?_⟩
  · rcases m4 q hq with z | z
    · exact m1 _ (h.d (m2 hok) q z (fun w => hn (m3 q w)) hp l' hl')
    · exact absurd z hn
  · rcases List.mem_cons.mp hl' with rfl | hl'
    · exact push_in h.b (fun _ ho => h.v ho) hok
    · exact m1 _ (h.p (m2 hok) l' hl')
theorem SMid.pushL {L : Ly} {p : PT} : ∀ (ls : List (Nat × Nat)) {st : SS} {done : List (Nat × Nat)}, SMid L p st done → SMid L p (pushL L p ls st) (ls.reverse ++ done)
  | [], _, _, h => h
  | l :: r, st, done, h => by
    have := SMid.pushL r (h.push l)
    rw [List.reverse_cons, List.append_assoc]
    exact this
theorem explP_inv {L : Ly} : ∀ (f : Nat) (st : SS), SInv L st st.todo → SInv L (explP L f st) (explP L f st).todo ∧ ((explP L f st).ok = true → (explP L f st).todo = []) ∧ (∀ q ∈ st.s, q ∈ (explP L f st).s)
  | 0, st, h => ⟨⟨fun z => by simp [explP] at z, h.b, h.t, fun z => by simp [explP] at z⟩, fun z => by simp [explP] at z, fun q hq => hq⟩
  | f + 1, st, h => by
    rw [explP]
    cases ht : st.todo with
    | nil => exact ⟨h, fun _ => ht, fun q hq => hq⟩
    | cons p r =>
      rw [ht] at h
      simp only
      have m0 : SMid L p ⟨r, st.s, st.b, st.ok⟩ [] := ⟨h.v, h.b, fun q hq => h.t q (List.mem_cons_of_mem _ hq), fun hok q hq hn hp => h.d hok q hq fun z => (List.mem_cons.mp z).elim hp hn, fun _ l hl => by cases hl⟩
      have m1 := m0.pushL letsP
      have i1 : SInv L (pushL L p letsP ⟨r, st.s, st.b, st.ok⟩) (pushL L p letsP ⟨r, st.s, st.b, st.ok⟩).todo := ⟨m1.v, m1.b, m1.t, fun hok q hq hn l hl => by
        by_cases e : q = p
        · subst e
          exact m1.p hok l (by simpa using hl)
        · exact m1.d hok q hq hn e l hl⟩
      obtain ⟨a1, a2, a3⟩ := explP_inv f _ i1
      have mono : ∀ (ls : List (Nat × Nat)) (st : SS), ∀ q ∈ st.s, q ∈ (pushL L p ls st).s := fun ls => by
        induction ls with
        | nil => exact fun st q hq => hq
        | cons l ls ih => exact fun st q hq => ih _ q (push_mono.1 q hq)
      exact ⟨a1, a2, fun q hq => a3 q (mono letsP ⟨r, st.s, st.b, st.ok⟩ q hq)⟩
/-- pairs of states that go together -/
structure Pairs (L : Ly) (S : List PT) : Prop where
  start : startP ∈ S
  step : ∀ p ∈ S, ∀ x m, x < 3 → m < 4 → stepP L p x m ∈ S
  ok : ∀ p ∈ S, vldP p = true
  few : S.length ≤ 40
theorem goP_pairs {L : Ly} (h : goP L = true) : ∃ S, Pairs L S := by
  unfold goP at h
  simp only [Bool.and_eq_true] at h
  have b0 : ∀ c, Nat.testBit (⟨[], [], 0, true⟩ : SS).b c = true ↔ ∃ q ∈ (⟨[], [], 0, true⟩ : SS).s, codP q = c := fun c => by simp
  have i0 : SInv L (pushP startP ⟨[], [], 0, true⟩) (pushP startP ⟨[], [], 0, true⟩).todo := by
    refine ⟨pushP_v (fun _ q hq => by cases hq), pushP_b b0, pushP_t (fun q hq => by cases hq), fun hok q hq hn => ?_⟩
    rcases push_mono.2.2.2 q hq with z | z
    · cases z
    · exact absurd z hn
  obtain ⟨a1, a2, a3⟩ := explP_inv (L := L) 61 _ i0
  generalize hst : explP L 61 (pushP startP ⟨[], [], 0, true⟩) = st at h a1 a2 a3
  have ht := a2 h.1
  refine ⟨st.s, a3 _ (push_in b0 (fun _ _ q hq => by cases hq) (by decide)), fun p hp x m hx hm => ?_, a1.v h.1, Nat.le_of_ble_eq_true h.2⟩
  have hl : (x, m) ∈ letsP := by
    match x, hx with
    | 0, _ => match m, hm with
      | 0, _ => decide
      | 1, _ => decide
      | 2, _ => decide
      | 3, _ => decide
    | 1, _ => match m, hm with
      | 0, _ => decide
      | 1, _ => decide
      | 2, _ => decide
      | 3, _ => decide
    | 2, _ => match m, hm with
      | 0, _ => decide
      | 1, _ => decide
      | 2, _ => decide
      | 3, _ => decide
  exact a1.d h.1 p hp (by rw [ht]; simp) (x, m) hl
end DL
end S_Tm
section S_Tn
set_option linter.all false
set_option maxRecDepth 1000000
set_option maxHeartbeats 4000000
/-! Tn: the look through all layers. -/
namespace DL
def goC (i : Nat) : Bool := ((allLy.drop (40 * i)).take 40).all goP
theorem go_0 : goC 0 = true := by decide +kernel
theorem go_1 : goC 1 = true := by decide +kernel
theorem go_2 : goC 2 = true := by decide +kernel
theorem go_3 : goC 3 = true := by decide +kernel
theorem go_4 : goC 4 = true := by decide +kernel
theorem go_5 : goC 5 = true := by decide +kernel
theorem go_6 : goC 6 = true := by decide +kernel
theorem go_7 : goC 7 = true := by decide +kernel
theorem go_8 : goC 8 = true := by decide +kernel
theorem go_9 : goC 9 = true := by decide +kernel
theorem go_10 : goC 10 = true := by decide +kernel
theorem go_11 : goC 11 = true := by decide +kernel
theorem go_12 : ((allLy.drop 480).take 33).all goP = true := by decide +kernel
theorem adds : allLy.drop 513 = ((allLy.drop 1).take 256).map (fun L => { L with w := tAdd }) := by decide +kernel
end DL
end S_Tn
section S_Mc
set_option linter.all false
set_option maxRecDepth 1000000
set_option maxHeartbeats 4000000
/-! Mc: machines, plans, kinds: what the functions come to. -/
namespace DL
/-! ### plans, kinds: looked through -/
def pA (p : List Nat) (s x : Nat) : Option Nat :=
  if x = 1 then (if s = 2 then some 2 else none)
  else if x = 0 then (if (s = 2 ∧ (p = [98, 101, 104, 105, 110, 100] ∨ p = [102, 114, 111, 110, 116])) ∨ (s = 3 ∧ p ≠ [97, 110, 121]) then none else some 2)
  else if s < 2 then (if s = 1 ∨ (p = [102, 114, 111, 110, 116] ∨ p = [97, 110, 121]) then some 1 else none)
  else if s = 3 ∨ (p = [98, 101, 104, 105, 110, 100] ∨ p = [112, 97, 99, 107, 101, 100] ∨ p = [97, 110, 121]) then some 3 else none
def pE (p : List Nat) (s : Nat) : Bool := decide (1 < s) || (decide (s = 1) && decide (p = [97, 110, 121]))
def lS (p : List Nat) (s x : Nat) : Option Nat :=
  if x = 1 then (if s = 1 then some 1 else none)
  else if x = 0 then (if s = 0 ∨ (s = 1 ∧ (p = [106, 111, 105, 110, 101, 100] ∨ p = [112, 97, 99, 107, 101, 100] ∨ p = [97, 110, 121])) ∨ (s = 2 ∧ (p = [102, 114, 111, 110, 116] ∨ p = [97, 110, 121])) then some 1 else none)
  else if (s = 0 ∧ (p = [102, 114, 111, 110, 116] ∨ p = [97, 110, 121])) ∨ (s = 1 ∧ (p = [98, 101, 104, 105, 110, 100] ∨ p = [112, 97, 99, 107, 101, 100] ∨ p = [97, 110, 121])) ∨ s = 2 then some 2 else none
def lE (p : List Nat) (s : Nat) : Bool := decide (s = 1) || (decide (s = 2) && decide (p = [98, 101, 104, 105, 110, 100] ∨ p = [112, 97, 99, 107, 101, 100] ∨ p = [97, 110, 121]))
def kA (k : List Nat) (ph : Nat) (j : Bool) (x m : Nat) : Option (Nat × Bool) :=
  let still := j && decide (x = 1)
  if m = 0 then some (ph, still && decide (ph = 1 ∨ ph = 2))
  else if m = 3 ∨ ph = 3 ∨ ph = m ∨ (m = 1 ∧ x = 2) then none
  else if m = 2 ∧ ((k = [102, 105, 108, 108, 105, 110, 103] ∧ x ≠ 2) ∨ ((k = [111, 116, 104, 101, 114] ∨ k = [101, 97, 114, 108, 105, 101, 114]) ∧ x = 2)) then none
  else if ph = 0 then (if k = (if m = 1 then [101, 97, 114, 108, 105, 101, 114] else [108, 97, 116, 101, 114]) then none else some (m, decide (x ≠ 2)))
  else if k = [108, 97, 116, 101, 114] ∨ k = [101, 97, 114, 108, 105, 101, 114] then (if still then some (3, false) else none)
  else if still then none else some (3, false)
def encK : Option (Nat × Bool) → VV
  | none => .non
  | some (a, b) => .tup [.int (a : Nat), .bl b]
def lF (k : List Nat) (met : Nat) (j : Bool) (f x m : Nat) : Option (Nat × Bool × Nat) :=
  if met = 3 ∨ m = 3 then (if m = 0 then some (met, j, f) else none)
  else if met = 0 then (if m = 0 then some (met, j, f) else some (m, decide (x ≠ 2), x))
  else
    let jn := j && decide (x = 1)
    if m = 0 ∨ m = met then (if m = 0 then some (met, jn, f) else none)
    else
      let mine := if met = 1 then f else x
      let its := if met = 1 then x else f
      let right := if k = [108, 97, 116, 101, 114] ∨ k = [101, 97, 114, 108, 105, 101, 114] then jn && decide (met = if k = [108, 97, 116, 101, 114] then 1 else 2)
        else !jn && (decide (k = [115, 116, 114, 97, 110, 103, 101]) || (decide (its = 2) == decide (k = [102, 105, 108, 108, 105, 110, 103])))
      if mine ≠ 2 ∧ right = true then some (3, false, 0) else none
def encF : Option (Nat × Bool × Nat) → VV
  | none => .tup []
  | some (a, b, c) => .tup [.int (a : Nat), .bl b, .int (c : Nat)]
def encJ : Option Nat → VV
  | none => .int (-1)
  | some k => .int (k : Nat)
def isV (v : VV) (r : R VV) : Bool := match r with
  | .ok u [] => VV.beq u v
  | _ => false
theorem isV_eq {v : VV} {r : R VV} (h : isV v r = true) : r = .ok v [] := by
  unfold isV at h
  split at h
  · rw [VV.eq_of_beq h]
  · cases h
def chkPlan (p : List Nat) : Bool := ((List.range 4).all fun s => isV (.bl (pE p s)) (f_plan_may_end [.str p, .int (s : Nat)] []) && (List.range 3).all fun x => isV (encI (pA p s x)) (f_plan_after [.str p, .int (s : Nat), .int (x : Nat)] [])) &&
  ((List.range 3).all fun s => isV (.bl (lE p s)) (f__law_ends [.str p, .int (s : Nat)] []) && (List.range 3).all fun x => isV (encJ (lS p s x)) (f__law_stage [.str p, .int (s : Nat), .int (x : Nat)] []))
theorem chk_plan : planSS.all chkPlan = true := by decide +kernel
def chkKind (k : List Nat) : Bool := (List.range 4).all fun ph => [false, true].all fun j => (List.range 3).all fun x => (List.range 4).all fun m => isV (encK (kA k ph j x m)) (f_kind_after [.str k, encK (some (ph, j)), .int (x : Nat), .int (m : Nat)] [])
theorem chk_kind : kindSS.all chkKind = true := by decide +kernel
def chkFor (k : List Nat) : Bool := (List.range 4).all fun ph => [false, true].all fun j => (List.range 3).all fun f => (List.range 3).all fun x => (List.range 4).all fun m => isV (encF (lF k ph j f x m)) (f__law_foreign [.str k, encF (some (ph, j, f)), .int (x : Nat), .int (m : Nat)] [])
theorem chk_for : kindSS.all chkFor = true := by decide +kernel
end DL
end S_Mc
section S_Md
set_option linter.all false
set_option maxRecDepth 1000000
set_option maxHeartbeats 4000000
/-! Md: plans and kinds: both ways of reading agree. -/
namespace DL
abbrev PP := Option Nat × Option Nat
def stPl (p : List Nat) (q : PP) (x : Nat) : PP := (q.1.bind fun s => pA p s x, q.2.bind fun s => lS p s x)
def accPl (p : List Nat) (q : PP) : Bool := (match q.1 with | some s => pE p s | none => false) == (match q.2 with | some s => lE p s | none => false)
def vldPl (q : PP) : Bool := (match q.1 with | some s => Nat.ble s 3 | none => true) && (match q.2 with | some s => Nat.ble s 2 | none => true)
def growPl (p : List Nat) : Nat → List PP → List PP
  | 0, S => S
  | n + 1, S => growPl p n (S ++ S.flatMap fun q => (List.range 3).map fun x => stPl p q x).eraseDups
def plS (p : List Nat) : List PP := growPl p 5 [(some 0, some 0)]
def okPl (p : List Nat) : Bool := (plS p).contains (some 0, some 0) && (plS p).all fun q => vldPl q && (accPl p q && (List.range 3).all fun x => (plS p).contains (stPl p q x))
theorem pl_ok : planSS.all okPl = true := by decide +kernel
abbrev KP := Option (Nat × Bool) × Option (Nat × Bool × Nat)
def stKd (k : List Nat) (q : KP) (x m : Nat) : KP := (q.1.bind fun s => kA k s.1 s.2 x m, q.2.bind fun s => lF k s.1 s.2.1 s.2.2 x m)
def accKd (q : KP) : Bool := (match q.1 with | some s => decide (s.1 = 3) | none => false) == (match q.2 with | some s => decide (s.1 = 3) | none => false)
def vldKd (q : KP) : Bool := (match q.1 with | some s => Nat.ble s.1 3 | none => true) && (match q.2 with | some s => Nat.ble s.1 3 && Nat.ble s.2.2 2 | none => true)
def growKd (k : List Nat) : Nat → List KP → List KP
  | 0, S => S
  | n + 1, S => growKd k n (S ++ S.flatMap fun q => (List.range 3).flatMap fun x => (List.range 4).map fun m => stKd k q x m).eraseDups
def kdS (k : List Nat) : List KP := growKd k 4 [(some (0, false), some (0, false, 0))]
def okKd (k : List Nat) : Bool := (kdS k).contains (some (0, false), some (0, false, 0)) && ((kdS k).all fun q => vldKd q && (accKd q && (List.range 3).all fun x => (List.range 4).all fun m => (kdS k).contains (stKd k q x m))) && Nat.ble (kdS k).length 60
theorem kd_ok : kindSS.all okKd = true := by decide +kernel
end DL
end S_Md
section S_Me
set_option linter.all false
set_option maxRecDepth 100000
set_option maxHeartbeats 4000000
/-! Me: machines: what the functions come to. -/
namespace DL
theorem ix_nat {xs : List VV} {i : Nat} (h : i < xs.length) (G : Hv) : oIx G (.tup xs) (.int (i : Nat)) = some ((xs[i]?).getD .non) := by
  have h' : (i : Int) < xs.length := by omega
  simp [oIx, asSeq, atI, ixN, h', h]
abbrev Mc := List (List (Option Nat) × Bool)
def rowV (r : List (Option Nat) × Bool) : VV := .tup (r.1.map encI ++ [.bl r.2])
def encM (M : Mc) : List VV := M.map rowV
/-- a machine that is one -/
structure MOk (M : Mc) : Prop where
  len : ∀ r ∈ M, r.1.length = 12
  bnd : ∀ r ∈ M, ∀ o ∈ r.1, ∀ k, o = some k → k < M.length
  ne : 0 < M.length
  few : M.length ≤ 40
def mN (M : Mc) (i j : Nat) : Option Nat := match M[i]? with
  | some r => (match r.1[j]? with
    | some o => o
    | none => none)
  | none => none
def mB (M : Mc) (i : Nat) : Bool := match M[i]? with
  | some r => r.2
  | none => false
def accO (M : Mc) : Option Nat → Bool
  | some i => mB M i
  | none => false
theorem mN_lt {M : Mc} (h : MOk M) {i j k : Nat} (e : mN M i j = some k) : k < M.length := by
  unfold mN at e
  cases hr : M[i]? with
  | none => rw [hr] at e; cases e
  | some r =>
    rw [hr] at e
    cases ho : r.1[j]? with
    | none => simp [ho] at e
    | some o =>
      simp [ho] at e
      exact h.bnd r (List.mem_of_getElem? hr) o (List.mem_of_getElem? ho) k e
theorem ixM {M : Mc} {i : Nat} (h : i < M.length) (G : Hv) : ∃ r, M[i]? = some r ∧ r ∈ M ∧ oIx G (.tup (encM M)) (.int (i : Nat)) = some (rowV r) := by
  obtain ⟨r, hr⟩ : ∃ r, M[i]? = some r := ⟨_, List.getElem?_eq_getElem h⟩
  refine ⟨r, hr, List.mem_of_getElem? hr, ?_⟩
  rw [ix_nat (by simpa [encM] using h) G]
  simp [encM, hr]
theorem ixRow {r : List (Option Nat) × Bool} (h12 : r.1.length = 12) {j : Nat} (h : j < 12) (G : Hv) : ∃ o, r.1[j]? = some o ∧ oIx G (rowV r) (.int (j : Nat)) = some (encI o) := by
  obtain ⟨o, ho⟩ : ∃ o, r.1[j]? = some o := ⟨_, List.getElem?_eq_getElem (by omega)⟩
  refine ⟨o, ho, ?_⟩
  unfold rowV
  rw [ix_nat (by simp [h12]; omega) G, List.getElem?_append_left (by simp [h12]; omega)]
  simp [ho]
theorem ixEnd {r : List (Option Nat) × Bool} (h12 : r.1.length = 12) (G : Hv) : oIx G (rowV r) (.int (-1)) = some (.bl r.2) ∧ oIx G (rowV r) (.int 12) = some (.bl r.2) := by
  constructor
  · simp [oIx, asSeq, atI, ixN, rowV, h12]
  · simp [oIx, asSeq, atI, ixN, rowV, h12]
theorem closed_row (r : List (Option Nat) × Bool) (n : Nat) : closedV n (rowV r) = true := by
  have : ∀ L : List (Option Nat), closedL n (L.map encI ++ [.bl r.2]) = true := fun L => by
    induction L with
    | nil => simp
    | cons o L ih => simp [ih]
  simp [rowV, this]
theorem closed_M (n : Nat) : ∀ M : Mc, closedL n (encM M) = true
  | [] => by simp [encM]
  | r :: M => by
    have := closed_M n M
    unfold encM at this ⊢
    simp [this, closed_row]
section
variable {G : Hv} {M : Mc}
theorem after_eq (h : MOk M) {st : Option Nat} (hs : ∀ i, st = some i → i < M.length) {x m : Nat} (hx : x < 3) (hm : m < 4) : f_machine_after [.tup (encM M), encI st, .int (x : Nat), .int (m : Nat)] G = .ok (encI (st.bind fun i => mN M i (4 * x + m))) G := by
  refine dDef_cl rfl (by simp [closed_M]) (by simp) ⟨[], ?_⟩
  cases st with
  | none => simp [b_machine_after, start, encI]
  | some i =>
    obtain ⟨r, hr, hrm, e1⟩ := ixM (hs i rfl) []
    obtain ⟨o, ho, e2⟩ := ixRow (h.len r hrm) (j := 4 * x + m) (by omega) []
    have mo : MulOk 4 x := mulOkN (by decide) (by omega)
    have he : (4 : Int) * x + m = ((4 * x + m : Nat) : Int) := by omega
    rw [← he] at e2
    simp [b_machine_after, start, encI, e1, mo, e2, mN, hr, ho]
theorem acc_eq (h : MOk M) {st : Option Nat} (hs : ∀ i, st = some i → i < M.length) : f_is_accepting [.tup (encM M), encI st] G = .ok (.bl (accO M st)) G := by
  refine dDef_cl rfl (by simp [closed_M]) (by simp) ⟨[], ?_⟩
  cases st with
  | none => simp [b_is_accepting, start, encI, accO]
  | some i =>
    obtain ⟨r, hr, hrm, e1⟩ := ixM (hs i rfl) []
    have e2 := (ixEnd (h.len r hrm) []).1
    simp [b_is_accepting, start, encI, e1, e2, accO, mB, hr]
theorem lafter_eq (h : MOk M) {st : Option Nat} (hs : ∀ i, st = some i → i < M.length) {x m : Nat} (hx : x < 3) (hm : m < 4) : f__law_after [.tup (encM M), encJ st, .int (x : Nat), .int (m : Nat)] G = .ok (encJ (st.bind fun i => mN M i (4 * x + m))) G := by
  refine dDef_cl rfl (by cases st <;> simp [closed_M, encJ]) (by cases (st.bind fun i => mN M i (4 * x + m)) <;> simp [encJ]) ⟨[], ?_⟩
  cases st with
  | none => simp [b__law_after, start, encJ]
  | some i =>
    obtain ⟨r, hr, hrm, e1⟩ := ixM (hs i rfl) []
    obtain ⟨o, ho, e2⟩ := ixRow (h.len r hrm) (j := 4 * x + m) (by omega) []
    have mo : MulOk 4 x := mulOkN (by decide) (by omega)
    have he : (4 : Int) * x + m = ((4 * x + m : Nat) : Int) := by omega
    rw [← he] at e2
    have h0 : (0 : Int) ≤ i := by omega
    cases o <;> simp [encI] at e2 <;> simp [b__law_after, start, encJ, e1, mo, e2, mN, hr, ho, h0]
theorem lacc_eq (h : MOk M) {st : Option Nat} (hs : ∀ i, st = some i → i < M.length) : f__law_accepts [.tup (encM M), encJ st] G = .ok (.bl (accO M st)) G := by
  refine dDef_cl rfl (by cases st <;> simp [closed_M, encJ]) (by simp) ⟨[], ?_⟩
  cases st with
  | none => simp [b__law_accepts, start, encJ, accO]
  | some i =>
    obtain ⟨r, hr, hrm, e1⟩ := ixM (hs i rfl) []
    have e2 := (ixEnd (h.len r hrm) []).2
    have h0 : (0 : Int) ≤ i := by omega
    simp [b__law_accepts, start, encJ, e1, e2, accO, mB, hr, h0]
/-- a def within a def, its answer not an object -/
theorem cloFn_vr {np n : Nat} {b : DS} {cs vs : List VV} {v : VV} (h1 : vs.length = np) (hv : closedV 0 v = true) (e : ∃ E, b (vs.map some ++ (cs.map some ++ List.replicate (n - vs.length - cs.length) none)) G = .rt v (G ++ E)) : cloFn np n b cs vs G = .ok v G := by
  obtain ⟨E, e⟩ := e
  unfold cloFn
  rw [if_pos h1, e, outR_rt, gc_pure]
  exact closed_up _ hv
/-! plans and kinds, anywhere -/
theorem isV_at {k n : Nat} {b : DS} {vs : List VV} {v : VV} (h : isV v (dDef k n b vs []) = true) (hc : closedL 0 vs = true) (hv : closedV 0 v = true) : dDef k n b vs G = .ok v G := loc_val hc (isV_eq h) hv G
theorem plan_parts {p : List Nat} (hp : p ∈ planSS) : (∀ s x, s < 4 → x < 3 → f_plan_after [.str p, .int (s : Nat), .int (x : Nat)] G = .ok (encI (pA p s x)) G) ∧ (∀ s, s < 4 → f_plan_may_end [.str p, .int (s : Nat)] G = .ok (.bl (pE p s)) G) ∧
    (∀ s x, s < 3 → x < 3 → f__law_stage [.str p, .int (s : Nat), .int (x : Nat)] G = .ok (encJ (lS p s x)) G) ∧ (∀ s, s < 3 → f__law_ends [.str p, .int (s : Nat)] G = .ok (.bl (lE p s)) G) := by
  have c := List.all_eq_true.mp chk_plan p hp
  unfold chkPlan at c
  simp only [Bool.and_eq_true, List.all_eq_true, List.mem_range] at c
  obtain ⟨c1, c2⟩ := c
  refine ⟨fun s x hs hx => isV_at ((c1 s hs).2 x hx) (by simp) (by simp), fun s hs => isV_at (c1 s hs).1 (by simp) (by simp), fun s x hs hx => isV_at ((c2 s hs).2 x hx) (by simp) (by cases lS p s x <;> simp [encJ]), fun s hs => isV_at (c2 s hs).1 (by simp) (by simp)⟩
theorem kind_at {k : List Nat} (hk : k ∈ kindSS) {ph x m : Nat} {j : Bool} (h1 : ph < 4) (hx : x < 3) (hm : m < 4) : f_kind_after [.str k, encK (some (ph, j)), .int (x : Nat), .int (m : Nat)] G = .ok (encK (kA k ph j x m)) G := by
  have c := List.all_eq_true.mp chk_kind k hk
  unfold chkKind at c
  simp only [List.all_eq_true, List.mem_range] at c
  exact isV_at (c ph h1 j (by cases j <;> simp) x hx m hm) (by simp [encK]) (by cases kA k ph j x m <;> simp [encK])
theorem for_at {k : List Nat} (hk : k ∈ kindSS) {ph f x m : Nat} {j : Bool} (h1 : ph < 4) (hf : f < 3) (hx : x < 3) (hm : m < 4) : f__law_foreign [.str k, encF (some (ph, j, f)), .int (x : Nat), .int (m : Nat)] G = .ok (encF (lF k ph j f x m)) G := by
  have c := List.all_eq_true.mp chk_for k hk
  unfold chkFor at c
  simp only [List.all_eq_true, List.mem_range] at c
  exact isV_at (c ph h1 j (by cases j <;> simp) f hf x hx m hm) (by simp [encF]) (by cases lF k ph j f x m <;> simp [encF])
end
end DL
end S_Me
section S_Mf
set_option linter.all false
set_option maxRecDepth 100000
set_option maxHeartbeats 4000000
/-! Mf: the steps of the checker's searches. -/
namespace DL
/-! ### holds_layer -/
abbrev S1 := Nat × Nat × (Nat × Nat) × Nat × Option Nat
def enc1 : S1 → List VV
  | (s, met, (a, b), mine, its) => [.int (s : Nat), .int (met : Nat), .tup [.int (a : Nat), .int (b : Nat)], .int (mine : Nat), encI its]
def mk1 (p : List Nat) (L : Ly) (I O : Mc) (s met a b mine : Nat) (its : Option Nat) (x bits : Nat) : Option S1 :=
  match pA p s x, tkA L a b x (bits % 2 + bits / 4 * 2), mN I mine (4 * x + (bits / 4 + bits / 2 % 2 * 2)) with
  | some s', some r', some m' => some (s', met + bits, r', m', its.bind fun i => mN O i (4 * x + bits % 4))
  | _, _, _ => none
def step1 (p : List Nat) (L : Ly) (I O : Mc) : S1 → Nat → Nat → Option S1
  | (s, met, (a, b), mine, its), x, bits => if met &&& bits = 0 then mk1 p L I O s met a b mine its x bits else none
def wrong1 (p : List Nat) (I O : Mc) : S1 → Bool
  | (s, met, (a, _), mine, its) => decide (met = 7) && (pE p s && (decide (3 ≤ a) && (mB I mine && !accO O its)))
theorem eqv_non_ne : (∀ i, PD.eqv (.int i) .non = false) ∧ (∀ i, PD.eqv (.tup i) .non = false) ∧ (∀ i, PD.eqv (.bl i) .non = false) := ⟨fun _ => by rw [PD.eqv] <;> simp, fun _ => by rw [PD.eqv] <;> simp, fun _ => by rw [PD.eqv] <;> simp⟩
theorem inL_non (G : Hv) (xs : List VV) {ds : List PD} (h : mapO (toPD G 12) xs = some ds) : inL G .non xs = some (ds.any fun z => PD.eqv z .non) := by
  unfold inL
  rw [show DEPTH = 12 from rfl, h]
  rfl
theorem oBand_nat (a b : Nat) (G : Hv) : oBand (.int (a : Nat)) (.int (b : Nat)) G = some (.int ((a &&& b : Nat) : Int), G) := by
  unfold oBand
  simp
/-- states in their bounds -/
def Ok1 (I O : Mc) : S1 → Prop
  | (s, met, (a, b), mine, its) => s < 4 ∧ met < 8 ∧ a < 5 ∧ mine < I.length ∧ ∀ i, its = some i → i < O.length
section
variable {p : List Nat} {L : Ly} {I O M : Mc} {G : Hv} {r : Nat}
theorem st1_eq (hp : p ∈ planSS) (hr : G[r]? = some (partV L.v)) (he : 1 ≤ L.e) (hI : MOk I) (hO : MOk O) {st : S1} (ok : Ok1 I O st) {x bits : Nat} (hx : x < 3) (hb : bits < 8) :
    c_holds_layer_step [.ref r, .str p, .tup (encM I), .tup (encM O)] [.tup (enc1 st), .int (x : Nat), .int (bits : Nat)] G = .ok (encR enc1 .non (step1 p L I O st x bits)) G := by
  obtain ⟨s, met, ⟨a, b⟩, mine, its⟩ := st
  obtain ⟨hs, hmet, ha, hmine, hits⟩ := ok
  have q1 := (plan_parts (G := G) hp).1 s x hs hx
  have q2 := tkA_eq hr he (ph := a) (g := b) (x := x) (m := bits % 2 + bits / 4 * 2) ha hx (by omega)
  have q3 := after_eq (G := G) hI (st := some mine) (fun i e => by cases e; exact hmine) (x := x) (m := bits / 4 + bits / 2 % 2 * 2) hx (by omega)
  have q4 := after_eq (G := G) hO (st := its) hits (x := x) (m := bits % 4) hx (by omega)
  have t1 : ((bits % 2 + bits / 4 * 2 : Nat) : Int) = (bits : Int) % 2 + (bits : Int) / 4 * 2 := by omega
  have t2 : ((bits / 4 + bits / 2 % 2 * 2 : Nat) : Int) = (bits : Int) / 4 + (bits : Int) / 2 % 2 * 2 := by omega
  have t3 : ((bits % 4 : Nat) : Int) = (bits : Int) % 4 := by omega
  rw [t1] at q2
  rw [t2] at q3
  rw [t3] at q4
  have m1 : MulOk ((bits : Int) / 4) 2 := mulOkN (by omega) (by decide)
  have m2 : MulOk ((bits : Int) / 2 % 2) 2 := mulOkN (by omega) (by decide)
  have cut4 : ∀ a b c d e : VV, cut [a, b, c, d, e] none (some 4) = [a, b, c, d] := fun _ _ _ _ _ => rfl
  simp only [Option.bind_some, encI] at q3
  refine cloFn_vr rfl ?_ ⟨[], ?_⟩
  · cases step1 p L I O (s, met, (a, b), mine, its) x bits with
    | none => simp [encR]
    | some t => obtain ⟨_, _, ⟨_, _⟩, _, _⟩ := t; simp [encR, enc1]
  rw [List.append_nil]
  by_cases hz : met &&& bits = 0
  · simp only [step1, hz, if_true, mk1]
    cases h1 : pA p s x <;> cases h2 : tkA L a b x (bits % 2 + bits / 4 * 2) <;> cases h3 : mN I mine (4 * x + (bits / 4 + bits / 2 % 2 * 2)) <;> rw [h1] at q1 <;> rw [h2] at q2 <;> rw [h3] at q3 <;> simp only [encI, encP] at q1 q2 q3 <;>
      simp [b_holds_layer_step, enc1, encR, oBand_nat, hz, m1, m2, q1, q2, q3, q4, cut4, inL, eqv_non_ne]
  · have hz' : ¬ ((met &&& bits : Nat) : Int) = 0 := by omega
    simp [b_holds_layer_step, enc1, oBand_nat, hz, step1, encR]
theorem wr1_eq (hp : p ∈ planSS) (hI : MOk I) (hO : MOk O) {st : S1} (ok : Ok1 I O st) : c_holds_layer_is_wrong [.str p, .tup (encM I), .tup (encM O)] [.tup (enc1 st)] G = .ok (.bl (wrong1 p I O st)) G := by
  obtain ⟨s, met, ⟨a, b⟩, mine, its⟩ := st
  obtain ⟨hs, hmet, ha, hmine, hits⟩ := ok
  have q1 := (plan_parts (G := G) hp).2.1 s hs
  have q3 := acc_eq (G := G) hI (st := some mine) (fun i e => by cases e; exact hmine)
  have q4 := acc_eq (G := G) hO (st := its) hits
  simp only [encI] at q3
  refine cloFn_vr rfl (by simp) ⟨[], ?_⟩
  rw [List.append_nil]
  unfold wrong1
  by_cases h1 : met = 7
  · cases h2 : pE p s <;> rw [h2] at q1
    · simp [b_holds_layer_is_wrong, enc1, h1, h2, q1]
    · by_cases h3 : 3 ≤ a
      · have h3' : ¬ (a : Int) < 3 := by omega
        cases h4 : mB I mine <;> simp [accO, h4] at q3 <;> simp [b_holds_layer_is_wrong, enc1, h1, h2, h4, q1, h3, h3', q3, q4]
      · have h3' : (a : Int) < 3 := by omega
        simp [b_holds_layer_is_wrong, enc1, h1, q1, h3, h3']
  · have h1' : ¬ (met : Int) = 7 := by omega
    simp [b_holds_layer_is_wrong, enc1, h1, h1']
/-! ### holds_none -/
abbrev S2 := Nat × (Nat × Bool) × Nat
def enc2 : S2 → List VV
  | (s, (a, b), mine) => [.int (s : Nat), .tup [.int (a : Nat), .bl b], .int (mine : Nat)]
def mk2 (p k : List Nat) (M : Mc) (s a : Nat) (b : Bool) (mine x bits : Nat) : Option S2 :=
  match pA p s x, kA k a b x bits, mN M mine (4 * x + bits) with
  | some s', some r', some m' => some (s', r', m')
  | _, _, _ => none
def step2 (p k : List Nat) (M : Mc) : S2 → Nat → Nat → Option S2
  | (s, (a, b), mine), x, bits => if 3 < bits then none else mk2 p k M s a b mine x bits
def wrong2 (p : List Nat) (M : Mc) : S2 → Bool
  | (s, (a, _), mine) => decide (a = 3) && (pE p s && mB M mine)
def Ok2 (M : Mc) : S2 → Prop
  | (s, (a, _), mine) => s < 4 ∧ a < 4 ∧ mine < M.length
theorem st2_eq {k : List Nat} (hp : p ∈ planSS) (hk : k ∈ kindSS) (hM : MOk M) {st : S2} (ok : Ok2 M st) {x bits : Nat} (hx : x < 3) (hb : bits < 8) :
    c_holds_none_step [.str p, .str k, .tup (encM M)] [.tup (enc2 st), .int (x : Nat), .int (bits : Nat)] G = .ok (encR enc2 .non (step2 p k M st x bits)) G := by
  obtain ⟨s, ⟨a, b⟩, mine⟩ := st
  obtain ⟨hs, ha, hmine⟩ := ok
  refine cloFn_vr rfl ?_ ⟨[], ?_⟩
  · cases step2 p k M (s, (a, b), mine) x bits with
    | none => simp [encR]
    | some t => obtain ⟨_, ⟨_, _⟩, _⟩ := t; simp [encR, enc2]
  rw [List.append_nil]
  by_cases hz : 3 < bits
  · have hz' : (3 : Int) < bits := by omega
    simp [b_holds_none_step, enc2, hz, hz', step2, encR]
  · have q1 := (plan_parts (G := G) hp).1 s x hs hx
    have q2 := kind_at (G := G) hk (ph := a) (j := b) (x := x) (m := bits) ha hx (by omega)
    have q3 := after_eq (G := G) hM (st := some mine) (fun i e => by cases e; exact hmine) (x := x) (m := bits) hx (by omega)
    simp only [Option.bind_some, encI, encK] at q3 q2
    have hz' : ¬ (3 : Int) < bits := by omega
    simp only [step2, hz, if_false, mk2]
    cases h1 : pA p s x <;> cases h2 : kA k a b x bits <;> cases h3 : mN M mine (4 * x + bits) <;> rw [h1] at q1 <;> rw [h2] at q2 <;> rw [h3] at q3 <;> simp only [encI, encK] at q1 q2 q3 <;>
      simp [b_holds_none_step, enc2, encR, hz, hz', q1, q2, q3, inL, eqv_non_ne]
theorem wr2_eq (hp : p ∈ planSS) (hM : MOk M) {st : S2} (ok : Ok2 M st) : c_holds_none_is_wrong [.str p, .tup (encM M)] [.tup (enc2 st)] G = .ok (.bl (wrong2 p M st)) G := by
  obtain ⟨s, ⟨a, b⟩, mine⟩ := st
  obtain ⟨hs, ha, hmine⟩ := ok
  have q1 := (plan_parts (G := G) hp).2.1 s hs
  have q3 := acc_eq (G := G) hM (st := some mine) (fun i e => by cases e; exact hmine)
  simp only [encI, accO] at q3
  refine cloFn_vr rfl (by simp) ⟨[], ?_⟩
  rw [List.append_nil]
  unfold wrong2
  by_cases h1 : a = 3
  · cases h2 : pE p s <;> rw [h2] at q1 <;> simp [b_holds_none_is_wrong, enc2, h1, h2, q1, q3]
  · have h1' : ¬ (a : Int) = 3 := by omega
    simp [b_holds_none_is_wrong, enc2, h1, h1']
/-! ### the law: takes_all -/
abbrev S3 := Nat × LS × Option Nat
def enc3 : S3 → List VV
  | (s, t, m) => [.int (s : Nat), encS t, encJ m]
def step3 (p : List Nat) (L : Ly) (M : Mc) : S3 → Nat → Nat → Option S3
  | (s, (a, b, c, d), m), x, mark => match lS p s x, lawTk L a b c d x mark with
    | some s', some t' => some (s', t', m.bind fun i => mN M i (4 * x + mark))
    | _, _ => none
def wrong3 (p : List Nat) (M : Mc) : S3 → Bool
  | (s, (a, _), m) => lE p s && (decide (3 ≤ a) && !accO M m)
def Ok3 (M : Mc) : S3 → Prop
  | (s, (a, _, _, d), m) => s < 3 ∧ a < 5 ∧ d < 3 ∧ ∀ i, m = some i → i < M.length
theorem lyv_closed (L : Ly) (n : Nat) : closedV n L.v = true := closed_lyv L n
theorem st3_eq (hp : p ∈ planSS) (he : 1 ≤ L.e) (hM : MOk M) {st : S3} (ok : Ok3 M st) {x mark : Nat} (hx : x < 3) (hb : mark < 4) :
    c__law_takes_all__law_step [L.v, .str p, .tup (encM M)] [.tup (enc3 st), .int (x : Nat), .int (mark : Nat)] G = .ok (encR enc3 (.tup []) (step3 p L M st x mark)) G := by
  obtain ⟨s, ⟨a, b, c, d⟩, m⟩ := st
  obtain ⟨hs, ha, hd, hm⟩ := ok
  have q1 := (plan_parts (G := G) hp).2.2.1 s x hs hx
  have q2 := lawTk_eq (L := L) (G := G) he (met := a) (gap := b) (first := d) (jn := c) (x := x) (m := mark) ha hd hx hb
  have q3 := lafter_eq (G := G) hM (st := m) hm (x := x) (m := mark) hx hb
  have ix0 : ∀ (a b : VV) (A : Hv), oIx A (.tup [a, b]) (.int 0) = some a := fun _ _ _ => rfl
  have ix1 : ∀ (a b : VV) (A : Hv), oIx A (.tup [a, b]) (.int 1) = some b := fun _ _ _ => rfl
  have jx0 : ∀ (a b c : VV) (A : Hv), oIx A (.tup [a, b, c]) (.int 0) = some a := fun _ _ _ _ => rfl
  have jx1 : ∀ (a b c : VV) (A : Hv), oIx A (.tup [a, b, c]) (.int 1) = some b := fun _ _ _ _ => rfl
  have jx2 : ∀ (a b c : VV) (A : Hv), oIx A (.tup [a, b, c]) (.int 2) = some c := fun _ _ _ _ => rfl
  have ceq : ∀ (G : Hv) (xs : List VV), cEqT0 G (.tup xs) (.tup []) = some xs.isEmpty := fun _ _ => rfl
  refine cloFn_vr rfl ?_ ⟨[], ?_⟩
  · cases step3 p L M (s, (a, b, c, d), m) x mark with
    | none => simp [encR]
    | some t => obtain ⟨_, ⟨_, _, _, _⟩, m'⟩ := t; cases m' <;> simp [encR, enc3, encS, encJ]
  rw [List.append_nil]
  simp only [step3]
  cases h1 : lS p s x <;> cases h2 : lawTk L a b c d x mark <;> rw [h1] at q1 <;> rw [h2] at q2 <;> simp only [encJ, encSO] at q1 q2
  · simp [b__law_takes_all__law_step, enc3, encR, q1, q2, ix0, ix1, jx0, jx1, jx2]
  · simp [b__law_takes_all__law_step, enc3, encR, q1, q2, ix0, ix1, jx0, jx1, jx2]
  · have h0 : ∀ n : Nat, ¬ (n : Int) < 0 := fun n => by omega
    simp [b__law_takes_all__law_step, enc3, encR, q1, q2, ix0, ix1, jx0, jx1, jx2, ceq, h0]
  · have h0 : ∀ n : Nat, ¬ (n : Int) < 0 := fun n => by omega
    rename_i s' t'
    obtain ⟨t1, t2, t3, t4⟩ := t'
    simp only [encS] at q2
    simp [b__law_takes_all__law_step, enc3, encR, encS, q1, q2, q3, ix0, ix1, jx0, jx1, jx2, ceq, h0]
theorem wr3_eq (hp : p ∈ planSS) (hM : MOk M) {st : S3} (ok : Ok3 M st) : c__law_takes_all__law_wrong [.str p, .tup (encM M)] [.tup (enc3 st)] G = .ok (.bl (wrong3 p M st)) G := by
  obtain ⟨s, ⟨a, b, c, d⟩, m⟩ := st
  obtain ⟨hs, ha, hd, hm⟩ := ok
  have q1 := (plan_parts (G := G) hp).2.2.2 s hs
  have q3 := lacc_eq (G := G) hM (st := m) hm
  have jx0 : ∀ (a b c : VV) (A : Hv), oIx A (.tup [a, b, c]) (.int 0) = some a := fun _ _ _ _ => rfl
  have jx1 : ∀ (a b c : VV) (A : Hv), oIx A (.tup [a, b, c]) (.int 1) = some b := fun _ _ _ _ => rfl
  have jx2 : ∀ (a b c : VV) (A : Hv), oIx A (.tup [a, b, c]) (.int 2) = some c := fun _ _ _ _ => rfl
  have kx0 : ∀ (a b c d : VV) (A : Hv), oIx A (.tup [a, b, c, d]) (.int 0) = some a := fun _ _ _ _ _ => rfl
  refine cloFn_vr rfl (by simp) ⟨[], ?_⟩
  rw [List.append_nil]
  unfold wrong3
  cases h2 : lE p s <;> rw [h2] at q1
  · simp [b__law_takes_all__law_wrong, enc3, encS, q1, jx0, h2]
  · by_cases h3 : 3 ≤ a
    · have h3' : ¬ (a : Int) < 3 := by omega
      simp [b__law_takes_all__law_wrong, enc3, encS, q1, q3, jx0, jx1, jx2, kx0, h2, h3, h3']
    · have h3' : (a : Int) < 3 := by omega
      simp [b__law_takes_all__law_wrong, enc3, encS, q1, q3, jx0, jx1, jx2, kx0, h2, h3, h3']
/-! ### the law: has_none -/
abbrev S4 := Nat × (Nat × Bool × Nat) × Nat
def enc4 : S4 → List VV
  | (s, t, m) => [.int (s : Nat), encF (some t), .int (m : Nat)]
def step4 (p k : List Nat) (M : Mc) : S4 → Nat → Nat → Option S4
  | (s, (a, b, c), m), x, mark => match lS p s x, lF k a b c x mark, mN M m (4 * x + mark) with
    | some s', some t', some m' => some (s', t', m')
    | _, _, _ => none
def wrong4 (p : List Nat) (M : Mc) : S4 → Bool
  | (s, (a, _), m) => lE p s && (decide (a = 3) && mB M m)
def Ok4 (M : Mc) : S4 → Prop
  | (s, (a, _, c), m) => s < 3 ∧ a < 4 ∧ c < 3 ∧ m < M.length
theorem st4_eq {k : List Nat} (hp : p ∈ planSS) (hk : k ∈ kindSS) (hM : MOk M) {st : S4} (ok : Ok4 M st) {x mark : Nat} (hx : x < 3) (hb : mark < 4) :
    c__law_has_none__law_step [.str k, .str p, .tup (encM M)] [.tup (enc4 st), .int (x : Nat), .int (mark : Nat)] G = .ok (encR enc4 (.tup []) (step4 p k M st x mark)) G := by
  obtain ⟨s, ⟨a, b, c⟩, m⟩ := st
  obtain ⟨hs, ha, hc, hm⟩ := ok
  have q1 := (plan_parts (G := G) hp).2.2.1 s x hs hx
  have q2 := for_at (G := G) hk (ph := a) (f := c) (j := b) (x := x) (m := mark) ha hc hx hb
  have q3 := lafter_eq (G := G) hM (st := some m) (fun i e => by cases e; exact hm) (x := x) (m := mark) hx hb
  simp only [Option.bind_some, encJ, encF] at q3 q2
  have ix0 : ∀ (a b : VV) (A : Hv), oIx A (.tup [a, b]) (.int 0) = some a := fun _ _ _ => rfl
  have ix1 : ∀ (a b : VV) (A : Hv), oIx A (.tup [a, b]) (.int 1) = some b := fun _ _ _ => rfl
  have jx0 : ∀ (a b c : VV) (A : Hv), oIx A (.tup [a, b, c]) (.int 0) = some a := fun _ _ _ _ => rfl
  have jx1 : ∀ (a b c : VV) (A : Hv), oIx A (.tup [a, b, c]) (.int 1) = some b := fun _ _ _ _ => rfl
  have jx2 : ∀ (a b c : VV) (A : Hv), oIx A (.tup [a, b, c]) (.int 2) = some c := fun _ _ _ _ => rfl
  have ceq : ∀ (G : Hv) (xs : List VV), cEqT0 G (.tup xs) (.tup []) = some xs.isEmpty := fun _ _ => rfl
  have h0 : ∀ n : Nat, ¬ (n : Int) < 0 := fun n => by omega
  refine cloFn_vr rfl ?_ ⟨[], ?_⟩
  · cases step4 p k M (s, (a, b, c), m) x mark with
    | none => simp [encR]
    | some t => obtain ⟨_, ⟨_, _, _⟩, m'⟩ := t; simp [encR, enc4, encF]
  rw [List.append_nil]
  simp only [step4]
  cases h1 : lS p s x <;> cases h2 : lF k a b c x mark <;> cases h3 : mN M m (4 * x + mark) <;> rw [h1] at q1 <;> rw [h2] at q2 <;> rw [h3] at q3 <;> simp only [encJ, encF] at q1 q2 q3 <;>
    simp [b__law_has_none__law_step, enc4, encR, encF, q1, q2, q3, ix0, ix1, jx0, jx1, jx2, ceq, h0]
theorem wr4_eq (hp : p ∈ planSS) (hM : MOk M) {st : S4} (ok : Ok4 M st) : c__law_has_none__law_wrong [.str p, .tup (encM M)] [.tup (enc4 st)] G = .ok (.bl (wrong4 p M st)) G := by
  obtain ⟨s, ⟨a, b, c⟩, m⟩ := st
  obtain ⟨hs, ha, hc, hm⟩ := ok
  have q1 := (plan_parts (G := G) hp).2.2.2 s hs
  have q3 := lacc_eq (G := G) hM (st := some m) (fun i e => by cases e; exact hm)
  simp only [encJ, accO] at q3
  have jx0 : ∀ (a b c : VV) (A : Hv), oIx A (.tup [a, b, c]) (.int 0) = some a := fun _ _ _ _ => rfl
  have jx1 : ∀ (a b c : VV) (A : Hv), oIx A (.tup [a, b, c]) (.int 1) = some b := fun _ _ _ _ => rfl
  have jx2 : ∀ (a b c : VV) (A : Hv), oIx A (.tup [a, b, c]) (.int 2) = some c := fun _ _ _ _ => rfl
  refine cloFn_vr rfl (by simp) ⟨[], ?_⟩
  rw [List.append_nil]
  unfold wrong4
  cases h2 : lE p s <;> rw [h2] at q1
  · simp [b__law_has_none__law_wrong, enc4, encF, q1, jx0, h2]
  · by_cases h3 : a = 3
    · simp [b__law_has_none__law_wrong, enc4, encF, q1, q3, jx0, jx1, jx2, h2, h3]
    · have h3' : ¬ (a : Int) = 3 := by omega
      simp [b__law_has_none__law_wrong, enc4, encF, q1, q3, jx0, jx1, jx2, h2, h3, h3']
end
end DL
end S_Mf
section S_Mg
set_option linter.all false
set_option maxRecDepth 100000
set_option maxHeartbeats 4000000
/-! Mg: the searches of the checker and of the law, set up. -/
namespace DL
/-! ### states as values -/
theorem encOk1 : EncOk enc1 := ⟨fun s => by
  obtain ⟨s, met, ⟨a, b⟩, mine, its⟩ := s
  cases its with
  | none => exact ⟨_, rfl, by simp [depV, depL]⟩
  | some k => exact ⟨_, rfl, by simp [depV, depL]⟩, fun s t h => by
  obtain ⟨s, met, ⟨a, b⟩, mine, its⟩ := s
  obtain ⟨s', met', ⟨a', b'⟩, mine', its'⟩ := t
  cases its <;> cases its' <;> simp [enc1, encI, normV, normL] at h <;> simp <;> omega⟩
theorem b2n (b : Bool) : normV (.bl b) = some (.int (if b then 1 else 0)) := by rw [normV]
theorem encOk2 : EncOk enc2 := ⟨fun s => by
  obtain ⟨s, ⟨a, b⟩, mine⟩ := s
  exact ⟨_, rfl, by simp [depV, depL]⟩, fun s t h => by
  obtain ⟨s, ⟨a, b⟩, mine⟩ := s
  obtain ⟨s', ⟨a', b'⟩, mine'⟩ := t
  cases b <;> cases b' <;> simp [enc2, normV, normL] at h <;> simp <;> omega⟩
theorem encOk3 : EncOk enc3 := ⟨fun s => by
  obtain ⟨s, ⟨a, b, c, d⟩, m⟩ := s
  cases m with
  | none => exact ⟨_, rfl, by simp [depV, depL]⟩
  | some k => exact ⟨_, rfl, by simp [depV, depL]⟩, fun s t h => by
  obtain ⟨s, ⟨a, b, c, d⟩, m⟩ := s
  obtain ⟨s', ⟨a', b', c', d'⟩, m'⟩ := t
  cases c <;> cases c' <;> cases m <;> cases m' <;> simp [enc3, encS, encJ, normV, normL] at h <;> simp <;> omega⟩
theorem encOk4 : EncOk enc4 := ⟨fun s => by
  obtain ⟨s, ⟨a, b, c⟩, m⟩ := s
  exact ⟨_, rfl, by simp [depV, depL]⟩, fun s t h => by
  obtain ⟨s, ⟨a, b, c⟩, m⟩ := s
  obtain ⟨s', ⟨a', b', c'⟩, m'⟩ := t
  cases b <;> cases b' <;> simp [enc4, encF, normV, normL] at h <;> simp <;> omega⟩
theorem pA_lt {p : List Nat} {s x s' : Nat} (h : pA p s x = some s') : s' < 4 := by
  unfold pA at h
  repeat' split at h
  all_goals (first | cases h | skip)
  all_goals omega
theorem lS_lt {p : List Nat} {s x s' : Nat} (h : lS p s x = some s') : s' < 3 := by
  unfold lS at h
  repeat' split at h
  all_goals (first | cases h | skip)
  all_goals omega
theorem kA_lt {k : List Nat} {ph x m : Nat} {j : Bool} {r : Nat × Bool} (hp : ph < 4) (hm : m < 4) (h : kA k ph j x m = some r) : r.1 < 4 := by
  unfold kA at h
  simp only at h
  repeat' split at h
  all_goals (first | cases h | skip)
  all_goals (first | omega | (simp; omega) | simp)
theorem lF_lt {k : List Nat} {ph f x m : Nat} {j : Bool} {r : Nat × Bool × Nat} (hp : ph < 4) (hf : f < 3) (hx : x < 3) (hm : m < 4) (h : lF k ph j f x m = some r) : r.1 < 4 ∧ r.2.2 < 3 := by
  unfold lF at h
  simp only at h
  repeat' split at h
  all_goals (first | cases h | skip)
  all_goals (first | exact ⟨by omega, by omega⟩ | (refine ⟨?_, ?_⟩ <;> simp <;> omega) | simp)
theorem met_add : ∀ a, a < 8 → ∀ b, b < 8 → a &&& b = 0 → a + b < 8 := by decide
section
variable {p k : List Nat} {L : Ly} {I O M : Mc} {S : List PT}
theorem vld_A {S : List PT} (hS : Pairs L S) {a b : Nat} {t : Option LS} (h : (some (a, b), t) ∈ S) : a < 5 := by
  have := hS.ok _ h
  unfold vldP at this
  simp only [Bool.and_eq_true, vldA] at this
  have := Nat.le_of_ble_eq_true this.1.1
  omega
theorem vld_T {S : List PT} (hS : Pairs L S) {c : Option (Nat × Nat)} {a b d : Nat} {j : Bool} (h : (c, some (a, b, j, d)) ∈ S) : a < 5 ∧ d < 3 := by
  have := hS.ok _ h
  unfold vldP at this
  simp only [Bool.and_eq_true, vldT] at this
  have h1 := Nat.le_of_ble_eq_true this.2.1.1
  have h2 := Nat.le_of_ble_eq_true this.2.1.2.2
  omega
theorem acc_S {S : List PT} (hS : Pairs L S) {q : PT} (h : q ∈ S) : accA q.1 = accT q.2 := by
  have := hS.ok _ h
  unfold vldP at this
  simp only [Bool.and_eq_true, beq_iff_eq] at this
  exact this.2.2
/-- what is known of a reached state -/
def J1 (S : List PT) (I O : Mc) : S1 → Prop
  | (s, met, (a, b), mine, its) => Ok1 I O (s, met, (a, b), mine, its) ∧ ∃ t, (some (a, b), t) ∈ S
theorem mk1_some {s met a b mine x bits : Nat} {its : Option Nat} {t : S1} (h : step1 p L I O (s, met, (a, b), mine, its) x bits = some t) : met &&& bits = 0 ∧ ∃ s' a' b' m', pA p s x = some s' ∧ tkA L a b x (bits % 2 + bits / 4 * 2) = some (a', b') ∧ mN I mine (4 * x + (bits / 4 + bits / 2 % 2 * 2)) = some m' ∧ t = (s', met + bits, (a', b'), m', its.bind fun i => mN O i (4 * x + bits % 4)) := by
  simp only [step1] at h
  split at h
  · rename_i hz
    refine ⟨hz, ?_⟩
    unfold mk1 at h
    split at h
    · rename_i s' r' m' e1 e2 e3
      cases h
      exact ⟨s', r'.1, r'.2, m', e1, e2, e3, rfl⟩
    · cases h
  · cases h
theorem rc1 (hS : Pairs L S) (hI : MOk I) (hO : MOk O) : ∀ {s : S1}, Rc 8 (step1 p L I O) (0, 0, (0, 0), 0, some 0) s → J1 S I O s := fun {s} h => by
  induction h with
  | start => exact ⟨⟨by decide, by decide, by decide, hI.ne, fun i e => by cases e; exact hO.ne⟩, _, hS.start⟩
  | @step s t l b hs hl hb ht ih =>
    obtain ⟨s, met, ⟨a, g⟩, mine, its⟩ := s
    obtain ⟨⟨k1, k2, k3, k4, k5⟩, t0, k6⟩ := ih
    obtain ⟨hz, s', a', b', m', e1, e2, e3, rfl⟩ := mk1_some ht
    have st := hS.step _ k6 l (b % 2 + b / 4 * 2) hl (by omega)
    have e2' : stA L (some (a, g)) l (b % 2 + b / 4 * 2) = some (a', b') := e2
    simp only [stepP, e2'] at st
    refine ⟨⟨pA_lt e1, met_add _ k2 _ hb hz, vld_A hS st, mN_lt hI e3, fun i e => ?_⟩, _, st⟩
    cases its with
    | none => cases e
    | some j => exact mN_lt hO e
def all1 (S : List PT) (I O : Mc) : List S1 := (List.range 4).flatMap fun s => (List.range 8).flatMap fun met => (S.filterMap (·.1)).flatMap fun r => (List.range I.length).flatMap fun mine => (none :: (List.range O.length).map some).map fun its => (s, met, r, mine, its)
theorem mem_all1 (hS : Pairs L S) {s : S1} (h : J1 S I O s) : s ∈ all1 S I O := by
  obtain ⟨s, met, ⟨a, b⟩, mine, its⟩ := s
  obtain ⟨⟨k1, k2, k3, k4, k5⟩, t, k6⟩ := h
  unfold all1
  refine List.mem_flatMap.mpr ⟨s, List.mem_range.mpr k1, List.mem_flatMap.mpr ⟨met, List.mem_range.mpr k2, List.mem_flatMap.mpr ⟨(a, b), List.mem_filterMap.mpr ⟨_, k6, rfl⟩, List.mem_flatMap.mpr ⟨mine, List.mem_range.mpr k4, List.mem_map.mpr ⟨its, ?_, rfl⟩⟩⟩⟩⟩
  cases its with
  | none => exact List.mem_cons_self ..
  | some i => exact List.mem_cons_of_mem _ (List.mem_map_of_mem (List.mem_range.mpr (k5 i rfl)))
theorem flat_len {α β : Type} {f : α → List β} {n : Nat} : ∀ {xs : List α}, (∀ x ∈ xs, (f x).length ≤ n) → (xs.flatMap f).length ≤ xs.length * n
  | [], _ => by simp
  | x :: xs, h => by
    have := flat_len (xs := xs) fun y hy => h y (List.mem_cons_of_mem _ hy)
    have h0 := h x (List.mem_cons_self ..)
    rw [List.flatMap_cons, List.length_append, List.length_cons, Nat.add_mul]
    omega
theorem few1 (hS : Pairs L S) (hI : I.length ≤ 5) (hO : O.length ≤ 5) : (all1 S I O).length ≤ 50000 := by
  have hr : (S.filterMap (·.1)).length ≤ 40 := Nat.le_trans (List.length_filterMap_le _ _) hS.few
  refine Nat.le_trans (flat_len (n := 8 * (40 * (5 * 6))) fun s _ => Nat.le_trans (flat_len (n := 40 * (5 * 6)) fun met _ => Nat.le_trans (flat_len (n := 5 * 6) fun r _ => Nat.le_trans (flat_len (n := 6) fun mine _ => by simp; omega) ?_) ?_) ?_) ?_
  · rw [List.length_range]; exact Nat.mul_le_mul_right _ hI
  · exact Nat.mul_le_mul_right _ hr
  · rw [List.length_range]; exact Nat.le_refl _
  · rw [List.length_range]; decide
theorem so1 {A : Hv} {r : Nat} (hp : p ∈ planSS) (hr : A[r]? = some (partV L.v)) (he : 1 ≤ L.e) (hS : Pairs L S) (hI : MOk I) (hO : MOk O) (lI : I.length ≤ 5) (lO : O.length ≤ 5) :
    StepOk 8 enc1 (step1 p L I O) (wrong1 p I O) (0, 0, (0, 0), 0, some 0) .non A c_holds_layer_step c_holds_layer_is_wrong [.ref r, .str p, .tup (encM I), .tup (encM O)] [.str p, .tup (encM I), .tup (encM O)] (all1 S I O) := by
  have ok : ∀ s, Rc 8 (step1 p L I O) (0, 0, (0, 0), 0, some 0) s → Ok1 I O s := fun s h => by
    have := rc1 hS hI hO h
    obtain ⟨s, met, ⟨a, b⟩, mine, its⟩ := s
    exact this.1
  exact ⟨encOk1, fun s l b E h hl hb => st1_eq hp (keepA E hr) he hI hO (ok s h) hl hb, fun s E h => wr1_eq hp hI hO (ok s h), fun s h => mem_all1 hS (rc1 hS hI hO h), few1 hS lI lO⟩
/-! holds_none -/
theorem mk2_some {s a mine x bits : Nat} {b : Bool} {t : S2} (h : step2 p k M (s, (a, b), mine) x bits = some t) : bits < 4 ∧ ∃ s' a' b' m', pA p s x = some s' ∧ kA k a b x bits = some (a', b') ∧ mN M mine (4 * x + bits) = some m' ∧ t = (s', (a', b'), m') := by
  simp only [step2] at h
  split at h
  · cases h
  · refine ⟨by omega, ?_⟩
    unfold mk2 at h
    split at h
    · rename_i s' r' m' e1 e2 e3
      cases h
      exact ⟨s', r'.1, r'.2, m', e1, e2, e3, rfl⟩
    · cases h
theorem rc2 (hM : MOk M) : ∀ {s : S2}, Rc 8 (step2 p k M) (0, (0, false), 0) s → Ok2 M s := fun {s} h => by
  induction h with
  | start => exact ⟨by decide, by decide, hM.ne⟩
  | @step s t l b hs hl hb ht ih =>
    obtain ⟨s, ⟨a, g⟩, mine⟩ := s
    obtain ⟨k1, k2, k3⟩ := ih
    obtain ⟨hz, s', a', b', m', e1, e2, e3, rfl⟩ := mk2_some ht
    exact ⟨pA_lt e1, kA_lt k2 hz e2, mN_lt hM e3⟩
def all2 (M : Mc) : List S2 := (List.range 4).flatMap fun s => (List.range 4).flatMap fun a => [false, true].flatMap fun b => (List.range M.length).map fun m => (s, (a, b), m)
theorem mem_all2 {s : S2} (h : Ok2 M s) : s ∈ all2 M := by
  obtain ⟨s, ⟨a, b⟩, m⟩ := s
  obtain ⟨k1, k2, k3⟩ := h
  unfold all2
  exact List.mem_flatMap.mpr ⟨s, List.mem_range.mpr k1, List.mem_flatMap.mpr ⟨a, List.mem_range.mpr k2, List.mem_flatMap.mpr ⟨b, by cases b <;> simp, List.mem_map.mpr ⟨m, List.mem_range.mpr k3, rfl⟩⟩⟩⟩
theorem few2 (hM : M.length ≤ 40) : (all2 M).length ≤ 50000 := by
  refine Nat.le_trans (flat_len (n := 4 * (2 * 40)) fun s _ => Nat.le_trans (flat_len (n := 2 * 40) fun a _ => Nat.le_trans (flat_len (n := 40) fun b _ => by simpa using hM) ?_) ?_) ?_
  · simp
  · rw [List.length_range]; exact Nat.le_refl _
  · rw [List.length_range]; decide
theorem so2 {A : Hv} (hp : p ∈ planSS) (hk : k ∈ kindSS) (hM : MOk M) :
    StepOk 8 enc2 (step2 p k M) (wrong2 p M) (0, (0, false), 0) .non A c_holds_none_step c_holds_none_is_wrong [.str p, .str k, .tup (encM M)] [.str p, .tup (encM M)] (all2 M) :=
  ⟨encOk2, fun s l b E h hl hb => st2_eq hp hk hM (rc2 hM h) hl hb, fun s E h => wr2_eq hp hM (rc2 hM h), fun s h => mem_all2 (rc2 hM h), few2 hM.few⟩
/-! takes_all -/
theorem mk3_some {s a b d x mark : Nat} {c : Bool} {m : Option Nat} {t : S3} (h : step3 p L M (s, (a, b, c, d), m) x mark = some t) : ∃ s' t', lS p s x = some s' ∧ lawTk L a b c d x mark = some t' ∧ t = (s', t', m.bind fun i => mN M i (4 * x + mark)) := by
  simp only [step3] at h
  split at h
  · rename_i s' t' e1 e2
    cases h
    exact ⟨s', t', e1, e2, rfl⟩
  · cases h
def J3 (S : List PT) (M : Mc) : S3 → Prop
  | (s, (a, b, c, d), m) => Ok3 M (s, (a, b, c, d), m) ∧ ∃ r, (r, some (a, b, c, d)) ∈ S
theorem rc3 (hS : Pairs L S) (hM : MOk M) : ∀ {s : S3}, Rc 4 (step3 p L M) (0, (0, 0, false, 0), some 0) s → J3 S M s := fun {s} h => by
  induction h with
  | start => exact ⟨⟨by decide, by decide, by decide, fun i e => by cases e; exact hM.ne⟩, _, hS.start⟩
  | @step s t l b hs hl hb ht ih =>
    obtain ⟨s, ⟨a, g, c, d⟩, m⟩ := s
    obtain ⟨⟨k1, k2, k3, k4⟩, r, k6⟩ := ih
    obtain ⟨s', ⟨a', g', c', d'⟩, e1, e2, rfl⟩ := mk3_some ht
    have st := hS.step _ k6 l b hl hb
    have e2' : stT L (some (a, g, c, d)) l b = some (a', g', c', d') := e2
    simp only [stepP, e2'] at st
    obtain ⟨v1, v2⟩ := vld_T hS st
    refine ⟨⟨lS_lt e1, v1, v2, fun i e => ?_⟩, _, st⟩
    cases m with
    | none => cases e
    | some j => exact mN_lt hM e
def all3 (S : List PT) (M : Mc) : List S3 := (List.range 3).flatMap fun s => (S.filterMap (·.2)).flatMap fun t => (none :: (List.range M.length).map some).map fun m => (s, t, m)
theorem mem_all3 {s : S3} (h : J3 S M s) : s ∈ all3 S M := by
  obtain ⟨s, ⟨a, b, c, d⟩, m⟩ := s
  obtain ⟨⟨k1, k2, k3, k4⟩, r, k6⟩ := h
  unfold all3
  refine List.mem_flatMap.mpr ⟨s, List.mem_range.mpr k1, List.mem_flatMap.mpr ⟨(a, b, c, d), List.mem_filterMap.mpr ⟨_, k6, rfl⟩, List.mem_map.mpr ⟨m, ?_, rfl⟩⟩⟩
  cases m with
  | none => exact List.mem_cons_self ..
  | some i => exact List.mem_cons_of_mem _ (List.mem_map_of_mem (List.mem_range.mpr (k4 i rfl)))
theorem few3 (hS : Pairs L S) (hM : M.length ≤ 40) : (all3 S M).length ≤ 50000 := by
  have hr : (S.filterMap (·.2)).length ≤ 40 := Nat.le_trans (List.length_filterMap_le _ _) hS.few
  refine Nat.le_trans (flat_len (n := 40 * 41) fun s _ => Nat.le_trans (flat_len (n := 41) fun t _ => by simp; omega) ?_) ?_
  · exact Nat.mul_le_mul_right _ hr
  · rw [List.length_range]; decide
theorem so3 {A : Hv} (hp : p ∈ planSS) (he : 1 ≤ L.e) (hS : Pairs L S) (hM : MOk M) :
    StepOk 4 enc3 (step3 p L M) (wrong3 p M) (0, (0, 0, false, 0), some 0) (.tup []) A c__law_takes_all__law_step c__law_takes_all__law_wrong [L.v, .str p, .tup (encM M)] [.str p, .tup (encM M)] (all3 S M) := by
  have ok : ∀ s, Rc 4 (step3 p L M) (0, (0, 0, false, 0), some 0) s → Ok3 M s := fun s h => by
    have := rc3 hS hM h
    obtain ⟨s, ⟨a, b, c, d⟩, m⟩ := s
    exact this.1
  exact ⟨encOk3, fun s l b E h hl hb => st3_eq hp he hM (ok s h) hl hb, fun s E h => wr3_eq hp hM (ok s h), fun s h => mem_all3 (rc3 hS hM h), few3 hS hM.few⟩
/-! has_none -/
theorem mk4_some {s a c m x mark : Nat} {b : Bool} {t : S4} (h : step4 p k M (s, (a, b, c), m) x mark = some t) : ∃ s' t' m', lS p s x = some s' ∧ lF k a b c x mark = some t' ∧ mN M m (4 * x + mark) = some m' ∧ t = (s', t', m') := by
  simp only [step4] at h
  split at h
  · rename_i s' t' m' e1 e2 e3
    cases h
    exact ⟨s', t', m', e1, e2, e3, rfl⟩
  · cases h
theorem rc4 (hM : MOk M) : ∀ {s : S4}, Rc 4 (step4 p k M) (0, (0, false, 0), 0) s → Ok4 M s := fun {s} h => by
  induction h with
  | start => exact ⟨by decide, by decide, by decide, hM.ne⟩
  | @step s t l b hs hl hb ht ih =>
    obtain ⟨s, ⟨a, g, c⟩, m⟩ := s
    obtain ⟨k1, k2, k3, k4⟩ := ih
    obtain ⟨s', ⟨a', g', c'⟩, m', e1, e2, e3, rfl⟩ := mk4_some ht
    obtain ⟨v1, v2⟩ := lF_lt k2 k3 hl hb e2
    exact ⟨lS_lt e1, v1, v2, mN_lt hM e3⟩
def all4 (M : Mc) : List S4 := (List.range 3).flatMap fun s => (List.range 4).flatMap fun a => [false, true].flatMap fun b => (List.range 3).flatMap fun c => (List.range M.length).map fun m => (s, (a, b, c), m)
theorem mem_all4 {s : S4} (h : Ok4 M s) : s ∈ all4 M := by
  obtain ⟨s, ⟨a, b, c⟩, m⟩ := s
  obtain ⟨k1, k2, k3, k4⟩ := h
  unfold all4
  exact List.mem_flatMap.mpr ⟨s, List.mem_range.mpr k1, List.mem_flatMap.mpr ⟨a, List.mem_range.mpr k2, List.mem_flatMap.mpr ⟨b, by cases b <;> simp, List.mem_flatMap.mpr ⟨c, List.mem_range.mpr k3, List.mem_map.mpr ⟨m, List.mem_range.mpr k4, rfl⟩⟩⟩⟩⟩
theorem few4 (hM : M.length ≤ 40) : (all4 M).length ≤ 50000 := by
  refine Nat.le_trans (flat_len (n := 4 * (2 * (3 * 40))) fun s _ => Nat.le_trans (flat_len (n := 2 * (3 * 40)) fun a _ => Nat.le_trans (flat_len (n := 3 * 40) fun b _ => Nat.le_trans (flat_len (n := 40) fun c _ => by simpa using hM) ?_) ?_) ?_) ?_
  · rw [List.length_range]; exact Nat.le_refl _
  · simp
  · rw [List.length_range]; exact Nat.le_refl _
  · rw [List.length_range]; decide
theorem so4 {A : Hv} (hp : p ∈ planSS) (hk : k ∈ kindSS) (hM : MOk M) :
    StepOk 4 enc4 (step4 p k M) (wrong4 p M) (0, (0, false, 0), 0) (.tup []) A c__law_has_none__law_step c__law_has_none__law_wrong [.str k, .str p, .tup (encM M)] [.str p, .tup (encM M)] (all4 M) :=
  ⟨encOk4, fun s l b E h hl hb => st4_eq hp hk hM (rc4 hM h) hl hb, fun s E h => wr4_eq hp hM (rc4 hM h), fun s h => mem_all4 (rc4 hM h), few4 hM.few⟩
end
end DL
end S_Mg
section S_Mh
set_option linter.all false
set_option maxRecDepth 100000
set_option maxHeartbeats 4000000
/-! Mh: the searches of the checker find just what those of the law find. -/
namespace DL
def aloneM : Mc := [([some 0, none, none, some 1, some 0, none, none, some 1, some 0, none, none, some 1], false), ([some 1, none, none, none, some 1, none, none, none, some 1, none, none, none], true)]
theorem alone_enc : c_ALONE = .tup (encM aloneM) := rfl
theorem alone_ok : MOk aloneM := ⟨by decide, by decide, by decide, by decide⟩
theorem alone_bits : ∀ mine, mine < 2 → ∀ x, x < 3 → ∀ bits, bits < 8 → (mN aloneM mine (4 * x + (bits / 4 + bits / 2 % 2 * 2))).isSome = true → bits % 2 + bits / 4 * 2 = bits % 4 := by decide
def aP (p : List Nat) : Option Nat → Bool
  | some s => pE p s
  | none => false
def aL (p : List Nat) : Option Nat → Bool
  | some s => lE p s
  | none => false
/-- the stages that go together -/
structure PlP (p : List Nat) (P : List PP) : Prop where
  start : (some 0, some 0) ∈ P
  step : ∀ q ∈ P, ∀ x, x < 3 → stPl p q x ∈ P
  acc : ∀ q ∈ P, aP p q.1 = aL p q.2
theorem plP {p : List Nat} (hp : p ∈ planSS) : PlP p (plS p) := by
  have c := List.all_eq_true.mp pl_ok p hp
  unfold okPl at c
  simp only [Bool.and_eq_true, List.all_eq_true, List.mem_range, List.contains_iff_mem] at c
  refine ⟨c.1, fun q hq x hx => (c.2 q hq).2.2 x hx, fun q hq => ?_⟩
  have := (c.2 q hq).2.1
  unfold accPl at this
  rw [beq_iff_eq] at this
  obtain ⟨a, b⟩ := q
  cases a <;> cases b <;> exact this
def aK : Option (Nat × Bool) → Bool
  | some s => decide (s.1 = 3)
  | none => false
def aF : Option (Nat × Bool × Nat) → Bool
  | some s => decide (s.1 = 3)
  | none => false
structure KdP (k : List Nat) (K : List KP) : Prop where
  start : (some (0, false), some (0, false, 0)) ∈ K
  step : ∀ q ∈ K, ∀ x m, x < 3 → m < 4 → stKd k q x m ∈ K
  acc : ∀ q ∈ K, aK q.1 = aF q.2
theorem kdP {k : List Nat} (hk : k ∈ kindSS) : KdP k (kdS k) := by
  have c := List.all_eq_true.mp kd_ok k hk
  unfold okKd at c
  simp only [Bool.and_eq_true, List.all_eq_true, List.mem_range, List.contains_iff_mem] at c
  refine ⟨c.1.1, fun q hq x m hx hm => (c.1.2 q hq).2.2 x hx m hm, fun q hq => ?_⟩
  have := (c.1.2 q hq).2.1
  unfold accKd at this
  rw [beq_iff_eq] at this
  obtain ⟨a, b⟩ := q
  cases a <;> cases b <;> exact this
theorem tk_phase {L : Ly} {a b x m a' b' : Nat} (ha : a < 5) (hm : m < 4) (h : tkA L a b x m = some (a', b')) :
    (a = 0 ∧ m = 0 ∧ a' = 0) ∨ (a = 0 ∧ m = 1 ∧ a' = 1) ∨ (a = 0 ∧ m = 2 ∧ a' = 2) ∨ (a = 0 ∧ m = 3 ∧ 3 ≤ a') ∨ (a = 1 ∧ m = 0 ∧ a' = 1) ∨ (a = 1 ∧ m = 2 ∧ 3 ≤ a') ∨ (a = 2 ∧ m = 0 ∧ a' = 2) ∨ (a = 2 ∧ m = 1 ∧ 3 ≤ a') ∨ (3 ≤ a ∧ m = 0 ∧ 3 ≤ a') := by
  have hm4 : m = 0 ∨ m = 1 ∨ m = 2 ∨ m = 3 := by omega
  have hp5 : a = 0 ∨ a = 1 ∨ a = 2 ∨ a = 3 ∨ a = 4 := by omega
  unfold tkA took begn at h
  rcases hp5 with rfl | rfl | rfl | rfl | rfl <;> rcases hm4 with rfl | rfl | rfl | rfl <;> simp at h ⊢ <;>
    (try (cases hf : farth L b with
      | none => rw [hf] at h; cases h
      | some lg =>
        rw [hf] at h
        simp only at h
        repeat' split at h
        all_goals (first | (simp at h; done) | (simp at h; omega)))) <;>
    (repeat' split at h) <;> (try simp at h) <;> (try omega)
section
variable {p k : List Nat} {L : Ly} {M : Mc} {S : List PT}
theorem alone_lt {mine j m' : Nat} (h : mine < aloneM.length) : mine < 2 := h
/-- what the checker's search finds, the law's finds -/
theorem to_law (hP : PlP p (plS p)) (hS : Pairs L S) (hM : MOk M) : ∀ {s : S1}, Rc 8 (step1 p L aloneM M) (0, 0, (0, 0), 0, some 0) s →
    ∃ ls t, (some s.1, ls) ∈ plS p ∧ (some s.2.2.1, t) ∈ S ∧ ∀ l t', ls = some l → t = some t' → Rc 4 (step3 p L M) (0, (0, 0, false, 0), some 0) (l, t', s.2.2.2.2) := fun {s} h => by
  induction h with
  | start => exact ⟨_, _, hP.start, hS.start, fun l t' e1 e2 => by cases e1; cases e2; exact .start⟩
  | @step s t l b hs hl hb ht ih =>
    have hJ := rc1 hS alone_ok hM hs
    obtain ⟨s, met, ⟨a, g⟩, mine, its⟩ := s
    obtain ⟨ls, t0, i1, i2, i3⟩ := ih
    obtain ⟨⟨k1, k2, k3, k4, k5⟩, _⟩ := hJ
    obtain ⟨hz, s', a', b', m', e1, e2, e3, rfl⟩ := mk1_some ht
    have hbits := alone_bits mine k4 l hl b hb (by rw [e3]; rfl)
    have st := hS.step _ i2 l (b % 2 + b / 4 * 2) hl (by omega)
    have e2' : stA L (some (a, g)) l (b % 2 + b / 4 * 2) = some (a', b') := e2
    simp only [stepP, e2'] at st
    have pt := hP.step _ i1 l hl
    simp only [stPl, Option.bind_some, e1] at pt
    refine ⟨_, _, pt, st, fun l' t' q1 q2 => ?_⟩
    cases ls with
    | none => cases q1
    | some l0 =>
      cases t0 with
      | none => cases q2
      | some t1 =>
        have r := i3 l0 t1 rfl rfl
        refine .step r hl (b := b % 4) (by omega) ?_
        obtain ⟨ta, tb, tc, td⟩ := t1
        have q1' : lS p l0 l = some l' := q1
        have q2' : lawTk L ta tb tc td l (b % 2 + b / 4 * 2) = some t' := q2
        rw [hbits] at q2'
        simp only [step3, q1', q2']
/-- marks and ALONE's state by the phase -/
def Cons (a met mine : Nat) : Prop := (a = 0 ∧ met = 0 ∧ mine = 0) ∨ (a = 1 ∧ met = 1 ∧ mine = 0) ∨ (a = 2 ∧ met = 6 ∧ mine = 1) ∨ (3 ≤ a ∧ met = 7 ∧ mine = 1)
theorem alone_go : (∀ x, x < 3 → ∀ _j : Nat, mN aloneM 0 (4 * x + 0) = some 0 ∧ mN aloneM 0 (4 * x + 3) = some 1 ∧ mN aloneM 1 (4 * x + 0) = some 1) := by
  intro x hx j
  match x, hx with
  | 0, _ => exact ⟨rfl, rfl, rfl⟩
  | 1, _ => exact ⟨rfl, rfl, rfl⟩
  | 2, _ => exact ⟨rfl, rfl, rfl⟩
theorem of_law (hP : PlP p (plS p)) (hS : Pairs L S) (hM : MOk M) : ∀ {s : S3}, Rc 4 (step3 p L M) (0, (0, 0, false, 0), some 0) s →
    ∃ cs c, (cs, some s.1) ∈ plS p ∧ (c, some s.2.1) ∈ S ∧ ∀ s' r, cs = some s' → c = some r → ∃ met mine, Rc 8 (step1 p L aloneM M) (0, 0, (0, 0), 0, some 0) (s', met, r, mine, s.2.2) ∧ Cons r.1 met mine := fun {s} h => by
  induction h with
  | start => exact ⟨_, _, hP.start, hS.start, fun s' r e1 e2 => by cases e1; cases e2; exact ⟨0, 0, .start, .inl ⟨rfl, rfl, rfl⟩⟩⟩
  | @step s t l b hs hl hb ht ih =>
    obtain ⟨s, ⟨ta, tb, tc, td⟩, m⟩ := s
    obtain ⟨cs, c, i1, i2, i3⟩ := ih
    obtain ⟨l', t', e1, e2, rfl⟩ := mk3_some ht
    have st := hS.step _ i2 l b hl hb
    have e2' : stT L (some (ta, tb, tc, td)) l b = some t' := e2
    simp only [stepP, e2'] at st
    have pt := hP.step _ i1 l hl
    simp only [stPl, Option.bind_some, e1] at pt
    refine ⟨_, _, pt, st, fun s' r' q1 q2 => ?_⟩
    cases cs with
    | none => cases q1
    | some s0 =>
      cases c with
      | none => cases q2
      | some r =>
        obtain ⟨a, g⟩ := r
        obtain ⟨a', g'⟩ := r'
        obtain ⟨met, mine, rr, co⟩ := i3 s0 (a, g) rfl rfl
        have q1' : pA p s0 l = some s' := q1
        have q2' : tkA L a g l b = some (a', g') := q2
        have ha : a < 5 := vld_A hS i2
        have ph := tk_phase ha hb q2'
        obtain ⟨go1, go2, go3⟩ := alone_go l hl 0
        have fin : ∀ bits m', bits < 8 → met &&& bits = 0 → bits % 2 + bits / 4 * 2 = b → bits % 4 = b → mN aloneM mine (4 * l + (bits / 4 + bits / 2 % 2 * 2)) = some m' → Cons a' (met + bits) m' → ∃ met mine, Rc 8 (step1 p L aloneM M) (0, 0, (0, 0), 0, some 0) (s', met, (a', g'), mine, m.bind fun i => mN M i (4 * l + b)) ∧ Cons a' met mine := fun bits m' hb8 h0 h1 h2 h3 h4 => by
          refine ⟨met + bits, m', .step rr hl hb8 ?_, h4⟩
          simp only [step1, h0, if_true, mk1, q1', h1, q2', h3, h2]
        have f0 : ∀ mm, b = 0 → mN aloneM mine (4 * l + 0) = some mm → Cons a' met mm → _ := fun mm hb0 h1 h2 => fin 0 mm (by decide) (by simp) (by omega) (by omega) (by simpa using h1) (by simpa using h2)
        rcases ph with ⟨rfl, rfl, rfl⟩ | ⟨rfl, rfl, rfl⟩ | ⟨rfl, rfl, rfl⟩ | ⟨rfl, rfl, h3⟩ | ⟨rfl, rfl, rfl⟩ | ⟨rfl, rfl, h3⟩ | ⟨rfl, rfl, rfl⟩ | ⟨rfl, rfl, h3⟩ | ⟨h3', rfl, h3⟩ <;> rcases co with ⟨c1, rfl, rfl⟩ | ⟨c1, rfl, rfl⟩ | ⟨c1, rfl, rfl⟩ | ⟨c1, rfl, rfl⟩ <;> (try (exfalso; omega))
        · exact f0 0 rfl go1 (.inl ⟨rfl, rfl, rfl⟩)
        · exact fin 1 0 (by decide) (by decide) rfl rfl go1 (.inr (.inl ⟨rfl, rfl, rfl⟩))
        · exact fin 6 1 (by decide) (by decide) rfl rfl go2 (.inr (.inr (.inl ⟨rfl, rfl, rfl⟩)))
        · exact fin 7 1 (by decide) (by decide) rfl rfl go2 (.inr (.inr (.inr ⟨h3, rfl, rfl⟩)))
        · exact f0 0 rfl go1 (.inr (.inl ⟨rfl, rfl, rfl⟩))
        · exact fin 6 1 (by decide) (by decide) rfl rfl go2 (.inr (.inr (.inr ⟨h3, rfl, rfl⟩)))
        · exact f0 1 rfl go3 (.inr (.inr (.inl ⟨rfl, rfl, rfl⟩)))
        · exact fin 1 1 (by decide) (by decide) rfl rfl go3 (.inr (.inr (.inr ⟨h3, rfl, rfl⟩)))
        · exact f0 1 rfl go3 (.inr (.inr (.inr ⟨h3, rfl, rfl⟩)))
theorem takes_iff (hP : PlP p (plS p)) (hS : Pairs L S) (hM : MOk M) : (∃ s, Rc 8 (step1 p L aloneM M) (0, 0, (0, 0), 0, some 0) s ∧ wrong1 p aloneM M s = true) ↔ ∃ s, Rc 4 (step3 p L M) (0, (0, 0, false, 0), some 0) s ∧ wrong3 p M s = true := by
  constructor
  · rintro ⟨s, hs, hw⟩
    obtain ⟨ls, t, i1, i2, i3⟩ := to_law hP hS hM hs
    obtain ⟨s, met, ⟨a, g⟩, mine, its⟩ := s
    unfold wrong1 at hw
    simp only [Bool.and_eq_true, decide_eq_true_eq] at hw
    obtain ⟨w1, w2, w3, w4, w5⟩ := hw
    have q1 : aP p (some s) = aL p ls := hP.acc _ i1
    have q2 : accA (some (a, g)) = accT t := acc_S hS i2
    have q1' : aL p ls = true := by rw [← q1]; exact w2
    have q2' : accT t = true := by rw [← q2]; exact Nat.ble_eq_true_of_le w3
    cases ls with
    | none => cases q1'
    | some l =>
      cases t with
      | none => cases q2'
      | some t' =>
        refine ⟨_, i3 l t' rfl rfl, ?_⟩
        obtain ⟨ta, tb, tc, td⟩ := t'
        unfold wrong3
        have h1 : lE p l = true := q1'
        have h2 : 3 ≤ ta := Nat.le_of_ble_eq_true q2'
        simp only [h1, h2, decide_true, Bool.true_and]
        exact w5
  · rintro ⟨s, hs, hw⟩
    obtain ⟨cs, c, i1, i2, i3⟩ := of_law hP hS hM hs
    obtain ⟨s, ⟨ta, tb, tc, td⟩, m⟩ := s
    unfold wrong3 at hw
    simp only [Bool.and_eq_true, decide_eq_true_eq] at hw
    obtain ⟨w1, w2, w3⟩ := hw
    have q1 : aP p cs = aL p (some s) := hP.acc _ i1
    have q2 : accA c = accT (some (ta, tb, tc, td)) := acc_S hS i2
    have q1' : aP p cs = true := by rw [q1]; exact w1
    have q2' : accA c = true := by rw [q2]; exact Nat.ble_eq_true_of_le w2
    cases cs with
    | none => cases q1'
    | some s' =>
      cases c with
      | none => cases q2'
      | some r =>
        obtain ⟨a, g⟩ := r
        obtain ⟨met, mine, rr, co⟩ := i3 s' (a, g) rfl rfl
        refine ⟨_, rr, ?_⟩
        have h1 : pE p s' = true := q1'
        have h2 : 3 ≤ a := Nat.le_of_ble_eq_true q2'
        have hm : met = 7 ∧ mine = 1 := by
          rcases co with ⟨c1, _, _⟩ | ⟨c1, _, _⟩ | ⟨c1, _, _⟩ | ⟨c1, h7, h8⟩
          · omega
          · omega
          · omega
          · exact ⟨h7, h8⟩
        obtain ⟨rfl, rfl⟩ := hm
        have h3 : mB aloneM 1 = true := rfl
        unfold wrong1
        simp only [h1, h2, h3, decide_true, Bool.true_and]
        exact w3
/-! kinds -/
theorem to_lawK (hP : PlP p (plS p)) (hK : KdP k (kdS k)) : ∀ {s : S2}, Rc 8 (step2 p k M) (0, (0, false), 0) s →
    ∃ ls t, (some s.1, ls) ∈ plS p ∧ (some s.2.1, t) ∈ kdS k ∧ ∀ l t', ls = some l → t = some t' → Rc 4 (step4 p k M) (0, (0, false, 0), 0) (l, t', s.2.2) := fun {s} h => by
  induction h with
  | start => exact ⟨_, _, hP.start, hK.start, fun l t' e1 e2 => by cases e1; cases e2; exact .start⟩
  | @step s t l b hs hl hb ht ih =>
    obtain ⟨s, ⟨a, g⟩, mine⟩ := s
    obtain ⟨ls, t0, i1, i2, i3⟩ := ih
    obtain ⟨hz, s', a', b', m', e1, e2, e3, rfl⟩ := mk2_some ht
    have st := hK.step _ i2 l b hl hz
    simp only [stKd, Option.bind_some, e2] at st
    have pt := hP.step _ i1 l hl
    simp only [stPl, Option.bind_some, e1] at pt
    refine ⟨_, _, pt, st, fun l' t' q1 q2 => ?_⟩
    cases ls with
    | none => cases q1
    | some l0 =>
      cases t0 with
      | none => cases q2
      | some t1 =>
        refine .step (i3 l0 t1 rfl rfl) hl hz ?_
        obtain ⟨ta, tb, tc⟩ := t1
        have q1' : lS p l0 l = some l' := q1
        have q2' : lF k ta tb tc l b = some t' := q2
        simp only [step4, q1', q2', e3]
theorem of_lawK (hP : PlP p (plS p)) (hK : KdP k (kdS k)) : ∀ {s : S4}, Rc 4 (step4 p k M) (0, (0, false, 0), 0) s →
    ∃ cs c, (cs, some s.1) ∈ plS p ∧ (c, some s.2.1) ∈ kdS k ∧ ∀ s' r, cs = some s' → c = some r → Rc 8 (step2 p k M) (0, (0, false), 0) (s', r, s.2.2) := fun {s} h => by
  induction h with
  | start => exact ⟨_, _, hP.start, hK.start, fun l t' e1 e2 => by cases e1; cases e2; exact .start⟩
  | @step s t l b hs hl hb ht ih =>
    obtain ⟨s, ⟨ta, tb, tc⟩, m⟩ := s
    obtain ⟨cs, c, i1, i2, i3⟩ := ih
    obtain ⟨l', t', m', e1, e2, e3, rfl⟩ := mk4_some ht
    have st := hK.step _ i2 l b hl hb
    simp only [stKd, Option.bind_some, e2] at st
    have pt := hP.step _ i1 l hl
    simp only [stPl, Option.bind_some, e1] at pt
    refine ⟨_, _, pt, st, fun s' r' q1 q2 => ?_⟩
    cases cs with
    | none => cases q1
    | some s0 =>
      cases c with
      | none => cases q2
      | some r =>
        refine .step (i3 s0 r rfl rfl) hl (b := b) (by omega) ?_
        obtain ⟨a, g⟩ := r
        have q1' : pA p s0 l = some s' := q1
        have q2' : kA k a g l b = some r' := q2
        have hb3 : ¬ 3 < b := by omega
        simp only [step2, hb3, if_false, mk2, q1', q2', e3]
theorem none_iff (hP : PlP p (plS p)) (hK : KdP k (kdS k)) : (∃ s, Rc 8 (step2 p k M) (0, (0, false), 0) s ∧ wrong2 p M s = true) ↔ ∃ s, Rc 4 (step4 p k M) (0, (0, false, 0), 0) s ∧ wrong4 p M s = true := by
  constructor
  · rintro ⟨s, hs, hw⟩
    obtain ⟨ls, t, i1, i2, i3⟩ := to_lawK hP hK hs
    obtain ⟨s, ⟨a, g⟩, mine⟩ := s
    unfold wrong2 at hw
    simp only [Bool.and_eq_true, decide_eq_true_eq] at hw
    obtain ⟨w1, w2, w3⟩ := hw
    have q1 : aP p (some s) = aL p ls := hP.acc _ i1
    have q2 : aK (some (a, g)) = aF t := hK.acc _ i2
    have q1' : aL p ls = true := by rw [← q1]; exact w2
    have q2' : aF t = true := by rw [← q2]; exact decide_eq_true w1
    cases ls with
    | none => cases q1'
    | some l =>
      cases t with
      | none => cases q2'
      | some t' =>
        refine ⟨_, i3 l t' rfl rfl, ?_⟩
        obtain ⟨ta, tb, tc⟩ := t'
        unfold wrong4
        have h1 : lE p l = true := q1'
        have h2 : ta = 3 := of_decide_eq_true q2'
        simp only [h1, h2, decide_true, Bool.true_and]
        exact w3
  · rintro ⟨s, hs, hw⟩
    obtain ⟨cs, c, i1, i2, i3⟩ := of_lawK hP hK hs
    obtain ⟨s, ⟨ta, tb, tc⟩, m⟩ := s
    unfold wrong4 at hw
    simp only [Bool.and_eq_true, decide_eq_true_eq] at hw
    obtain ⟨w1, w2, w3⟩ := hw
    have q1 : aP p cs = aL p (some s) := hP.acc _ i1
    have q2 : aK c = aF (some (ta, tb, tc)) := hK.acc _ i2
    have q1' : aP p cs = true := by rw [q1]; exact w1
    have q2' : aK c = true := by rw [q2]; exact decide_eq_true w2
    cases cs with
    | none => cases q1'
    | some s' =>
      cases c with
      | none => cases q2'
      | some r =>
        refine ⟨_, i3 s' r rfl rfl, ?_⟩
        obtain ⟨a, g⟩ := r
        have h1 : pE p s' = true := q1'
        have h2 : a = 3 := of_decide_eq_true q2'
        unfold wrong2
        simp only [h1, h2, decide_true, Bool.true_and]
        exact w3
end
end DL
end S_Mh
section S_Mi
set_option linter.all false
set_option maxRecDepth 100000
set_option maxHeartbeats 4000000
/-! Mi: what the checker's defs and the law's tell. -/
namespace DL
open Classical in
noncomputable def okLayer (p : List Nat) (L : Ly) (I O : Mc) : Bool := decide (¬ ∃ s, Rc 8 (step1 p L I O) (0, 0, (0, 0), 0, some 0) s ∧ wrong1 p I O s = true)
open Classical in
noncomputable def okNone (p k : List Nat) (M : Mc) : Bool := decide (¬ ∃ s, Rc 8 (step2 p k M) (0, (0, false), 0) s ∧ wrong2 p M s = true)
open Classical in
noncomputable def okTakes (p : List Nat) (L : Ly) (M : Mc) : Bool := decide (¬ ∃ s, Rc 4 (step3 p L M) (0, (0, 0, false, 0), some 0) s ∧ wrong3 p M s = true)
open Classical in
noncomputable def okHas (p k : List Nat) (M : Mc) : Bool := decide (¬ ∃ s, Rc 4 (step4 p k M) (0, (0, false, 0), 0) s ∧ wrong4 p M s = true)
open Classical in
theorem dec_not {P : Prop} {b : Bool} (h : b = true ↔ P) : (!b) = decide (¬ P) := by
  cases b with
  | true => rw [decide_eq_false (show ¬ ¬ P from fun n => n (h.mp rfl))]; rfl
  | false => rw [decide_eq_true (show ¬ P from fun q => Bool.false_ne_true (h.mpr q))]; rfl
@[simp] theorem closedV_clo (n c : Nat) (xs : List VV) : closedV n (.clo c xs) = closedL n xs := by rw [closedV]
section
variable {p k : List Nat} {L : Ly} {I O M : Mc} {S : List PT} {A : Hv} {r : Nat}
theorem holds_layer_eq (hp : p ∈ planSS) (hr : A[r]? = some (partV L.v)) (he : 1 ≤ L.e) (hS : Pairs L S) (hI : MOk I) (hO : MOk O) (lI : I.length ≤ 5) (lO : O.length ≤ 5) :
    f_holds_layer [.ref r, .str p, .tup (encM I), .tup (encM O)] A = .ok (.bl (okLayer p L I O)) A := by
  obtain ⟨b, e, hb⟩ := reached_eq (A := A) (n1 := 0) (n2 := 1) (c1 := [.ref r, .str p, .tup (encM I), .tup (encM O)]) (c2 := [.str p, .tup (encM I), .tup (encM O)]) (s0 := ((0, 0, (0, 0), 0, some 0) : S1)) (enc := enc1) (step := step1 p L I O) (wrong := wrong1 p I O) (f1 := c_holds_layer_step) (f2 := c_holds_layer_is_wrong) (all := all1 S I O) (fun B hB => by
    rcases hB with rfl | hB
    · exact so1 hp hr he hS hI hO lI lO
    · simp at hB) rfl rfl
  refine dDef_vr rfl (by simp) (by simp) ?_
  have hv : okLayer p L I O = !b := (dec_not hb).symm
  have arg : (aCons (dTup (aCons (dC (.int 0)) (aCons (dC (.int 0)) (aCons (dTup (aCons (dC (.int 0)) (aCons (dC (.int 0)) (aNil)))) (aCons (dC (.int 0)) (aCons (dC (.int 0)) (aNil))))))) (aNil)) [some (.ref r), some (.str p), some (.tup (encM I)), some (.tup (encM O)), none, none] A = .ok [.tup (enc1 (0, 0, (0, 0), 0, some 0))] A := by
    simp [enc1, encI]
  rw [hv]
  show b_holds_layer [some (.ref r), some (.str p), some (.tup (encM I)), some (.tup (encM O)), none, none] A = _
  unfold b_holds_layer sHo
  rw [if_pos (by simp)]
  simp only [List.set_cons_succ, List.set_cons_zero, dRet_ap, dNot_ap]
  have ho : dHo f_is_reached 0 [0, 1, 2, 3] 1 [1, 2, 3] (aCons (dTup (aCons (dC (.int 0)) (aCons (dC (.int 0)) (aCons (dTup (aCons (dC (.int 0)) (aCons (dC (.int 0)) (aNil)))) (aCons (dC (.int 0)) (aCons (dC (.int 0)) (aNil))))))) (aNil)) [some (.ref r), some (.str p), some (.tup (encM I)), some (.tup (encM O)), none, none] A = .ok (.bl b) A := by
    unfold dHo
    simp only [capsOf, List.getElem?_cons_succ, List.getElem?_cons_zero, Option.map_some, arg, R.bind_ok, List.cons_append, List.nil_append, e, hoEnd, if_true]
  rw [ho]
  rfl
theorem holds_none_eq (hp : p ∈ planSS) (hk : k ∈ kindSS) (hM : MOk M) : f_holds_none [.str p, .str k, .tup (encM M)] A = .ok (.bl (okNone p k M)) A := by
  obtain ⟨b, e, hb⟩ := reached_eq (A := []) (n1 := 2) (n2 := 3) (c1 := [.str p, .str k, .tup (encM M)]) (c2 := [.str p, .tup (encM M)]) (s0 := ((0, (0, false), 0) : S2)) (enc := enc2) (step := step2 p k M) (wrong := wrong2 p M) (f1 := c_holds_none_step) (f2 := c_holds_none_is_wrong) (all := all2 M) (fun B hB => so2 hp hk hM) rfl rfl
  refine dDef_cl rfl (by simp [closed_M]) (by simp) ⟨[], ?_⟩
  have hv : okNone p k M = !b := (dec_not hb).symm
  rw [hv]
  have arg : (aCons (dTup (aCons (dC (.int 0)) (aCons (dTup (aCons (dC (.int 0)) (aCons (dC (.bl false)) (aNil)))) (aCons (dC (.int 0)) (aNil))))) (aNil)) [some (.str p), some (.str k), some (.tup (encM M)), none, none] [] = .ok [.tup (enc2 (0, (0, false), 0))] [] := by
    simp [enc2]
  show b_holds_none [some (.str p), some (.str k), some (.tup (encM M)), none, none] [] = _
  unfold b_holds_none sHo
  rw [if_pos (by simp)]
  simp only [List.set_cons_succ, List.set_cons_zero, dRet_ap, dNot_ap]
  have ho : dHo f_is_reached 2 [0, 1, 2] 3 [0, 2] (aCons (dTup (aCons (dC (.int 0)) (aCons (dTup (aCons (dC (.int 0)) (aCons (dC (.bl false)) (aNil)))) (aCons (dC (.int 0)) (aNil))))) (aNil)) [some (.str p), some (.str k), some (.tup (encM M)), none, none] [] = .ok (.bl b) [] := by
    unfold dHo
    simp only [capsOf, List.getElem?_cons_succ, List.getElem?_cons_zero, Option.map_some, arg, R.bind_ok, List.cons_append, List.nil_append, e, hoEnd, if_true]
  rw [ho]
  rfl
theorem law_takes_eq (hp : p ∈ planSS) (he : 1 ≤ L.e) (hS : Pairs L S) (hM : MOk M) : f__law_takes_all [L.v, .str p, .tup (encM M)] A = .ok (.bl (okTakes p L M)) A := by
  obtain ⟨b, e, hb⟩ := reaches_eq (A := []) (n1 := 4) (n2 := 5) (c1 := [L.v, .str p, .tup (encM M)]) (c2 := [.str p, .tup (encM M)]) (m := 4) (s0 := ((0, (0, 0, false, 0), some 0) : S3)) (enc := enc3) (step := step3 p L M) (wrong := wrong3 p M) (f1 := c__law_takes_all__law_step) (f2 := c__law_takes_all__law_wrong) (all := all3 S M) (fun B hB => so3 hp he hS hM) (fun s => rfl) rfl rfl (by decide) (by decide)
  refine dDef_cl rfl (by simp [closed_M, closed_lyv]) (by simp) ⟨[], ?_⟩
  have hv : okTakes p L M = !b := (dec_not hb).symm
  rw [hv]
  have arg : (aCons (dTup (aCons (dC (.int 0)) (aCons (dTup (aCons (dC (.int 0)) (aCons (dC (.int 0)) (aCons (dC (.bl false)) (aCons (dC (.int 0)) (aNil)))))) (aCons (dC (.int 0)) (aNil))))) (aCons (dC (.int 4)) aNil)) [some L.v, some (.str p), some (.tup (encM M)), none, none] [] = .ok [.tup (enc3 (0, (0, 0, false, 0), some 0)), .int (4 : Nat)] [] := by
    simp [enc3, encS, encJ]
  show b__law_takes_all [some L.v, some (.str p), some (.tup (encM M)), none, none] [] = _
  unfold b__law_takes_all sHo
  rw [if_pos (by simp)]
  simp only [List.set_cons_succ, List.set_cons_zero, dRet_ap, dNot_ap]
  have ho : dHo f__law_reaches 4 [0, 1, 2] 5 [1, 2] (aCons (dTup (aCons (dC (.int 0)) (aCons (dTup (aCons (dC (.int 0)) (aCons (dC (.int 0)) (aCons (dC (.bl false)) (aCons (dC (.int 0)) (aNil)))))) (aCons (dC (.int 0)) (aNil))))) (aCons (dC (.int 4)) aNil)) [some L.v, some (.str p), some (.tup (encM M)), none, none] [] = .ok (.bl b) [] := by
    unfold dHo
    simp only [capsOf, List.getElem?_cons_succ, List.getElem?_cons_zero, Option.map_some, arg, R.bind_ok, List.cons_append, List.nil_append, e, hoEnd, if_true]
  rw [ho]
  rfl
theorem law_none_eq (hp : p ∈ planSS) (hk : k ∈ kindSS) (hM : MOk M) : f__law_has_none [.str k, .str p, .tup (encM M)] A = .ok (.bl (okHas p k M)) A := by
  obtain ⟨b, e, hb⟩ := reaches_eq (A := []) (n1 := 6) (n2 := 7) (c1 := [.str k, .str p, .tup (encM M)]) (c2 := [.str p, .tup (encM M)]) (m := 4) (s0 := ((0, (0, false, 0), 0) : S4)) (enc := enc4) (step := step4 p k M) (wrong := wrong4 p M) (f1 := c__law_has_none__law_step) (f2 := c__law_has_none__law_wrong) (all := all4 M) (fun B hB => so4 hp hk hM) (fun s => rfl) rfl rfl (by decide) (by decide)
  refine dDef_cl rfl (by simp [closed_M]) (by simp) ⟨[], ?_⟩
  have hv : okHas p k M = !b := (dec_not hb).symm
  rw [hv]
  have arg : (aCons (dTup (aCons (dC (.int 0)) (aCons (dTup (aCons (dC (.int 0)) (aCons (dC (.bl false)) (aCons (dC (.int 0)) (aNil))))) (aCons (dC (.int 0)) (aNil))))) (aCons (dC (.int 4)) aNil)) [some (.str k), some (.str p), some (.tup (encM M)), none, none] [] = .ok [.tup (enc4 (0, (0, false, 0), 0)), .int (4 : Nat)] [] := by
    simp [enc4, encF]
  show b__law_has_none [some (.str k), some (.str p), some (.tup (encM M)), none, none] [] = _
  unfold b__law_has_none sHo
  rw [if_pos (by simp)]
  simp only [List.set_cons_succ, List.set_cons_zero, dRet_ap, dNot_ap]
  have ho : dHo f__law_reaches 6 [0, 1, 2] 7 [1, 2] (aCons (dTup (aCons (dC (.int 0)) (aCons (dTup (aCons (dC (.int 0)) (aCons (dC (.bl false)) (aCons (dC (.int 0)) (aNil))))) (aCons (dC (.int 0)) (aNil))))) (aCons (dC (.int 4)) aNil)) [some (.str k), some (.str p), some (.tup (encM M)), none, none] [] = .ok (.bl b) [] := by
    unfold dHo
    simp only [capsOf, List.getElem?_cons_succ, List.getElem?_cons_zero, Option.map_some, arg, R.bind_ok, List.cons_append, List.nil_append, e, hoEnd, if_true]
  rw [ho]
  rfl
theorem takes_same (hp : p ∈ planSS) (hS : Pairs L S) (hM : MOk M) : okLayer p L aloneM M = okTakes p L M := by
  unfold okLayer okTakes
  have := takes_iff (plP hp) hS hM
  congr 1
  exact propext (not_congr this)
theorem none_same (hp : p ∈ planSS) (hk : k ∈ kindSS) : okNone p k M = okHas p k M := by
  unfold okNone okHas
  have := none_iff (M := M) (plP hp) (kdP hk)
  congr 1
  exact propext (not_congr this)
end
end DL
end S_Mi
section S_G72
set_option linter.all false
set_option maxRecDepth 100000
set_option maxHeartbeats 4000000
/-! G72: machines of any values. -/
namespace DL
def Dp (n : Nat) (G : Hv) : Nat → VV → Prop
  | 0, v => Tyd n G v
  | d + 1, v => Tyd n G v ∧ ∀ xs, v = .tup xs → ∀ x ∈ xs, Dp n G d x
theorem Dp.tyd {n : Nat} {G : Hv} : ∀ {d : Nat} {v : VV}, Dp n G d v → Tyd n G v
  | 0, _, h => h
  | _ + 1, _, h => h.1
theorem Dp.to {n : Nat} {G A : Hv} : ∀ {d : Nat} {v : VV}, Dp n G d v → (A = G ∨ closedV 0 v = true) → Dp n A d v
  | 0, _, h, hA => Tyd.to h hA
  | d + 1, v, h, hA => ⟨h.1.to hA, fun xs e x hx => (h.2 xs e x hx).to (hA.imp_right fun hc => by
      rw [e, closedV_tup] at hc
      exact closed_mem hc hx)⟩
theorem Dp.trim {n : Nat} {G A : Hv} : ∀ {d : Nat} {v : VV}, Dp n G d v → closedV n v = true → Dp n A d v
  | 0, _, h, hA => Tyd.trim h hA
  | d + 1, v, h, hA => ⟨h.1.trim hA, fun xs e x hx => (h.2 xs e x hx).trim (by
      rw [e, closedV_tup] at hA
      exact closed_mem hA hx)⟩
theorem Dp.more {n : Nat} {G : Hv} (E : Hv) : ∀ {d : Nat} {v : VV}, Dp n G d v → Dp n (G ++ E) d v
  | 0, _, h => Tyd.more h E
  | d + 1, v, h => ⟨h.1.more E, fun xs e x hx => (h.2 xs e x hx).more E⟩
theorem Dp.keep {n p : Nat} {G1 G2 : Hv} (hp : p < n) (w : Wd p G1 G2) : ∀ {d : Nat} {v : VV}, Dp n G1 d v → Dp n G2 d v
  | 0, _, h => Tyd.keep h hp w
  | d + 1, v, h => ⟨h.1.keep hp w, fun xs e x hx => (h.2 xs e x hx).keep hp w⟩
/-- data: nothing but texts, numbers, tuples -/
def dat : Nat → VV → Bool
  | 0, v => match v with
    | .exc _ _ | .clo _ _ | .cls _ | .ref _ => false
    | _ => true
  | d + 1, v => match v with
    | .exc _ _ | .clo _ _ | .cls _ | .ref _ => false
    | .tup xs => xs.all (dat d)
    | _ => true
theorem dat_dp (n : Nat) (G : Hv) : ∀ {d : Nat} {v : VV}, dat d v = true → Dp n G d v
  | 0, v, h => by cases v <;> simp [dat] at h <;> simp [Dp, Tyd]
  | d + 1, v, h => by
    refine ⟨by cases v <;> simp [dat] at h <;> simp [Tyd], fun xs e x hx => ?_⟩
    subst e
    simp only [dat] at h
    exact dat_dp n G (List.all_eq_true.mp h x hx)
theorem Dp.mk {n : Nat} {G : Hv} {d : Nat} {xs : List VV} (h : ∀ x ∈ xs, Dp n G d x) : Dp n G (d + 1) (.tup xs) := ⟨by simp [Tyd], fun ys e x hx => by cases e; exact h x hx⟩
def inR (m : Nat) : VV → Bool
  | .int i => decide (0 ≤ i) && decide (i < m)
  | _ => false
theorem is_integer_eq {n : Nat} {G : Hv} {v : VV} (h : Tyd n G v) : f_is_integer [v] G = .ok (.bl (isInt v && !isBl v)) G := by
  refine dDef_bl rfl fun A hA => ⟨[], ?_⟩
  obtain ⟨_, _, t3, t4⟩ := (h.to (A := A) (hA.imp_right fun h => by simp at h; exact h)).ty
  cases h1 : isInt v <;> simp [b_is_integer, start, t3, t4, h1]
theorem within_eq {n : Nat} {G : Hv} {v : VV} (h : Tyd n G v) (m : Nat) : f_is_within [v, .int 0, .int ((m : Int) - 1)] G = .ok (.bl (inR m v)) G := by
  refine dDef_bl rfl fun A hA => ⟨[], ?_⟩
  have t := is_integer_eq (h.to (A := A) (hA.imp_right fun h => by simp at h; exact h))
  cases v <;> simp [isInt, isBl] at t <;> simp [b_is_within, start, t, inR]
  rename_i i
  by_cases hi : 0 ≤ i <;> simp [hi] <;> omega
def laterOk (m : Nat) : VV → Bool
  | .non => true
  | v => inR m v
def isSt (m : Nat) : VV → Bool
  | .tup xs => decide (xs.length = 13) && ((xs[12]?).any isBl && (xs.take 12).all (laterOk m))
  | _ => false
theorem asBls_map {α : Type} (f : α → Bool) : ∀ xs : List α, asBls (xs.map fun x => VV.bl (f x)) = some (xs.map f)
  | [] => rfl
  | x :: xs => by simp [asBls, asBls_map f xs]
theorem all_lc {f : VV → Bool} {G : Hv} {xs : List VV} : bAll [.ref G.length] (G ++ [.lst (xs.map fun x => VV.bl (f x))]) = some (.bl (xs.all f), G ++ [.lst (xs.map fun x => VV.bl (f x))]) := by
  have : asListR (G ++ [.lst (xs.map fun x => VV.bl (f x))]) (.ref G.length) = some (xs.map fun x => VV.bl (f x)) := by simp [asListR]
  simp [bAll, this, asBls_map, List.all_map]
theorem state_eq {n m : Nat} {G : Hv} {v : VV} (h : Dp n G 1 v) : f_is_state [v, .int m] G = .ok (.bl (isSt m v)) G := by
  refine dDef_bl rfl fun A hA => ?_
  have h := h.to (A := A) (hA.imp_right fun h => by simp at h; exact h)
  have t := h.tyd.ty
  cases ht : isTup v with
  | false =>
    refine ⟨[], ?_⟩
    have : isSt m v = false := by cases v <;> simp [isTup] at ht <;> rfl
    simp [b_is_state, start, t.1, ht, this]
  | true =>
    obtain ⟨xs, rfl⟩ : ∃ xs, v = .tup xs := by cases v <;> simp [isTup] at ht; exact ⟨_, rfl⟩
    by_cases hl : xs.length = 13
    · obtain ⟨z, hz⟩ : ∃ z, xs[12]? = some z := ⟨_, List.getElem?_eq_getElem (by omega)⟩
      have hzm : z ∈ xs := List.mem_of_getElem? hz
      have tz := (h.2 xs rfl z hzm).tyd.ty
      have hz' : oIx A (.tup xs) (.int (-1)) = some z := getLast_ix A (by rw [List.getLast?_eq_getElem?, hl]; exact hz)
      have hv : isSt m (.tup xs) = (isBl z && (xs.take 12).all (laterOk m)) := by
        show (decide (xs.length = 13) && ((xs[12]?).any isBl && (xs.take 12).all (laterOk m))) = _
        rw [hz, hl]
        rfl
      rw [hv]
      clear hv
      cases hb : isBl z with
      | false =>
        refine ⟨[], ?_⟩
        simp [b_is_state, start, t.1, ht, hl, hb, hz', tz.2.2.1, c_ELEMENTS]
      | true =>
        have hc : cut xs none (some (-1)) = xs.take 12 := by simp [cut, sIx, hl]
        have e := lcL_map (chk := []) (g := gName 2) (e := dOr (dIsN (dVar 2)) (dCall f_is_within (aCons (dVar 2) (aCons (dC (.int 0)) (aCons (dBin oSub (dVar 1) (dC (.int 1))) (aNil)))))) (vs := [2]) (S0 := [some (.tup xs), some (.int m), none]) (D := A.length) (f := fun x => .bl (laterOk m x)) (xs.take 12) A rfl (fun _ => rfl) (by simp; omega) (fun x o hx => by
          have hx' := (h.2 xs rfl x (List.mem_of_mem_take hx)).tyd.more [o]
          have w := within_eq hx' m
          refine ⟨[some (.tup xs), some (.int m), some x], by simp, ?_⟩
          cases x <;> simp [laterOk, isN] <;> simpa [inR] using w)
        refine ⟨[.lst ((xs.take 12).map fun x => .bl (laterOk m x))], ?_⟩
        simp [b_is_state, start, t.1, ht, hl, hb, hz', tz.2.2.1, c_ELEMENTS, hc, seqOf, wipe, e]
        have := all_lc (f := laterOk m) (G := A) (xs := xs.take 12)
        simp at this
        rw [this]
        simp
    · refine ⟨[], ?_⟩
      have hl' : ¬ (xs.length : Int) = 13 := by omega
      simp [b_is_state, start, t.1, ht, isSt, hl, hl', c_ELEMENTS]
def isMach : VV → Bool
  | .tup ss => !ss.isEmpty && ss.all (isSt ss.length)
  | _ => false
theorem mach_eq {n : Nat} {G : Hv} {v : VV} (h : Dp n G 2 v) (hs : ∀ xs, v = .tup xs → xs.length < 1000) : f_is_machine [v] G = .ok (.bl (isMach v)) G := by
  refine dDef_bl rfl fun A hA => ?_
  have h := h.to (A := A) (hA.imp_right fun h => by simp at h; exact h)
  have t := h.tyd.ty
  cases ht : isTup v with
  | false =>
    refine ⟨[], ?_⟩
    have : isMach v = false := by cases v <;> simp [isTup] at ht <;> rfl
    simp [b_is_machine, start, t.1, ht, this]
  | true =>
    obtain ⟨xs, rfl⟩ : ∃ xs, v = .tup xs := by cases v <;> simp [isTup] at ht; exact ⟨_, rfl⟩
    have hl := hs xs rfl
    cases he : xs.isEmpty with
    | true =>
      refine ⟨[], ?_⟩
      simp [b_is_machine, start, t.1, ht, isMach, he]
    | false =>
      have e := lcL_map (chk := []) (g := gName 1) (e := dCall f_is_state (aCons (dVar 1) (aCons (dB bLen (aCons (dVar 0) (aNil))) (aNil)))) (vs := [1]) (S0 := [some (.tup xs), none]) (D := A.length) (f := fun x => .bl (isSt xs.length x)) xs A rfl (fun _ => rfl) (by show _ < 16777216; omega) (fun x o hx => by
        have w := state_eq (m := xs.length) ((h.2 xs rfl x hx).more [o])
        exact ⟨[some (.tup xs), some x], by simp, by simpa using w⟩)
      refine ⟨[.lst (xs.map fun x => .bl (isSt xs.length x))], ?_⟩
      simp [b_is_machine, start, t.1, ht, isMach, he, seqOf, wipe, e]
      have := all_lc (f := isSt xs.length) (G := A) (xs := xs)
      rw [this]
      simp
def areM (k : Int) : VV → Bool
  | .tup ms => decide ((ms.length : Int) = k) && ms.all isMach
  | _ => false
theorem machines_eq {n : Nat} {k : Int} {G : Hv} {v : VV} (h : Dp n G 3 v) (hs : ∀ xs, v = .tup xs → xs.length < 1000 ∧ ∀ x ∈ xs, ∀ ys, x = .tup ys → ys.length < 1000) : f_are_machines [v, .int k] G = .ok (.bl (areM k v)) G := by
  refine dDef_bl rfl fun A hA => ?_
  have h := h.to (A := A) (hA.imp_right fun h => by simp at h; exact h)
  have t := h.tyd.ty
  cases ht : isTup v with
  | false =>
    refine ⟨[], ?_⟩
    have : areM k v = false := by cases v <;> simp [isTup] at ht <;> rfl
    simp [b_are_machines, start, t.1, ht, this]
  | true =>
    obtain ⟨xs, rfl⟩ : ∃ xs, v = .tup xs := by cases v <;> simp [isTup] at ht; exact ⟨_, rfl⟩
    obtain ⟨hl, hs⟩ := hs xs rfl
    by_cases he : (xs.length : Int) = k
    · have e := lcL_map (chk := []) (g := gName 2) (e := dCall f_is_machine (aCons (dVar 2) (aNil))) (vs := [2]) (S0 := [some (.tup xs), some (.int k), none]) (D := A.length) (f := fun x => .bl (isMach x)) xs A rfl (fun _ => rfl) (by show _ < 16777216; omega) (fun x o hx => by
        have w := mach_eq ((h.2 xs rfl x hx).more [o]) (hs x hx)
        exact ⟨[some (.tup xs), some (.int k), some x], by simp, by simpa using w⟩)
      refine ⟨[.lst (xs.map fun x => .bl (isMach x))], ?_⟩
      simp [b_are_machines, start, t.1, ht, areM, he, seqOf, wipe, e]
      have := all_lc (f := isMach) (G := A) (xs := xs)
      rw [this]
      simp
    · refine ⟨[], ?_⟩
      simp [b_are_machines, start, t.1, ht, areM, he]
end DL
end S_G72
section S_Mj
set_option linter.all false
set_option maxRecDepth 100000
set_option maxHeartbeats 4000000
/-! Mj: accepts, for "never" and one layer. -/
namespace DL
theorem isKind_nin {z : List Nat} (h : z ∈ kindSS) (G : Hv) : cNin G (.str z) c_KINDS = some false := by
  rw [nin_kinds]
  have : kindSS.any (fun s => decide (s = z)) = true := List.any_eq_true.mpr ⟨z, h, by simp⟩
  rw [this]; rfl
theorem isSt_row {M : Mc} (hM : MOk M) {r : List (Option Nat) × Bool} (hr : r ∈ M) : isSt M.length (rowV r) = true := by
  have h12 := hM.len r hr
  unfold rowV
  show (decide ((r.1.map encI ++ [VV.bl r.2]).length = 13) && (((r.1.map encI ++ [VV.bl r.2])[12]?).any isBl && ((r.1.map encI ++ [VV.bl r.2]).take 12).all (laterOk M.length))) = true
  have e1 : (r.1.map encI ++ [VV.bl r.2]).length = 13 := by simp [h12]
  have e2 : (r.1.map encI ++ [VV.bl r.2])[12]? = some (.bl r.2) := by
    rw [List.getElem?_append_right (by simp [h12])]; simp [h12]
  have e3 : (r.1.map encI ++ [VV.bl r.2]).take 12 = r.1.map encI := by
    rw [List.take_append_of_le_length (by simp [h12]), List.take_of_length_le (by simp [h12])]
  rw [e1, e2, e3]
  simp only [decide_true, Option.any_some, isBl, Bool.true_and, List.all_eq_true]
  intro x hx
  obtain ⟨o, ho, rfl⟩ := List.mem_map.mp hx
  cases o with
  | none => rfl
  | some k =>
    have := hM.bnd r hr _ ho k rfl
    simp [encI, laterOk, inR]
    omega
theorem isMach_M {M : Mc} (hM : MOk M) : isMach (.tup (encM M)) = true := by
  show (!(encM M).isEmpty && (encM M).all (isSt (encM M).length)) = true
  have hl : (encM M).length = M.length := by simp [encM]
  rw [hl, Bool.and_eq_true]
  constructor
  · cases M with
    | nil => exact absurd hM.ne (by decide)
    | cons a b => rfl
  · rw [List.all_eq_true]
    intro x hx
    obtain ⟨r, hr, rfl⟩ := List.mem_map.mp hx
    exact isSt_row hM hr
theorem dat_M : ∀ M : Mc, (encM M).all (dat 1) = true
  | [] => rfl
  | r :: M => by
    have := dat_M M
    unfold encM at this ⊢
    rw [List.map_cons, List.all_cons, this, Bool.and_true]
    show (r.1.map encI ++ [VV.bl r.2]).all (dat 0) = true
    rw [List.all_append, Bool.and_eq_true]
    refine ⟨List.all_eq_true.mpr fun x hx => ?_, rfl⟩
    obtain ⟨o, _, rfl⟩ := List.mem_map.mp hx
    cases o <;> rfl
theorem are_M {Ms : List Mc} (h : ∀ M ∈ Ms, MOk M) (hl : Ms.length < 1000) (G : Hv) : f_are_machines [.tup (Ms.map fun M => .tup (encM M)), .int (Ms.length : Nat)] G = .ok (.bl true) G := by
  have hd : dat 3 (.tup (Ms.map fun M => .tup (encM M))) = true := by
    show (Ms.map fun M => VV.tup (encM M)).all (dat 2) = true
    rw [List.all_eq_true]
    intro x hx
    obtain ⟨M, _, rfl⟩ := List.mem_map.mp hx
    exact dat_M M
  rw [machines_eq (dat_dp 0 G hd) (fun xs e => by
    cases e
    refine ⟨by simpa using hl, fun x hx ys e => ?_⟩
    obtain ⟨M, hM, rfl⟩ := List.mem_map.mp hx
    cases e
    have := (h M hM).few
    simp [encM]
    omega)]
  have : areM (Ms.length : Nat) (.tup (Ms.map fun M => .tup (encM M))) = true := by
    show (decide (((Ms.map fun M => VV.tup (encM M)).length : Int) = (Ms.length : Nat)) && (Ms.map fun M => VV.tup (encM M)).all isMach) = true
    rw [Bool.and_eq_true]
    refine ⟨by simp, List.all_eq_true.mpr fun x hx => ?_⟩
    obtain ⟨M, hM, rfl⟩ := List.mem_map.mp hx
    exact isMach_M (h M hM)
  rw [this]
section
variable {p k : List Nat} {L : Ly} {I O M : Mc} {S : List PT} {A : Hv} {q : Nat} {rs : List VV}
/-- one layer -/
theorem holds_layers_one (hp : p ∈ planSS) (hrs : A[q]? = some (.lst rs)) (hP : PartsAt A [L.v] rs) (he : 1 ≤ L.e) (hS : Pairs L S) (hI : MOk I) (hO : MOk O) (lI : I.length ≤ 5) (lO : O.length ≤ 5) :
    f_holds_layers [.ref q, .str p, .tup [.tup (encM I), .tup (encM O)]] A = .ok (.bl (okLayer p L I O)) A := by
  obtain ⟨hl, hat⟩ := hP
  obtain ⟨r, hr0, hr⟩ := hat 0 L.v rfl
  have hrs1 : rs = [.ref r] := by
    match rs, hl, hr0 with
    | [x], _, h => cases h; rfl
  subst hrs1
  have hq : q < A.length := (List.getElem?_eq_some_iff.mp hrs).1
  refine dDef_bl rfl fun B hB => ?_
  rcases hB with rfl | hB
  · refine ⟨[.lst [.bl (okLayer p L I O)]], ?_⟩
    have e := lcL_map (chk := [(q, .lst [.ref r])]) (g := gTup [gName 3, gName 4]) (e := dCall f_holds_layer (aCons (dVar 4) (aCons (dVar 1) (aCons (dIx (dVar 2) (dVar 3)) (aCons (dIx (dVar 2) (dBin oAdd (dVar 3) (dC (.int 1)))) (aNil)))))) (vs := [3, 4]) (S0 := [some (.ref q), some (.str p), some (.tup [.tup (encM I), .tup (encM O)]), none, none]) (D := B.length) (f := fun _ => .bl (okLayer p L I O)) [.tup [.int 0, .ref r]] B rfl (fun o => by simp [stays, List.getElem?_append_left hq, hrs]) (by simp) (fun x o hx => by
      have hx := List.mem_singleton.mp hx
      subst hx
      refine ⟨[some (.ref q), some (.str p), some (.tup [.tup (encM I), .tup (encM O)]), some (.int 0), some (.ref r)], by simp, ?_⟩
      have w := holds_layer_eq (A := B ++ [o]) hp (keepA [o] hr) he hS hI hO lI lO
      have i0 : ∀ A, oIx A (.tup [.tup (encM I), .tup (encM O)]) (.int 0) = some (.tup (encM I)) := fun _ => rfl
      have i1 : ∀ A, oIx A (.tup [.tup (encM I), .tup (encM O)]) (.int 1) = some (.tup (encM O)) := fun _ => rfl
      simp [i0, i1, w])
    have en : enumOf B [.ref q] = some ([.tup [.int 0, .ref r]], [(q, .lst [.ref r])]) := by
      simp [enumOf, seqOf, hrs, num]
    have al := all_lc (f := fun _ => okLayer p L I O) (G := B) (xs := [.tup [.int 0, .ref r]])
    simp only [List.map_cons, List.map_nil, List.all_cons, List.all_nil, Bool.and_true] at al e
    simp [b_holds_layers, start, en, wipe, e, al]
  · simp at hB
theorem shows_never_one (hp : p ∈ planSS) (hk : k ∈ kindSS) (hrs : A[q]? = some (.lst rs)) (hP : PartsAt A [L.v] rs) (he : 1 ≤ L.e) (hS : Pairs L S) (hM : MOk M) (lM : M.length ≤ 5) :
    f_shows_never [.ref q, .str k, .str p, .tup [.tup (encM M)]] A = .ok (.bl (okLayer p L aloneM M && okNone p k M)) A := by
  have hl := hP.1
  have am := are_M (Ms := [M]) (fun N hN => by rw [List.mem_singleton.mp hN]; exact hM) (by simp) A
  have hls := holds_layers_one (A := A) hp hrs hP he hS alone_ok hM (by decide) lM
  have hn := holds_none_eq (A := A) hp hk hM
  have bl : asListR A (.ref q) = some rs := by simp [asListR, hrs]
  have hl1 : rs.length = 1 := hl
  refine dDef_bl rfl fun B hB => ⟨[], ?_⟩
  rcases hB with rfl | hB
  · have st : aStar (dVar 3) aNil [some (.ref q), some (.str k), some (.str p), some (.tup [.tup (encM M)])] B = .ok [.tup (encM M)] B := by
      simp [aStar, asSeq]
    have il : oIx B (.tup [.tup (encM M)]) (.int (-1)) = some (.tup (encM M)) := rfl
    simp only [List.map_cons, List.map_nil, List.length_cons, List.length_nil] at am
    rw [← alone_enc] at hls
    simp at am
    cases h1 : okLayer p L aloneM M <;> rw [h1] at hls <;> simp [b_shows_never, start, bl, hl1, am, st, hls, il, hn]
  · simp at hB
/-- a good claim, up to the certificate -/
theorem acc_never {G : Hv} {z s : List Nat} {c : VV} {ls : List VV} (hl : Lays ls) (hp : z ∈ planSS) (hk : s ∈ kindSS) (b : Bool)
    (h : ∀ A : Hv, (A = G ∨ closedV 0 c = true) → ∀ E r rs, (A ++ E)[r]? = some (.lst rs) → PartsAt (A ++ E) ls rs → f_shows_never [.ref r, .str s, .str z, c] (A ++ E) = .ok (.bl b) (A ++ E)) :
    f_accepts [.tup [.str [110, 101, 118, 101, 114], .str (wholeText ls), .str s, .str z], c] G = .ok (.bl b) G := by
  obtain ⟨h0, h1, h4, h8⟩ := hl
  refine dDef_bl rfl fun A hA => ?_
  have hA' : A = G ∨ closedV 0 c = true := hA.imp_right fun h => by
    simp at h
    exact h
  have e : ∀ xs, isTy A .tuple (.tup xs) = some true := fun _ => rfl
  have e2 : ∀ A w, isTy A .str (.str w) = some true := fun _ _ => rfl
  have hn := isPlan_nin hp A
  have hp := program_of_eq h0 h1 h4 h8 A
  have sz : tblGet [110, 101, 118, 101, 114] c_SIZES = some (.int 4) := rfl
  obtain ⟨E, rs, q1, q2, q3⟩ := parts_of_eq (G := A ++ [.lst (texts ls), progV ls]) (q := A.length + 1) h1 h4 (by rw [List.getElem?_append_right (by omega)]; simp)
  have hh := h A hA' ([.lst (texts ls), progV ls] ++ E) _ rs (by rw [← List.append_assoc]; exact q2) (by rw [← List.append_assoc]; exact q3)
  have hk := isKind_nin hk (A ++ ([.lst (texts ls), progV ls] ++ E))
  refine ⟨[.lst (texts ls), progV ls] ++ E, ?_⟩
  simp at q1 hh hk
  simp [b_accepts, start, e, e2, ix_four, sz, hn, ix_one, hp, ix_two, q1, hk, hh]
theorem acc_one {G : Hv} (hL : L.v ∈ allLays) (hw : wid L.v ≤ 8) (hp : p ∈ planSS) (hk : k ∈ kindSS) (he : 1 ≤ L.e) (hS : Pairs L S) (hM : MOk M) (lM : M.length ≤ 5) :
    f_accepts [.tup [.str [110, 101, 118, 101, 114], .str (txt L.v), .str k, .str p], .tup [.tup (encM M)]] G = .ok (.bl (okLayer p L aloneM M && okNone p k M)) G := by
  have hls : Lays [L.v] := ⟨by simp, by simpa using hL, by simp, by simpa [wsum] using hw⟩
  have ht : wholeText [L.v] = txt L.v := by simp [wholeText, joinS]
  have := acc_never (G := G) (c := .tup [.tup (encM M)]) hls hp hk (okLayer p L aloneM M && okNone p k M) fun A hA E r rs h1 h2 => shows_never_one hp hk h1 h2 he hS hM lM
  rw [ht] at this
  exact this
end
end DL
end S_Mj
section S_Dr
set_option linter.all false
set_option maxRecDepth 100000
set_option maxHeartbeats 4000000
/-! Dr: draws of layers, plans, kinds. -/
namespace DL
abbrev planS : List (List Nat) := planSS
theorem plan_spec {G : Hv} {p : Nat} (h : HasS G p) : Wp (f__law_plan [.ref p] G) fun v G2 => Nx p G G2 ∧ v ∈ ["behind", "front", "joined", "packed", "any"].map fun s => VV.str (s.toList.map Char.toNat) := by
  have hp := h.lt
  refine Wp_ref ?_
  simp [b__law_plan, start]
  obtain ⟨dg, G2, x, hx, w, e, e2⟩ := pick_w (m := 5) [VV.str [98, 101, 104, 105, 110, 100], VV.str [102, 114, 111, 110, 116], VV.str [106, 111, 105, 110, 101, 100], VV.str [112, 97, 99, 107, 101, 100], VV.str [97, 110, 121]] hp h.wd (by decide) (by decide) (by decide)
  simp [e, e2]
  have hx' : closedV G.length x = true := by simp at hx; rcases hx with rfl | rfl | rfl | rfl | rfl <;> simp
  exact w.end hx' fun G3 n => ⟨n, by simpa using hx⟩
theorem layer_spec {G : Hv} {p : Nat} {room : Int} (h : HasS G p) (r0 : 0 ≤ room) (r3 : room ≤ 3) : Wp (f__law_layer [.ref p, .int room] G) fun v G2 => Nx p G G2 ∧ v ∈ allLays ∧ wid v ≤ room := by
  have hp := h.lt
  refine Wp_ref ?_
  simp [b__law_layer, start]
  obtain ⟨d1, G1, x, hx, w1, e1, e2⟩ := pick_w (m := 5) [VV.str [108, 111, 111, 107], VV.str [97, 100, 100], VV.str [108, 111, 111, 107], VV.str [99, 108, 101, 97, 114], VV.str [108, 111, 111, 107]] hp h.wd (by decide) (by decide) (by decide)
  simp [e1, e2]
  have hx : x = .str tLook ∨ x = .str tAdd ∨ x = .str tClear := by
    simp at hx
    rcases hx with h | h | h | h | h <;> simp [h]
  obtain ⟨word, rfl⟩ : ∃ word, x = .str word := by rcases hx with h | h | h <;> exact ⟨_, h⟩
  have hx : word = tLook ∨ word = tAdd ∨ word = tClear := by simpa using hx
  by_cases hc : word = tClear ∨ room < 1
  · have hc' : word = [99, 108, 101, 97, 114] ∨ room < 1 := hc
    simp [hc']
    exact w1.end (by simp) fun G3 n => ⟨n, List.mem_cons_self .., by simpa [wid] using r0⟩
  · have hc' : ¬ (word = [99, 108, 101, 97, 114] ∨ room < 1) := hc
    have hw : word = tLook ∨ word = tAdd := by
      rcases hx with h | h | h
      · exact .inl h
      · exact .inr h
      · exact (hc (.inl h)).elim
    have hnc : word ≠ tClear := fun h => hc (.inl h)
    have hroom : 1 ≤ room := by
      have : ¬ room < 1 := fun h => hc (.inr h)
      omega
    simp [hc']
    obtain ⟨d2, G2, sc, hsc, w2, e3, e4⟩ := pick_w (m := 3) [VV.str [114, 111, 119], VV.str [116, 114, 117, 101], VV.str [108, 105, 110, 101]] hp w1 (by decide) (by decide) (by decide)
    simp [e3, e4]
    obtain ⟨scope, hscope, rfl⟩ : ∃ s, s ∈ [tRow, tTrue, tLine] ∧ sc = .str s := by
      simp at hsc
      rcases hsc with h | h | h <;> exact ⟨_, by simp, h⟩
    obtain ⟨fm, G3, f1, f2, n3, w3, e5⟩ := take_w (m := 6) hp w2 (by decide) (by decide)
    simp [-dOr_ap, e5]
    have own : ∃ o G4, Wd p G G4 ∧ (word = tAdd → o = true) ∧ dOr (dCmp cEq (dVar 2) (dC (VV.str [97, 100, 100]))) (dCmp cEq (dCall f__law_take (aCons (dVar 0) (aCons (dC (VV.int 2)) aNil))) (dC (VV.int 0)))
        [some (VV.ref p), some (VV.int room), some (VV.str word), some (VV.str scope), some (VV.int fm), none, none, none, none] G3 = .ok (.bl o) G4 := by
      by_cases ha : word = [97, 100, 100]
      · exact ⟨true, G3, w3, fun _ => rfl, by simp [ha]⟩
      · obtain ⟨d, G4, q1, q2, n4, w4, e⟩ := take_w (m := 2) hp w3 (by decide) (by decide)
        exact ⟨decide (d = 0), G4, w4, fun h => (ha h).elim, by simp [ha, e]⟩
    obtain ⟨o, G4, w4, ho, e6⟩ := own
    simp [-dOr_ap, e6]
    obtain ⟨d7, G5, _, _, n5, w5, e7⟩ := take_w (m := 4) hp w4 (by decide) (by decide)
    simp [e7]
    have cl : ∀ y n e sp, closedV G.length (lay word scope y n e o sp) = true := fun y n e sp => by simp
    by_cases h5 : fm = 5
    · simp [h5]
      obtain ⟨d8, G6, y, hy, w6, e8, e9⟩ := pick_w (m := 2) [VV.str [102, 105, 114, 115, 116], VV.str [108, 97, 115, 116]] hp w5 (by decide) (by decide) (by decide)
      simp [e8, e9]
      obtain ⟨way, hway, rfl⟩ : ∃ s, s ∈ [tFirst, tLast] ∧ y = .str s := by
        simp at hy
        rcases hy with h | h <;> exact ⟨_, by simp, h⟩
      refine w6.end (by simp) fun G7 n => ⟨n, mem_lays hw ho (List.mem_append_left _ (List.mem_map.mpr ⟨way, hway, rfl⟩)), ?_⟩
      have : way = tFirst ∨ way = tLast := by simpa using hway
      simp [wid, hnc, this]
      exact hroom
    · simp [h5, bMin2]
      have hm : (if (3 : Int) < room then 3 else room) = room := by rw [if_neg (by omega)]
      obtain ⟨d8, G6, b1, b2, n6, w6, e8⟩ := take_w (m := room) hp w5 (by omega) (by omega)
      simp [hm, e8]
      have hn3 : 1 + d8 = 1 ∨ 1 + d8 = 2 ∨ 1 + d8 = 3 := by omega
      by_cases h4 : fm = 4
      · simp [h4]
        obtain ⟨d9, G7, y, hy, w7, e9, e10⟩ := pick_w (m := 2) [VV.str [97, 116, 32, 98, 97, 99, 107], VV.str [97, 116, 32, 97, 104, 101, 97, 100]] hp w6 (by decide) (by decide) (by decide)
        simp [e9, e10]
        obtain ⟨way, hway, rfl⟩ : ∃ s, s ∈ [tAtBack, tAtAhead] ∧ y = .str s := by
          simp at hy
          rcases hy with h | h <;> exact ⟨_, by simp, h⟩
        refine w7.end (by simp) fun G8 n => ⟨n, mem_lays hw ho (List.mem_append_right _ (List.mem_flatMap.mpr ⟨scope, hscope, List.mem_append_left _ (List.mem_flatMap.mpr ⟨way, hway, List.mem_map.mpr ⟨1 + d8, by simpa using hn3, rfl⟩⟩)⟩)), ?_⟩
        have : ¬ (way = tFirst ∨ way = tLast) := by
          simp at hway
          rcases hway with h | h <;> rw [h] <;> simp
        have h0 : 1 + d8 ≠ 0 := by omega
        simp [wid, hnc, this, h0]
        omega
      · simp [h4]
        obtain ⟨d9, G7, y, hy, w7, e9, e10⟩ := pick_w (m := 3) [VV.str [98, 97, 99, 107], VV.str [97, 104, 101, 97, 100], VV.str [97, 114, 111, 117, 110, 100]] hp w6 (by decide) (by decide) (by decide)
        simp [e9, e10]
        obtain ⟨way, hway, rfl⟩ : ∃ s, s ∈ [tBack, tAhead, tAround] ∧ y = .str s := by
          simp at hy
          rcases hy with h | h | h <;> exact ⟨_, by simp, h⟩
        have hnf : ¬ (way = tFirst ∨ way = tLast) := by
          simp at hway
          rcases hway with h | h | h <;> rw [h] <;> simp
        have mem : ∀ (n e : Int) (sp : Bool), n ∈ [(0 : Int), 1, 2, 3] → e ∈ [(1 : Int), 2, 3] → lay word scope way n e o sp ∈ allLays := fun n e sp hn he =>
          mem_lays hw ho (List.mem_append_right _ (List.mem_flatMap.mpr ⟨scope, hscope, List.mem_append_right _ (List.mem_flatMap.mpr ⟨way, hway, List.mem_flatMap.mpr ⟨n, hn, List.mem_map.mpr ⟨e, he, rfl⟩⟩⟩)⟩))
        by_cases h3 : fm = 3
        · simp [h3]
          refine w7.end (by simp) fun G8 n => ⟨n, mem 0 (1 + d8) _ (by simp) (by simpa using hn3), ?_⟩
          simp [wid, hnc, hnf]
          omega
        · simp [h3]
          obtain ⟨d10, G8, ev, hev, w8, e11, e12⟩ := pick_w (m := 4) [VV.int 1, VV.int 1, VV.int 2, VV.int 3] hp w7 (by decide) (by decide) (by decide)
          simp [e11, e12]
          obtain ⟨every, hevery, rfl⟩ : ∃ s, s ∈ [(1 : Int), 2, 3] ∧ ev = .int s := by
            simp at hev
            rcases hev with h | h | h <;> exact ⟨_, by simp, h⟩
          refine w8.end (by simp) fun G9 n => ⟨n, mem (1 + d8) every _ (by simp; omega) hevery, ?_⟩
          have h0 : 1 + d8 ≠ 0 := by omega
          simp [wid, hnc, hnf, h0]
          omega

/-! ### lines -/
theorem str_mem {ss : List String} {v : VV} {ts : List (List Nat)} (h : v ∈ ss.map fun s => VV.str (s.toList.map Char.toNat)) (e : ss.map (fun s => s.toList.map Char.toNat) = ts) : ∃ t ∈ ts, v = .str t := by
  obtain ⟨s, hs, rfl⟩ := List.mem_map.mp h
  exact ⟨_, e ▸ List.mem_map_of_mem hs, rfl⟩
theorem plan_k {G1 : Hv} {p : Nat} (h : HasS G1 p) : ∃ s G2, s ∈ planS ∧ Wd p G1 G2 ∧ HasS G2 p ∧ f__law_plan [.ref p] G1 = .ok (.str s) G2 := by
  obtain ⟨v, G2, e, n, hv⟩ := plan_spec h
  obtain ⟨t, ht, rfl⟩ := str_mem (ts := planS) hv (by decide)
  exact ⟨t, G2, ht, n.wd, n.wd.has h.lt, e⟩
end DL
end S_Dr
section S_Dm
set_option linter.all false
set_option maxRecDepth 100000
set_option maxHeartbeats 4000000
/-! Dm: draws of machines. -/
namespace DL
def rep3 (r : List (Option Nat)) (b : Bool) : List (Option Nat) × Bool := (r ++ r ++ r, b)
/-- the law's machines -/
def mach (way : Nat) : Mc :=
  let n : List (Option Nat) := [none, none, none, none]
  let after : List (Option Nat) := [some 1, some 1, none, none]
  let still : List (Option Nat) := [some 2, none, none, none]
  let row : List (Option Nat) := [some 0, some 0, some 1, some 1]
  let beg : List (Option Nat) := [some 0, some 1, some 1, some 2]
  let turn : List (Option Nat) := [some 1, some 2, some 2, none]
  match way with
  | 0 => [rep3 [some 0, none, none, some 1] false, rep3 [some 1, none, none, none] true]
  | 1 => [(row ++ row ++ [some 0, some 0, none, none], false), rep3 after true]
  | 2 => [(row ++ row ++ [some 0, some 0, none, some 1], false), rep3 after true]
  | 3 => [(beg ++ beg ++ [some 0, none, none, some 2], false), (n ++ turn ++ n, false), rep3 still true]
  | 4 => [rep3 [some 0, none, some 1, some 2] false, rep3 [some 1, some 2, none, none] false, rep3 still true]
  | 5 => [rep3 [some 0, some 1, none, some 2] false, rep3 [some 1, none, some 2, none] false, rep3 still true]
  | 6 => [rep3 beg false, rep3 [none, some 2, some 2, none] false, rep3 still true]
  | _ => [rep3 [some 0, some 1, some 2, some 3] false, rep3 [some 1, none, some 3, none] false, rep3 [some 2, some 3, none, none] false, rep3 [some 3, none, none, none] true]
def mokB (M : Mc) : Bool := M.all (fun r => decide (r.1.length = 12) && r.1.all fun o => match o with | some k => decide (k < M.length) | none => true) && (decide (0 < M.length) && decide (M.length ≤ 40))
theorem mok_of {M : Mc} (h : mokB M = true) : MOk M := by
  unfold mokB at h
  simp only [Bool.and_eq_true, List.all_eq_true, decide_eq_true_eq] at h
  refine ⟨fun r hr => (h.1 r hr).1, fun r hr o ho k e => ?_, h.2.1, h.2.2⟩
  have := (h.1 r hr).2 o ho
  subst e
  simpa using this
theorem mach_all : ((List.range 8).all fun w => mokB (mach w) && (decide ((mach w).length ≤ 4) && isV (.tup (encM (mach w))) (f__law_machine [.int (w : Nat)] []))) = true := by decide +kernel
theorem mach_at {w : Nat} (h : w < 8) : MOk (mach w) ∧ (mach w).length ≤ 4 ∧ ∀ G, f__law_machine [.int (w : Nat)] G = .ok (.tup (encM (mach w))) G := by
  have c := List.all_eq_true.mp mach_all w (List.mem_range.mpr h)
  simp only [Bool.and_eq_true, decide_eq_true_eq] at c
  exact ⟨mok_of c.1, c.2.1, fun G => isV_at c.2.2 (by simp) (by simp [closed_M])⟩
theorem set_of_take {α : Type} {xs : List α} {i : Nat} {x : α} (h : i < xs.length) : xs.take i ++ x :: xs.drop (i + 1) = xs.set i x := by
  rw [List.set_eq_take_append_cons_drop, if_pos h]
theorem mok_snoc {M : Mc} (h : MOk M) {r : List (Option Nat) × Bool} (hr : r ∈ M) (hl : M.length ≤ 4) : MOk (M ++ [r]) := by
  refine ⟨fun q hq => ?_, fun q hq o ho k e => ?_, by simp, by simp; omega⟩
  · rcases List.mem_append.mp hq with hq | hq
    · exact h.len q hq
    · rw [List.mem_singleton.mp hq]; exact h.len r hr
  · have : k < M.length := by
      rcases List.mem_append.mp hq with hq | hq
      · exact h.bnd q hq o ho k e
      · rw [List.mem_singleton.mp hq] at ho; exact h.bnd r hr o ho k e
    simp
    omega
theorem mok_set {M : Mc} (h : MOk M) {r : List (Option Nat) × Bool} (h12 : r.1.length = 12) (hb : ∀ o ∈ r.1, ∀ k, o = some k → k < M.length) (i : Nat) : MOk (M.set i r) := by
  refine ⟨fun q hq => ?_, fun q hq o ho k e => ?_, by simpa using h.ne, by simpa using h.few⟩
  · rcases List.mem_or_eq_of_mem_set hq with hq | rfl
    · exact h.len q hq
    · exact h12
  · rw [List.length_set]
    rcases List.mem_or_eq_of_mem_set hq with hq | rfl
    · exact h.bnd q hq o ho k e
    · exact hb o ho k e
theorem cut_take {α : Type} {xs : List α} {i : Nat} (h : i ≤ xs.length) : cut xs none (some (i : Int)) = xs.take i := by
  simp [cut, sIx, show ¬ (i : Int) < 0 by omega, Nat.min_eq_left h]
theorem cut_drop {α : Type} {xs : List α} {i : Nat} (h : i ≤ xs.length) : cut xs (some (i : Int)) none = xs.drop i := by
  simp only [cut, sIx, show ¬ (i : Int) < 0 by omega, if_false]
  rw [Int.toNat_natCast, Nat.min_eq_left h]
  exact List.take_of_length_le (by simp)
theorem cut_drop1 {α : Type} {xs : List α} {i : Nat} (h : i + 1 ≤ xs.length) : cut xs (some ((i : Int) + 1)) none = xs.drop (i + 1) := by
  have := cut_drop h
  rwa [Int.natCast_add] at this
theorem upTo_nats : ∀ (n : Nat) (lo : Nat) (x : VV), x ∈ upTo (lo : Nat) n → ∃ k : Nat, lo ≤ k ∧ k < lo + n ∧ x = .int (k : Nat)
  | 0, _, x, h => by simp [upTo] at h
  | n + 1, lo, x, h => by
    rw [upTo] at h
    rcases List.mem_cons.mp h with rfl | h
    · exact ⟨lo, Nat.le_refl _, by omega, rfl⟩
    · obtain ⟨k, h1, h2, e⟩ := upTo_nats n (lo + 1) x (by simpa using h)
      exact ⟨k, by omega, by omega, e⟩
theorem pick_k {G1 : Hv} {p : Nat} {m : Int} {r : Nat} {xs : List VV} (h : HasS G1 p) (hr : G1[r]? = some (.lst xs)) (hrp : r ≠ p) (hm : 0 < m) (hm2 : m < 1073741824) (hl : m ≤ xs.length) :
    ∃ d G2 x, x ∈ xs ∧ Nx p G1 G2 ∧ HasS G2 p ∧ f__law_take [.ref p, .int m] G1 = .ok (.int d) G2 ∧ oIx G2 (.ref r) (.int d) = some x := by
  obtain ⟨d, G2, h1, h2, h3, h4⟩ := take_spec h hm hm2
  have hg := keep h3.wd hrp hr
  obtain ⟨x, hx, e⟩ := ix_lit hg h1 (by omega)
  exact ⟨d, G2, x, hx, h3, h3.wd.has h.lt, h4, e⟩
theorem bent_spec {G : Hv} {p : Nat} {M : Mc} (h : HasS G p) (hM : MOk M) (hl4 : M.length ≤ 4) : Wp (f__law_bent [.ref p, .tup (encM M)] G) fun v G2 => Nx p G G2 ∧ ∃ M', v = .tup (encM M') ∧ MOk M' ∧ M'.length ≤ 5 := by
  have hp := h.lt
  have hne := hM.ne
  have hel : (encM M).length = M.length := by simp [encM]
  refine Wp_ref ?_
  obtain ⟨d1, G1, a0, a1, n1, w1, h1, e1⟩ := take_k (m := 4) h [] (by decide) (by decide)
  obtain ⟨d2, G2, b0, b1, n2, w2, h2, e2⟩ := take_k (m := M.length) h1 [] (by omega) (by omega)
  obtain ⟨d3, G3, c0, c1, n3, w3, h3, e3⟩ := take_k (m := 13) h2 [] (by decide) (by decide)
  simp only [List.append_nil] at e1 e2 e3
  obtain ⟨i, rfl⟩ : ∃ i : Nat, d2 = i := ⟨d2.toNat, by omega⟩
  obtain ⟨pl, rfl⟩ : ∃ i : Nat, d3 = i := ⟨d3.toNat, by omega⟩
  have hi : i < M.length := by omega
  have hpl : pl < 13 := by omega
  have w03 : Wd p G G3 := (w1.wd hp w2).wd hp w3
  obtain ⟨r, hr, hrm, _⟩ := ixM hi []
  have ixr : ∀ A, oIx A (.tup (encM M)) (.int (i : Nat)) = some (rowV r) := fun A => by
    obtain ⟨r', hr', _, e⟩ := ixM hi A
    rw [hr] at hr'; cases hr'
    exact e
  have h12 := hM.len r hrm
  have bl : ∀ A, bLen [.tup (encM M)] A = some (.int (M.length : Nat), A) := fun A => by rw [bLen_tup, hel]
  simp [-sIf_ap, -dIf_ap, -bLen_tup, b__law_bent, start, bl, e1, e2, e3]
  by_cases q0 : d1 = 0
  · have hle : M.length ≤ 16777215 := by omega
    simp [q0, ixr, oAdd, hel, hle]
    refine w03.end ?_ fun G' n => ⟨n, M ++ [r], ?_, mok_snoc hM hrm hl4, by simp; omega⟩
    · have : encM M ++ [rowV r] = encM (M ++ [r]) := by simp [encM]
      simp [this, closed_M]
    · simp [encM]
  by_cases q1 : d1 = 1
  · simp [q1]
    exact w03.end (by simp [closed_M]) fun G' n => ⟨n, M, rfl, hM, by omega⟩
  -- another element
  have hble : Nat.ble M.length 16777216 = true := Nat.ble_eq_true_of_le (by omega)
  have hnl : (upTo 0 M.length).length = M.length := upTo_len _ _
  have hle2 : 1 + M.length ≤ 16777216 := by omega
  simp [-dIf_ap, -bLen_tup, q0, q1, ixr, bl, oAdd, List.getElem?_append_right, newL, hble, hnl, hle2]
  generalize hGE : G3 ++ _ = GE
  have hE : HasS GE p := by rw [← hGE]; exact hasA h3 _
  have wE : Wd p G3 GE := by rw [← hGE]; exact h3.wd.more _
  have hN : GE[G3.length + 2]? = some (.lst (.non :: upTo 0 M.length)) := by
    rw [← hGE, List.getElem?_append_right (by omega)]; simp
  clear hGE
  have hp3 := h3.lt
  have thingx : ∃ (r' : List (Option Nat) × Bool) (t : VV) (G5 : Hv), Wd p GE G5 ∧ HasS G5 p ∧ r'.1.length = 12 ∧ (∀ o ∈ r'.1, ∀ k, o = some k → k < M.length) ∧ rowV r' = .tup ((r.1.map encI ++ [VV.bl r.2]).set pl t) ∧
      dIf (tV (dCmp cEq (dVar 4) (dC (.int 12)))) (dNot (dIx (dVar 5) (dC (.int 12)))) (dIx (dVar 6) (dCall f__law_take (aCons (dVar 0) (aCons (dB bLen (aCons (dVar 6) (aNil))) (aNil)))))
      [some (.ref p), some (.tup (encM M)), some (.int d1), some (.int i), some (.int pl), some (rowV r), some (.ref (G3.length + 2)), none, none] GE = .ok t G5 := by
    by_cases h12' : pl = 12
    · have hi12 : (pl : Int) = 12 := by omega
      have e12 := (ixEnd h12 GE).2
      refine ⟨(r.1, !r.2), .bl (!r.2), GE, hE.wd, hE, h12, fun o ho k e => hM.bnd r hrm o ho k e, ?_, by simp [hi12, e12]⟩
      subst h12'
      unfold rowV
      rw [List.set_append_right _ _ (by simp [h12])]
      simp [h12]
    · have hi12 : ¬ (pl : Int) = 12 := by omega
      obtain ⟨d4, G4, x, hx, n4, h4, e4, ix4⟩ := pick_k (m := ((M.length : Int) + 1)) (r := G3.length + 2) (xs := .non :: upTo 0 M.length) hE hN (by omega) (by omega) (by omega) (by rw [List.length_cons, hnl]; omega)
      obtain ⟨o, ho, hob⟩ : ∃ o : Option Nat, x = encI o ∧ ∀ k, o = some k → k < M.length := by
        rcases List.mem_cons.mp hx with rfl | hx
        · exact ⟨none, rfl, fun k e => by cases e⟩
        · obtain ⟨k, _, hk, rfl⟩ := upTo_nats M.length 0 x (by simpa using hx)
          exact ⟨some k, rfl, fun k' e => by cases e; omega⟩
      have al : asListR GE (.ref (G3.length + 2)) = some (.non :: upTo 0 M.length) := by simp [asListR, hN]
      refine ⟨(r.1.set pl o, r.2), x, G4, n4.wd, h4, by simpa using h12, fun o' ho' k e => ?_, ?_, ?_⟩
      · rcases List.mem_or_eq_of_mem_set ho' with z | z
        · exact hM.bnd r hrm o' z k e
        · subst z; exact hob k e
      · unfold rowV
        rw [List.set_append_left _ _ (by simp [h12]; omega), ho]
        simp [List.map_set]
      · simp [hi12, al, hnl, e4, ix4]
  obtain ⟨r', t, G5, w5, h5, r12, rb, rv, e5⟩ := thingx
  simp [-sIf_ap, -dIf_ap, e5]
  have hrow : rowV r = .tup (r.1.map encI ++ [.bl r.2]) := rfl
  have hrl : (r.1.map encI ++ [VV.bl r.2]).length = 13 := by simp [h12]
  have k1 : cut (r.1.map encI ++ [VV.bl r.2]) none (some (pl : Int)) = (r.1.map encI ++ [VV.bl r.2]).take pl := cut_take (by omega)
  have k2 : cut (r.1.map encI ++ [VV.bl r.2]) (some ((pl : Int) + 1)) none = (r.1.map encI ++ [VV.bl r.2]).drop (pl + 1) := cut_drop1 (by omega)
  have k3 : cut (encM M) none (some (i : Int)) = (encM M).take i := cut_take (by omega)
  have k4 : cut (encM M) (some ((i : Int) + 1)) none = (encM M).drop (i + 1) := cut_drop1 (by omega)
  have s1 := set_of_take (x := t) (xs := r.1.map encI ++ [VV.bl r.2]) (i := pl) (by omega)
  have s2 := set_of_take (x := rowV r') (xs := encM M) (i := i) (by omega)
  have s3 : (encM M).set i (rowV r') = encM (M.set i r') := by simp [encM, List.map_set]
  rw [hrow]
  generalize r.1.map encI ++ [VV.bl r.2] = row at k1 k2 s1 hrl rv
  have l1 : (List.take pl row).length ≤ 13 := by simp; omega
  have l2 : (List.drop (pl + 1) row).length ≤ 13 := by simp; omega
  have l3 : (List.take i (encM M)).length ≤ 4 := by simp; omega
  have l4 : (List.drop (i + 1) (encM M)).length ≤ 4 := by simp; omega
  simp [k1]
  rw [if_pos (by omega)]
  simp [k2]
  rw [if_pos (by omega)]
  simp [k3]
  rw [if_pos (by omega)]
  simp [k4]
  rw [if_pos (by omega)]
  simp
  have w05 : Wd p G G5 := (w03.wd hp wE).wd hp w5
  rw [s1, ← rv, s2, s3]
  exact w05.end (by simp [closed_M]) fun G' n => ⟨n, M.set i r', rfl, mok_set hM r12 rb i, by simp; omega⟩
end DL
end S_Dm
section S_Tx
set_option linter.all false
set_option maxRecDepth 1000000
set_option maxHeartbeats 4000000
/-! Tx: the layers' texts and what fits to them, looked through. -/
namespace DL
def is07 : VV → Bool
  | .int i => decide (0 ≤ i) && decide (i < 8)
  | _ => false
def fitOk (l : VV) : Bool := match f__law_fitting [l] [] with
  | .ok (.ref i) E => (match (E[i]? : Option VO) with
    | some (VO.lst ws) => ws.all is07 && (!ws.isEmpty && Nat.ble ws.length 20)
    | _ => false)
  | _ => false
def txOk (l : VV) : Bool := isV (.str (txt l)) (f__law_text [l] []) && fitOk l
def txP (i : Nat) : Bool := ((allLays.drop (60 * i)).take 60).all txOk
theorem tx_p0 : txP 0 = true := by decide +kernel
theorem tx_p1 : txP 1 = true := by decide +kernel
theorem tx_p2 : txP 2 = true := by decide +kernel
theorem tx_p3 : txP 3 = true := by decide +kernel
theorem tx_p4 : txP 4 = true := by decide +kernel
theorem tx_p5 : txP 5 = true := by decide +kernel
theorem tx_p6 : txP 6 = true := by decide +kernel
theorem tx_p7 : txP 7 = true := by decide +kernel
theorem tx_p8 : txP 8 = true := by decide +kernel
theorem tx_p9 : txP 9 = true := by decide +kernel
theorem tx_p10 : txP 10 = true := by decide +kernel
theorem tx_p11 : txP 11 = true := by decide +kernel
theorem tx_p12 : txP 12 = true := by decide +kernel
theorem tx_ps : ∀ i : Nat, i < 13 → txP i = true
  | 0, _ => tx_p0
  | 1, _ => tx_p1
  | 2, _ => tx_p2
  | 3, _ => tx_p3
  | 4, _ => tx_p4
  | 5, _ => tx_p5
  | 6, _ => tx_p6
  | 7, _ => tx_p7
  | 8, _ => tx_p8
  | 9, _ => tx_p9
  | 10, _ => tx_p10
  | 11, _ => tx_p11
  | 12, _ => tx_p12
  | n + 13, h => absurd h (by omega)
theorem tx_all : allLays.all txOk = true := all_pieces 13 allLays allLays_len tx_ps
theorem law_text_eq {l : VV} (h : l ∈ allLays) (G : Hv) : f__law_text [l] G = .ok (.str (txt l)) G := by
  have c := List.all_eq_true.mp tx_all l h
  unfold txOk at c
  rw [Bool.and_eq_true] at c
  exact isV_at c.1 (by simp [closed_lay h]) (by simp)
theorem closed_07 (n : Nat) : ∀ {ws : List VV}, ws.all is07 = true → closedL n ws = true
  | [], _ => by simp
  | x :: ws, h => by
    rw [List.all_cons, Bool.and_eq_true] at h
    rw [closedL_cons, closed_07 n h.2, Bool.and_true]
    cases x <;> simp [is07] at h ⊢
theorem fitting_eq {l : VV} (h : l ∈ allLays) (G : Hv) : ∃ i E ws, f__law_fitting [l] G = .ok (.ref (G.length + i)) (G ++ E) ∧ (G ++ E)[G.length + i]? = some (.lst ws) ∧ ws ≠ [] ∧ ws.length ≤ 20 ∧ ∀ x ∈ ws, ∃ k : Nat, k < 8 ∧ x = .int (k : Nat) := by
  have c := List.all_eq_true.mp tx_all l h
  unfold txOk at c
  rw [Bool.and_eq_true] at c
  have c := c.2
  unfold fitOk at c
  split at c
  · rename_i i E e
    split at c
    · rename_i ws hw
      simp only [Bool.and_eq_true] at c
      refine ⟨i, E.map (shO G.length), ws, loc_ref (by simp [closed_lay h]) e G, ?_, ?_, Nat.le_of_ble_eq_true c.2.2, fun x hx => ?_⟩
      · rw [List.getElem?_append_right (Nat.le_add_right _ _), Nat.add_sub_cancel_left, List.getElem?_map, hw]
        simp only [Option.map_some]
        rw [shO, shL_closed _ (closed_07 0 c.1)]
      · intro h0
        rw [h0] at c
        simp at c
      · have := List.all_eq_true.mp c.1 x hx
        cases x with
        | int z =>
          simp [is07] at this
          exact ⟨z.toNat, by omega, by congr 1; omega⟩
        | _ => simp [is07] at this
    · cases c
  · cases c
end DL
end S_Tx
section S_J72
set_option linter.all false
set_option maxRecDepth 100000
set_option maxHeartbeats 4000000
/-! J72: _law_judged_right. -/
namespace DL
theorem goC_all : ∀ i : Nat, i < 12 → goC i = true
  | 0, _ => go_0
  | 1, _ => go_1
  | 2, _ => go_2
  | 3, _ => go_3
  | 4, _ => go_4
  | 5, _ => go_5
  | 6, _ => go_6
  | 7, _ => go_7
  | 8, _ => go_8
  | 9, _ => go_9
  | 10, _ => go_10
  | 11, _ => go_11
  | n + 12, h => absurd h (by omega)
theorem tkA_word {L : Ly} (h : L.w ≠ tClear) (a b x m : Nat) : tkA { L with w := tAdd } a b x m = tkA L a b x m := by
  have h' : ¬ tAdd = tClear := by decide
  unfold tkA took begn farth rightD
  simp [h, h']
theorem lawTk_word {L : Ly} (h : L.w ≠ tClear) (a b : Nat) (c : Bool) (d x m : Nat) : lawTk { L with w := tAdd } a b c d x m = lawTk L a b c d x m := by
  have h' : ¬ tAdd = tClear := by decide
  unfold lawTk lawTaken lawFar
  simp [h, h']
theorem pieces40 {α : Type} {q : α → Bool} : ∀ (n : Nat) (L : List α), (∀ i, i < n → ((L.drop (40 * i)).take 40).all q = true) → (L.take (40 * n)).all q = true
  | 0, L, _ => by simp
  | n + 1, L, h => by
    have h0 := h 0 (by omega)
    have ih := pieces40 n (L.drop 40) fun i hi => by
      have := h (i + 1) (by omega)
      rw [List.drop_drop, show 40 + 40 * i = 40 * (i + 1) by omega]
      exact this
    have e : L.take (40 * (n + 1)) = L.take 40 ++ (L.drop 40).take (40 * n) := by
      rw [show 40 * (n + 1) = 40 + 40 * n by omega, List.take_add]
    rw [e, List.all_append, ih, Bool.and_true]
    simpa using h0
theorem go_front : (allLy.take 513).all goP = true := by
  have h1 := pieces40 12 allLy goC_all
  have h2 := go_12
  have e : allLy.take 513 = allLy.take 480 ++ (allLy.drop 480).take 33 := by rw [show 513 = 480 + 33 from rfl, List.take_add]
  rw [e, List.all_append, h1, h2]
  rfl
theorem look_clear : ((allLy.drop 1).take 256).all (fun L => decide (L.w ≠ tClear)) = true := by decide +kernel
theorem all_pairs {L : Ly} (h : L ∈ allLy) : ∃ S, Pairs L S := by
  rw [← List.take_append_drop 513 allLy] at h
  rcases List.mem_append.mp h with h | h
  · exact goP_pairs (List.all_eq_true.mp go_front L h)
  · rw [adds] at h
    obtain ⟨L0, h0, rfl⟩ := List.mem_map.mp h
    have hc := of_decide_eq_true (List.all_eq_true.mp look_clear L0 h0)
    have h1 : L0 ∈ allLy.take 513 := by
      have : (allLy.drop 1).take 256 = (allLy.take 257).drop 1 := by rw [List.drop_take]
      rw [this] at h0
      have h2 := List.mem_of_mem_drop h0
      rw [show 257 = min 257 513 from rfl, ← List.take_take] at h2
      exact List.mem_of_mem_take h2
    obtain ⟨S, hS⟩ := goP_pairs (List.all_eq_true.mp go_front L0 h1)
    refine ⟨S, hS.start, fun p hp x m hx hm => ?_, hS.ok, hS.few⟩
    have := hS.step p hp x m hx hm
    obtain ⟨c, t⟩ := p
    have e : stepP { L0 with w := tAdd } (c, t) x m = stepP L0 (c, t) x m := by
      unfold stepP stA stT
      congr 1
      · cases c with
        | none => rfl
        | some q => exact tkA_word hc _ _ _ _
      · cases t with
        | none => rfl
        | some q => exact lawTk_word hc _ _ _ _ _ _
    rw [e]
    exact this
theorem kind_k {G1 : Hv} {p : Nat} (h : HasS G1 p) : ∃ s G2, s ∈ kindSS ∧ Wd p G1 G2 ∧ HasS G2 p ∧ f__law_kind [.ref p] G1 = .ok (.str s) G2 := by
  have hp := h.lt
  have : Wp (f__law_kind [.ref p] G1) fun v G2 => Nx p G1 G2 ∧ v ∈ kindSS.map VV.str := by
    refine Wp_ref ?_
    simp [b__law_kind, start]
    obtain ⟨dg, G2, x, hx, w, e, e2⟩ := pick_w (m := 5) (kindSS.map VV.str) hp h.wd (by decide) (by decide) (by decide)
    simp at e
    simp [e, e2]
    have hx' : closedV G1.length x = true := by simp at hx; rcases hx with rfl | rfl | rfl | rfl | rfl <;> simp
    exact w.end hx' fun G3 n => ⟨n, by simpa using hx⟩
  obtain ⟨v, G2, e, n, hv⟩ := this
  obtain ⟨t, ht, rfl⟩ := List.mem_map.mp hv
  exact ⟨t, G2, ht, n.wd, n.wd.has hp, e⟩
theorem repr_eq (b : Bool) (G : Hv) : bReprB [.bl b] G = some (.str (if b then [84, 114, 117, 101] else [70, 97, 108, 115, 101]), G) := by cases b <;> rfl
theorem judged_spec {G : Hv} {p : Nat} (h : HasS G p) : Wp (f__law_judged_right [.ref p] G) fun v G2 => v = .bl true ∧ Nx p G G2 := by
  have hp := h.lt
  refine Wp_ref ?_
  obtain ⟨lv, G1, e1, n1, hlv, hwid⟩ := layer_spec (room := 3) h (by decide) (by decide)
  have w1 := n1.wd
  have h1 := w1.has hp
  obtain ⟨L, hL, rfl, he1, he3, hn3⟩ := ly_of hlv
  obtain ⟨S, hS⟩ := all_pairs hL
  obtain ⟨laid, G2, hlaid, w2, h2, e2⟩ := plan_k h1
  obtain ⟨sort, G3, hsort, w3, h3, e3⟩ := kind_k h2
  obtain ⟨fi, E, ws, e4, hf, hws, hwl, hw7⟩ := fitting_eq hlv G3
  have hF := hasA h3 E
  have w03 : Wd p G (G3 ++ E) := ((w1.wd hp w2).wd hp w3).more E
  have hfp : G3.length + fi ≠ p := by have := h3.lt; omega
  simp [-sIf_ap, -dIf_ap, b__law_judged_right, start, e1, e2, e3, e4]
  generalize hGE : G3 ++ E = GE at hf hF w03
  generalize hfr : G3.length + fi = fr at hf hfp
  have hpE := hF.lt
  -- the way
  have wayx : ∃ (w : Nat) (G5 : Hv), w < 8 ∧ Wd p GE G5 ∧ HasS G5 p ∧ dIf (tV (dCmp cGt (dCall f__law_take (aCons (dVar 0) (aCons (dC (.int 5)) (aNil)))) (dC (.int 0)))) (dIx (dVar 4) (dCall f__law_take (aCons (dVar 0) (aCons (dB bLen (aCons (dVar 4) (aNil))) (aNil))))) (dCall f__law_take (aCons (dVar 0) (aCons (dC (.int 8)) (aNil))))
      [some (.ref p), some L.v, some (.str laid), some (.str sort), some (.ref fr), none, none, none, none] GE = .ok (.int w) G5 := by
    obtain ⟨d1, A1, a0, a1, n1, v1, s1, q1⟩ := take_k (m := 5) hF [] (by decide) (by decide)
    simp only [List.append_nil] at q1
    by_cases hd : 0 < d1
    · have hf1 := keep v1 hfp hf
      have hwpos : 0 < ws.length := List.length_pos_iff.mpr hws
      obtain ⟨d2, A2, x, hx, n2, s2, q2, ix2⟩ := pick_k (m := ws.length) s1 hf1 hfp (by omega) (by omega) (by omega)
      obtain ⟨w, hw, rfl⟩ := hw7 x hx
      have al : asListR A1 (.ref fr) = some ws := by simp [asListR, hf1]
      exact ⟨w, A2, hw, (v1.nx hpE n2), s2, by simp [q1, hd, al, q2, ix2]⟩
    · obtain ⟨d2, A2, b0, b1, n2, v2, s2, q2⟩ := take_k (m := 8) s1 [] (by decide) (by decide)
      simp only [List.append_nil] at q2
      exact ⟨d2.toNat, A2, by omega, v1.wd hpE v2, s2, by simp [q1, hd, q2]; omega⟩
  obtain ⟨w, G5, hw, w5, h5, e5⟩ := wayx
  simp [-sIf_ap, -dIf_ap, e5]
  have w05 := w03.wd hp w5
  have hp5 := h5.lt
  -- the kind
  have sortx : ∃ (s6 : List Nat) (u6 : Option VV) (G6 : Hv), s6 ∈ kindSS ∧ Wd p G5 G6 ∧ HasS G6 p ∧ sIf (tV (dCmp cEq (dCall f__law_take (aCons (dVar 0) (aCons (dC (.int 2)) (aNil)))) (dC (.int 0)))) (dSeq (sAsg (dLst (aCons (dLst (aCons (dC (.str [108, 97, 116, 101, 114])) (aNil))) (aCons (dLst (aCons (dC (.str [102, 105, 108, 108, 105, 110, 103])) (aNil))) (aCons (dLst (aCons (dC (.str [102, 105, 108, 108, 105, 110, 103])) (aNil))) (aCons (dLst (aCons (dC (.str [102, 105, 108, 108, 105, 110, 103])) (aCons (dC (.str [111, 116, 104, 101, 114])) (aCons (dC (.str [115, 116, 114, 97, 110, 103, 101])) (aNil))))) (aCons (dLst (aCons (dC (.str [108, 97, 116, 101, 114])) (aNil))) (aCons (dLst (aCons (dC (.str [101, 97, 114, 108, 105, 101, 114])) (aNil))) (aCons (dLst (aCons (dC (.str [108, 97, 116, 101, 114])) (aNil))) (aNil))))))))) (gName 6)) (
  dSeq (sAsg (dIx (dBin oAdd (dVar 6) (dLst (aCons (dLst (aCons (dC (.str [102, 105, 108, 108, 105, 110, 103])) (aNil))) (aNil)))) (dVar 5)) (gName 6)) (
  sAsg (dIx (dVar 6) (dCall f__law_take (aCons (dVar 0) (aCons (dB bLen (aCons (dVar 6) (aNil))) (aNil))))) (gName 3)))) (dNext)
      [some (.ref p), some L.v, some (.str laid), some (.str sort), some (.ref fr), some (.int w), none, none, none] G5 = .nx [some (.ref p), some L.v, some (.str laid), some (.str s6), some (.ref fr), some (.int w), u6, none, none] G6 := by
    obtain ⟨d1, A1, a0, a1, n1, v1, s1, q1⟩ := take_k (m := 2) h5 [] (by decide) (by decide)
    simp only [List.append_nil] at q1
    have hpA := s1.lt
    by_cases hd : d1 = 0
    · let kf : List Nat := [102, 105, 108, 108, 105, 110, 103]
      have fin : ∀ (E : Hv) (j : Nat) (ks : List (List Nat)), (A1 ++ E)[A1.length + j]? = some (.lst (ks.map VV.str)) → 0 < ks.length → ks.length ≤ 3 → (∀ k ∈ ks, k ∈ kindSS) → ∃ d2 A2 s6, s6 ∈ kindSS ∧ Wd p A1 A2 ∧ HasS A2 p ∧ asListR (A1 ++ E) (.ref (A1.length + j)) = some (ks.map VV.str) ∧ f__law_take [.ref p, .int ks.length] (A1 ++ E) = .ok (.int d2) A2 ∧ oIx A2 (.ref (A1.length + j)) (.int d2) = some (.str s6) := fun E j ks hks h0 h3 hall => by
        obtain ⟨d2, A2, x, hx, n2, s2, q2, ix2⟩ := pick_k (m := ks.length) (hasA s1 E) hks (by omega) (by omega) (by omega) (by simp)
        obtain ⟨t, ht, rfl⟩ := List.mem_map.mp hx
        exact ⟨d2, A2, t, hall t ht, wdA s1 n2, s2, by simp [asListR, hks], q2, ix2⟩
      have hw8 : w = 0 ∨ w = 1 ∨ w = 2 ∨ w = 3 ∨ w = 4 ∨ w = 5 ∨ w = 6 ∨ w = 7 := by omega
      rcases hw8 with rfl | rfl | rfl | rfl | rfl | rfl | rfl | rfl
      · obtain ⟨d2, A2, s6, hs6, v2, s2, al, q2, ix2⟩ := fin [.lst [.str [108, 97, 116, 101, 114]], .lst [.str [102, 105, 108, 108, 105, 110, 103]], .lst [.str [102, 105, 108, 108, 105, 110, 103]], .lst [.str [102, 105, 108, 108, 105, 110, 103], .str [111, 116, 104, 101, 114], .str [115, 116, 114, 97, 110, 103, 101]], .lst [.str [108, 97, 116, 101, 114]], .lst [.str [101, 97, 114, 108, 105, 101, 114]], .lst [.str [108, 97, 116, 101, 114]], .lst [.ref A1.length, .ref (A1.length + 1), .ref (A1.length + 2), .ref (A1.length + 3), .ref (A1.length + 4), .ref (A1.length + 5), .ref (A1.length + 6)], .lst [.str [102, 105, 108, 108, 105, 110, 103]], .lst [.ref (A1.length + 8)], .lst [.ref A1.length, .ref (A1.length + 1), .ref (A1.length + 2), .ref (A1.length + 3), .ref (A1.length + 4), .ref (A1.length + 5), .ref (A1.length + 6), .ref (A1.length + 8)]] 0 [[108, 97, 116, 101, 114]] (by simp [List.getElem?_append_right]) (by decide) (by decide) (by decide)
        simp at al q2 ix2
        refine ⟨s6, some (.ref (A1.length + 0)), A2, hs6, v1.wd hp5 v2, s2, ?_⟩
        simp [hd, q1, oAdd, List.getElem?_append_right, newL, oIx, asSeq, asListR, atI, ixN] at ix2 ⊢
        simp [q2, ix2]
      · obtain ⟨d2, A2, s6, hs6, v2, s2, al, q2, ix2⟩ := fin [.lst [.str [108, 97, 116, 101, 114]], .lst [.str [102, 105, 108, 108, 105, 110, 103]], .lst [.str [102, 105, 108, 108, 105, 110, 103]], .lst [.str [102, 105, 108, 108, 105, 110, 103], .str [111, 116, 104, 101, 114], .str [115, 116, 114, 97, 110, 103, 101]], .lst [.str [108, 97, 116, 101, 114]], .lst [.str [101, 97, 114, 108, 105, 101, 114]], .lst [.str [108, 97, 116, 101, 114]], .lst [.ref A1.length, .ref (A1.length + 1), .ref (A1.length + 2), .ref (A1.length + 3), .ref (A1.length + 4), .ref (A1.length + 5), .ref (A1.length + 6)], .lst [.str [102, 105, 108, 108, 105, 110, 103]], .lst [.ref (A1.length + 8)], .lst [.ref A1.length, .ref (A1.length + 1), .ref (A1.length + 2), .ref (A1.length + 3), .ref (A1.length + 4), .ref (A1.length + 5), .ref (A1.length + 6), .ref (A1.length + 8)]] 1 [[102, 105, 108, 108, 105, 110, 103]] (by simp [List.getElem?_append_right]) (by decide) (by decide) (by decide)
        simp at al q2 ix2
        refine ⟨s6, some (.ref (A1.length + 1)), A2, hs6, v1.wd hp5 v2, s2, ?_⟩
        simp [hd, q1, oAdd, List.getElem?_append_right, newL, oIx, asSeq, asListR, atI, ixN] at ix2 ⊢
        simp [q2, ix2]
      · obtain ⟨d2, A2, s6, hs6, v2, s2, al, q2, ix2⟩ := fin [.lst [.str [108, 97, 116, 101, 114]], .lst [.str [102, 105, 108, 108, 105, 110, 103]], .lst [.str [102, 105, 108, 108, 105, 110, 103]], .lst [.str [102, 105, 108, 108, 105, 110, 103], .str [111, 116, 104, 101, 114], .str [115, 116, 114, 97, 110, 103, 101]], .lst [.str [108, 97, 116, 101, 114]], .lst [.str [101, 97, 114, 108, 105, 101, 114]], .lst [.str [108, 97, 116, 101, 114]], .lst [.ref A1.length, .ref (A1.length + 1), .ref (A1.length + 2), .ref (A1.length + 3), .ref (A1.length + 4), .ref (A1.length + 5), .ref (A1.length + 6)], .lst [.str [102, 105, 108, 108, 105, 110, 103]], .lst [.ref (A1.length + 8)], .lst [.ref A1.length, .ref (A1.length + 1), .ref (A1.length + 2), .ref (A1.length + 3), .ref (A1.length + 4), .ref (A1.length + 5), .ref (A1.length + 6), .ref (A1.length + 8)]] 2 [[102, 105, 108, 108, 105, 110, 103]] (by simp [List.getElem?_append_right]) (by decide) (by decide) (by decide)
        simp at al q2 ix2
        refine ⟨s6, some (.ref (A1.length + 2)), A2, hs6, v1.wd hp5 v2, s2, ?_⟩
        simp [hd, q1, oAdd, List.getElem?_append_right, newL, oIx, asSeq, asListR, atI, ixN] at ix2 ⊢
        simp [q2, ix2]
      · obtain ⟨d2, A2, s6, hs6, v2, s2, al, q2, ix2⟩ := fin [.lst [.str [108, 97, 116, 101, 114]], .lst [.str [102, 105, 108, 108, 105, 110, 103]], .lst [.str [102, 105, 108, 108, 105, 110, 103]], .lst [.str [102, 105, 108, 108, 105, 110, 103], .str [111, 116, 104, 101, 114], .str [115, 116, 114, 97, 110, 103, 101]], .lst [.str [108, 97, 116, 101, 114]], .lst [.str [101, 97, 114, 108, 105, 101, 114]], .lst [.str [108, 97, 116, 101, 114]], .lst [.ref A1.length, .ref (A1.length + 1), .ref (A1.length + 2), .ref (A1.length + 3), .ref (A1.length + 4), .ref (A1.length + 5), .ref (A1.length + 6)], .lst [.str [102, 105, 108, 108, 105, 110, 103]], .lst [.ref (A1.length + 8)], .lst [.ref A1.length, .ref (A1.length + 1), .ref (A1.length + 2), .ref (A1.length + 3), .ref (A1.length + 4), .ref (A1.length + 5), .ref (A1.length + 6), .ref (A1.length + 8)]] 3 [[102, 105, 108, 108, 105, 110, 103], [111, 116, 104, 101, 114], [115, 116, 114, 97, 110, 103, 101]] (by simp [List.getElem?_append_right]) (by decide) (by decide) (by decide)
        simp at al q2 ix2
        refine ⟨s6, some (.ref (A1.length + 3)), A2, hs6, v1.wd hp5 v2, s2, ?_⟩
        simp [hd, q1, oAdd, List.getElem?_append_right, newL, oIx, asSeq, asListR, atI, ixN] at ix2 ⊢
        simp [q2, ix2]
      · obtain ⟨d2, A2, s6, hs6, v2, s2, al, q2, ix2⟩ := fin [.lst [.str [108, 97, 116, 101, 114]], .lst [.str [102, 105, 108, 108, 105, 110, 103]], .lst [.str [102, 105, 108, 108, 105, 110, 103]], .lst [.str [102, 105, 108, 108, 105, 110, 103], .str [111, 116, 104, 101, 114], .str [115, 116, 114, 97, 110, 103, 101]], .lst [.str [108, 97, 116, 101, 114]], .lst [.str [101, 97, 114, 108, 105, 101, 114]], .lst [.str [108, 97, 116, 101, 114]], .lst [.ref A1.length, .ref (A1.length + 1), .ref (A1.length + 2), .ref (A1.length + 3), .ref (A1.length + 4), .ref (A1.length + 5), .ref (A1.length + 6)], .lst [.str [102, 105, 108, 108, 105, 110, 103]], .lst [.ref (A1.length + 8)], .lst [.ref A1.length, .ref (A1.length + 1), .ref (A1.length + 2), .ref (A1.length + 3), .ref (A1.length + 4), .ref (A1.length + 5), .ref (A1.length + 6), .ref (A1.length + 8)]] 4 [[108, 97, 116, 101, 114]] (by simp [List.getElem?_append_right]) (by decide) (by decide) (by decide)
        simp at al q2 ix2
        refine ⟨s6, some (.ref (A1.length + 4)), A2, hs6, v1.wd hp5 v2, s2, ?_⟩
        simp [hd, q1, oAdd, List.getElem?_append_right, newL, oIx, asSeq, asListR, atI, ixN] at ix2 ⊢
        simp [q2, ix2]
      · obtain ⟨d2, A2, s6, hs6, v2, s2, al, q2, ix2⟩ := fin [.lst [.str [108, 97, 116, 101, 114]], .lst [.str [102, 105, 108, 108, 105, 110, 103]], .lst [.str [102, 105, 108, 108, 105, 110, 103]], .lst [.str [102, 105, 108, 108, 105, 110, 103], .str [111, 116, 104, 101, 114], .str [115, 116, 114, 97, 110, 103, 101]], .lst [.str [108, 97, 116, 101, 114]], .lst [.str [101, 97, 114, 108, 105, 101, 114]], .lst [.str [108, 97, 116, 101, 114]], .lst [.ref A1.length, .ref (A1.length + 1), .ref (A1.length + 2), .ref (A1.length + 3), .ref (A1.length + 4), .ref (A1.length + 5), .ref (A1.length + 6)], .lst [.str [102, 105, 108, 108, 105, 110, 103]], .lst [.ref (A1.length + 8)], .lst [.ref A1.length, .ref (A1.length + 1), .ref (A1.length + 2), .ref (A1.length + 3), .ref (A1.length + 4), .ref (A1.length + 5), .ref (A1.length + 6), .ref (A1.length + 8)]] 5 [[101, 97, 114, 108, 105, 101, 114]] (by simp [List.getElem?_append_right]) (by decide) (by decide) (by decide)
        simp at al q2 ix2
        refine ⟨s6, some (.ref (A1.length + 5)), A2, hs6, v1.wd hp5 v2, s2, ?_⟩
        simp [hd, q1, oAdd, List.getElem?_append_right, newL, oIx, asSeq, asListR, atI, ixN] at ix2 ⊢
        simp [q2, ix2]
      · obtain ⟨d2, A2, s6, hs6, v2, s2, al, q2, ix2⟩ := fin [.lst [.str [108, 97, 116, 101, 114]], .lst [.str [102, 105, 108, 108, 105, 110, 103]], .lst [.str [102, 105, 108, 108, 105, 110, 103]], .lst [.str [102, 105, 108, 108, 105, 110, 103], .str [111, 116, 104, 101, 114], .str [115, 116, 114, 97, 110, 103, 101]], .lst [.str [108, 97, 116, 101, 114]], .lst [.str [101, 97, 114, 108, 105, 101, 114]], .lst [.str [108, 97, 116, 101, 114]], .lst [.ref A1.length, .ref (A1.length + 1), .ref (A1.length + 2), .ref (A1.length + 3), .ref (A1.length + 4), .ref (A1.length + 5), .ref (A1.length + 6)], .lst [.str [102, 105, 108, 108, 105, 110, 103]], .lst [.ref (A1.length + 8)], .lst [.ref A1.length, .ref (A1.length + 1), .ref (A1.length + 2), .ref (A1.length + 3), .ref (A1.length + 4), .ref (A1.length + 5), .ref (A1.length + 6), .ref (A1.length + 8)]] 6 [[108, 97, 116, 101, 114]] (by simp [List.getElem?_append_right]) (by decide) (by decide) (by decide)
        simp at al q2 ix2
        refine ⟨s6, some (.ref (A1.length + 6)), A2, hs6, v1.wd hp5 v2, s2, ?_⟩
        simp [hd, q1, oAdd, List.getElem?_append_right, newL, oIx, asSeq, asListR, atI, ixN] at ix2 ⊢
        simp [q2, ix2]
      · obtain ⟨d2, A2, s6, hs6, v2, s2, al, q2, ix2⟩ := fin [.lst [.str [108, 97, 116, 101, 114]], .lst [.str [102, 105, 108, 108, 105, 110, 103]], .lst [.str [102, 105, 108, 108, 105, 110, 103]], .lst [.str [102, 105, 108, 108, 105, 110, 103], .str [111, 116, 104, 101, 114], .str [115, 116, 114, 97, 110, 103, 101]], .lst [.str [108, 97, 116, 101, 114]], .lst [.str [101, 97, 114, 108, 105, 101, 114]], .lst [.str [108, 97, 116, 101, 114]], .lst [.ref A1.length, .ref (A1.length + 1), .ref (A1.length + 2), .ref (A1.length + 3), .ref (A1.length + 4), .ref (A1.length + 5), .ref (A1.length + 6)], .lst [.str [102, 105, 108, 108, 105, 110, 103]], .lst [.ref (A1.length + 8)], .lst [.ref A1.length, .ref (A1.length + 1), .ref (A1.length + 2), .ref (A1.length + 3), .ref (A1.length + 4), .ref (A1.length + 5), .ref (A1.length + 6), .ref (A1.length + 8)]] 8 [[102, 105, 108, 108, 105, 110, 103]] (by simp [List.getElem?_append_right]) (by decide) (by decide) (by decide)
        simp at al q2 ix2
        refine ⟨s6, some (.ref (A1.length + 8)), A2, hs6, v1.wd hp5 v2, s2, ?_⟩
        simp [hd, q1, oAdd, List.getElem?_append_right, newL, oIx, asSeq, asListR, atI, ixN] at ix2 ⊢
        simp [q2, ix2]
    · exact ⟨sort, none, A1, hsort, v1, s1, by simp [hd, q1]⟩
  obtain ⟨s6, u6, G6, hs6, w6, h6, e6⟩ := sortx
  obtain ⟨mM, mL, mE⟩ := mach_at hw
  obtain ⟨v7, G7, e7, n7, M, rfl, hM, lM⟩ := bent_spec h6 mM mL
  have w07 : Wd p G G7 := (w05.wd hp w6).nx hp n7
  have t1 := law_takes_eq (A := G7) (L := L) hlaid he1 hS hM
  have t2 := law_none_eq (A := G7) hlaid hs6 hM
  have tx := law_text_eq hlv G7
  have ac := acc_one (G := G7) (L := L) (p := laid) (k := s6) hlv (by omega) hlaid hs6 he1 hS hM lM
  rw [takes_same hlaid hS hM, none_same hlaid hs6] at ac
  simp [-sIf_ap, -dIf_ap, e6, mE, e7, t1, t2, tx]
  cases hb : okTakes laid L M
  · rw [hb] at ac
    simp at ac
    simp [tx, ac, repr_eq]
    exact w07.end (v := .bl true) (by simp) fun G3 n => ⟨rfl, n⟩
  · rw [hb] at ac
    simp at ac
    simp [tx, ac, repr_eq]
    exact w07.end (v := .bl true) (by simp) fun G3 n => ⟨rfl, n⟩
end DL
end S_J72
section S_Y72
set_option linter.all false
set_option maxRecDepth 1000000
set_option maxHeartbeats 4000000
/-! Y72: the law. -/
namespace DL
theorem upTo_range : ∀ (n : Nat) (lo : Int), upTo lo n = (List.range n).map fun k => VV.int (lo + (k : Nat))
  | 0, lo => rfl
  | n + 1, lo => by
    rw [upTo, upTo_range n (lo + 1), List.range_succ_eq_map, List.map_cons, List.map_map]
    congr 1
    · simp
    · apply List.map_congr_left
      intro k _
      simp only [Function.comp_apply]
      congr 1
      omega
theorem law_plain {ns : List Int} (hl : ns.length ≤ 63) (hb : ∀ z ∈ ns, z.natAbs.log2 ≤ 1048576) : ∃ G, f_law [.ref 0] [.flst (ns.map VV.int)] = .ok (.bl true) G := by
  obtain ⟨m, hm, hm2⟩ : ∃ m : Nat, m ≤ 3 ∧ (if (if (3 : Int) < ns.length then (3 : Int) else ns.length) > 2 then (if (3 : Int) < ns.length then (3 : Int) else ns.length) else 2) = m := by
    refine ⟨((if (if (3 : Int) < ns.length then (3 : Int) else ns.length) > 2 then (if (3 : Int) < ns.length then (3 : Int) else ns.length) else 2) : Int).toNat, ?_, ?_⟩ <;> (split <;> split <;> omega)
  obtain ⟨S', G', e, u1, u2, hS, hz⟩ := forL_inv (g := gName 1) (b := dSeq (sAsg (dCall f__law_spring (aCons (dVar 0) (aCons (dVar 1) (aNil)))) (gName 2)) (
      sIf (tOr (tNot (tV (dCall f__law_judged_right (aCons (dVar 2) (aNil))))) (tNot (tV (dCall f__law_judged_right (aCons (dVar 2) (aNil)))))) (dRet (dC (.bl false))) (dNext)))
    (fun i S G => ∃ u1 u2, S = [some (.ref 0), u1, u2] ∧ G[0]? = some (.flst (ns.map VV.int))) (upTo 0 m) 0 [some (.ref 0), none, none] [.flst (ns.map VV.int)] ⟨none, none, rfl, rfl⟩ (by
    rintro j S G x hx _ hj ⟨u1, u2, rfl, hz⟩
    rw [upTo_range] at hx
    obtain ⟨a, ha, rfl⟩ := List.mem_map.mp hx
    have ha' : a < m := by simpa using ha
    obtain ⟨E, q, es, hq, hs⟩ := spring_spec (a := a) hz hl hb (by omega)
    have hG0 : 0 < G.length := (List.getElem?_eq_some_iff.mp hz).1
    have hq0 : (0 : Nat) ≠ q := by omega
    obtain ⟨v2, G2, e2, rfl, n2⟩ := judged_spec hs
    have hs2 := n2.wd.has hs.lt
    obtain ⟨v3, G3, e3, rfl, n3⟩ := judged_spec hs2
    refine ⟨[some (.ref 0), some (.int a), u2], G, [some (.ref 0), some (.int a), some (.ref q)], G3, by simp, ?_, _, _, rfl, ?_⟩
    · simp [es, e2, e3]
    · rw [n3.get hq0, n2.get hq0]
      exact keepA E hz)
  have bl : bLen [.ref 0] [.flst (ns.map VV.int)] = some (.int ns.length, [.flst (ns.map VV.int)]) := by simp [asListR]
  have bmin : ∀ a b G, bMin2 [.int a, .int b] G = some (.int (if b < a then b else a), G) := fun _ _ _ => rfl
  have bmax : ∀ a b G, bMax2 [.int a, .int b] G = some (.int (if b > a then b else a), G) := fun _ _ _ => rfl
  have hmid : mid (m : Int) = true := mid_of (by omega)
  have fin : ∃ G, gcR [.flst (ns.map VV.int)] (.ok (.bl true) G') = .ok (.bl true) G := by
    unfold gcR
    simp only
    split
    · exact ⟨_, rfl⟩
    · exact ⟨_, rfl⟩
  obtain ⟨G2, e2⟩ := fin
  refine ⟨G2, ?_⟩
  · unfold f_law
    rw [dDef_ref (k := 1) rfl (by simp)]
    subst hS
    have run : b_law [some (.ref 0), none, none] [.flst (ns.map VV.int)] = .rt (.bl true) G' := by
      have first : (iRange1 (aCons (dB bMax2 (aCons (dC (.int 2)) (aCons (dB bMin2 (aCons (dB bLen (aCons (dVar 0) (aNil))) (aCons (dC (.int 3)) (aNil)))) (aNil)))) (aNil))) [some (.ref 0), none, none] [.flst (ns.map VV.int)] = .ok (upTo 0 m, []) [.flst (ns.map VV.int)] := by
        rw [iRange1_ap, aCons_ap, dB_ap, aCons_ap, dC_ap, R.bind_ok, aCons_ap, dB_ap, aCons_ap, dB_ap, aCons_ap]
        simp only [dVar_ap, List.getElem?_cons_zero, R.bind_ok, aNil_ap, bl, ofO_some, aCons_ap, dC_ap, bmin, bmax]
        rw [hm2]
        simp [rangeOf1, hmid]
      unfold b_law
      rw [dSeq_ap, sFor_ap, first, R.st_ok]
      simp only
      rw [e]
      simp
    show gcR _ (outR (b_law [some (.ref 0), none, none] [.flst (ns.map VV.int)])) = _
    rw [run]
    exact e2
end DL
end S_Y72
set_option Elab.async false
set_option linter.all false
set_option maxRecDepth 100000
set_option maxHeartbeats 0
open PySem PySem.W PySem.Calls PyProof.Rows
theorem DL.bits_log {z : Int} (h : PySem.Builtin.Int.intBits z ≤ 1048576) : z.natAbs.log2 ≤ 1048576 := by
  unfold PySem.Builtin.Int.intBits at h
  by_cases e : z = 0
  · subst e; decide
  · have : (z == 0) = false := by simpa using e
    rw [this] at h
    simp only [Bool.false_eq_true, if_false] at h
    omega
theorem PySem.Challenge.cw_filledrows_k72_small_machines_judged_holds : PySem.Challenge.rw_filledrows_k72_small_machines_judged.Holds := by
  w_on; o_law
  refine HandSHeadRun.head_any (r := OpenLaw.row PySem.Challenge.rw_filledrows_k72_small_machines_judged) (q := view (OpenLaw.row PySem.Challenge.rw_filledrows_k72_small_machines_judged).prog [99]) (H := DW.hk) (ob := DW.ob) (M := 6000) (loose := DW.names) (d := HandSHeadRun.topDef (OpenLaw.row PySem.Challenge.rw_filledrows_k72_small_machines_judged).prog 99) (kwd := []) DW.ob_eq
    (by kernel_rfl) (fun s => by kernel_rfl) DW.run (by kernel_rfl) (by kernel_rfl) (by kernel_rfl) (by rfl) (by first | assumption | decide +kernel) (by decide +kernel) ⟨rfl, rfl, rfl, rfl, rfl, by decide +kernel⟩ ?hw ?hc
  case hw => w_witness2
  case hc =>
    refine DL.walk_dl (nm := DW.nm) (l := PySem.Challenge.rw_filledrows_k72_small_machines_judged) (n := 63) (k := 11) (x := "script") (fn := DL.f_law) rfl (by decide) (by kernel_rfl) ⟨rfl, by decide, by decide⟩ (fun ns hl hb => DL.law_plain hl fun z hz => DL.bits_log (hb z hz)) ?F
    intro w mg fa h Y G hmg0
    obtain ⟨K, KX, nl, c, tf⟩ := Y
    obtain ⟨c0, P0, ca0, ch0, cg0, cn0⟩ := tf "_law_takes_all" (by decide)
    obtain ⟨c1, P1, ca1, ch1, cg1, cn1⟩ := tf "_law_has_none" (by decide)
    obtain ⟨c2, P2, ca2, ch2, cg2, cn2⟩ := tf "holds_layer" (by decide)
    obtain ⟨c3, P3, ca3, ch3, cg3, cn3⟩ := tf "holds_none" (by decide)
    have hmg : mg ("law" : PySem.Str) = some (.ref fa) := by
      have e : (HandSHeadRun.topDef (OpenLaw.row PySem.Challenge.rw_filledrows_k72_small_machines_judged).prog 99).name = ("law" : PySem.Str) := by kernel_rfl
      rw [← e]
      exact hmg0
    obtain ⟨fd, F⟩ := c.def_ 53 (d := DW.d_law) rfl
    have e := hmg.symm.trans (He.glo_ok KX G (c.fact 86 (f := .glo "law") rfl))
    cases e
    have b := L2.FunD.bindsA (ps := ["script"]) F fun _ _ _ _ _ _ us hl => match us, hl with | [_], _ => rfl
    obtain ⟨oc, od, dV, kV, doc, pm, an, cdv, ct, osl, rfl, lk, _⟩ := F.ex
    refine ⟨K, _, [(c0, P0), (c1, P1), (c2, P2), (c3, P3)], KX, nl, fun s v => b s [v] rfl, (fun p hp => by
      simp at hp
      rcases hp with rfl | rfl | rfl | rfl
      · exact cg0
      · exact cg1
      · exact cg2
      · exact cg3), (fun p hp => by
      simp at hp
      rcases hp with rfl | rfl | rfl | rfl
      · exact cn0
      · exact cn1
      · exact cn2
      · exact cn3), (fun p hp => by
      simp at hp
      rcases hp with rfl | rfl | rfl | rfl
      · exact ch0
      · exact ch1
      · exact ch2
      · exact ch3), fun base hb hG hTB => ?_⟩
    have TF : DW.TabH (tbs := DL.tabsT (PySem.Challenge.rw_filledrows_k72_small_machines_judged).prog w ([(c0, P0), (c1, P1), (c2, P2), (c3, P3)]) DW.nm) K mg base := DW.TabH.mk (tbs := DL.tabsT (PySem.Challenge.rw_filledrows_k72_small_machines_judged).prog w ([(c0, P0), (c1, P1), (c2, P2), (c3, P3)]) DW.nm) (fun x hx => by
      have hx : x ∈ (["_law_takes_all", "_law_has_none", "holds_layer", "holds_none"] : List PySem.Str) := hx
      simp at hx
      rcases hx with rfl | rfl | rfl | rfl
      · exact ⟨c0, P0, ca0, hTB (c0, P0) (by simp), List.mem_map.mpr ⟨(c0, P0), by simp, rfl⟩⟩
      · exact ⟨c1, P1, ca1, hTB (c1, P1) (by simp), List.mem_map.mpr ⟨(c1, P1), by simp, rfl⟩⟩
      · exact ⟨c2, P2, ca2, hTB (c2, P2) (by simp), List.mem_map.mpr ⟨(c2, P2), by simp, rfl⟩⟩
      · exact ⟨c3, P3, ca3, hTB (c3, P3) (by simp), List.mem_map.mpr ⟨(c3, P3), by simp, rfl⟩⟩) (fun p hp => by
      obtain ⟨q, _, rfl⟩ := List.mem_map.mp hp
      rfl)
    obtain ⟨⟨fd', F1, _, F3⟩, _, _⟩ := DW.G_law (tbs := DL.tabsT (PySem.Challenge.rw_filledrows_k72_small_machines_judged).prog w ([(c0, P0), (c1, P1), (c2, P2), (c3, P3)]) DW.nm) (TC := DL.tabs0) (P := (PySem.Challenge.rw_filledrows_k72_small_machines_judged).prog) (base := base) (fun TC => DW.topOk (tbs := DL.tabsT (PySem.Challenge.rw_filledrows_k72_small_machines_judged).prog w ([(c0, P0), (c1, P1), (c2, P2), (c3, P3)]) DW.nm) (TC := TC) (w := w) KX G c rfl rfl) (fun _ => rfl) TF
    obtain ⟨_, _, _, lk'⟩ := F3
    have e2 := lk.symm.trans lk'
    cases e2
    exact F1
