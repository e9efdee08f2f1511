import PyProof.Rows.All
import Wide.All
import OpenK.AllK
import Wide.FinOn
import PyProof.TableCode
import HandS.ForMost
import HandS.ForExc
import HandS.Lambda
import HandS.ExcSuper
import HandS.Wide
import HandS.Deep
import HandS.IsInst
import HandS.Codes
import HandS.Flow
import HandS.Zip
import HandS.ExcCtx
import HandS.ExcIs
import HandS.StrMore
import HandS.HotCalls
import HandS.HeadHook4
import HandS.HeadWalk
import HandS.Head2
import PySem.Challenge.RW_stretchtwice_k64_whole_plain_rows
/-! Ev: a small deterministic machine: values, a heap that only grows, expressions and statements as functions. Plain Lean. -/
set_option autoImplicit false
set_option linter.all false
namespace PV

inductive W where
  | non | bl (b : Bool) | int (i : Int) | str (s : List Nat) | tup (xs : List W)
  | ref (a : Nat) | fn (k : Nat)
  deriving Inhabited

mutual
def W.beq : W → W → Bool
  | .non, .non => true
  | .bl a, .bl b => a == b
  | .int a, .int b => a == b
  | .str a, .str b => a == b
  | .tup a, .tup b => W.beqs a b
  | .ref a, .ref b => a == b
  | .fn a, .fn b => a == b
  | _, _ => false
def W.beqs : List W → List W → Bool
  | [], [] => true
  | x :: xs, y :: ys => W.beq x y && W.beqs xs ys
  | _, _ => false
end
mutual
theorem W.beq_eq : ∀ {a b : W}, W.beq a b = true → a = b
  | .non, b, h => by cases b <;> simp_all [W.beq]
  | .bl a, b, h => by cases b <;> simp_all [W.beq]
  | .int a, b, h => by cases b <;> simp_all [W.beq]
  | .str a, b, h => by cases b <;> simp_all [W.beq]
  | .tup a, b, h => by
    cases b with
    | tup b => simp only [W.beq] at h; rw [W.beqs_eq h]
    | _ => simp [W.beq] at h
  | .ref a, b, h => by cases b <;> simp_all [W.beq]
  | .fn a, b, h => by cases b <;> simp_all [W.beq]
theorem W.beqs_eq : ∀ {a b : List W}, W.beqs a b = true → a = b
  | [], b, h => by cases b <;> simp_all [W.beqs]
  | x :: xs, b, h => by
    cases b with
    | nil => simp [W.beqs] at h
    | cons y ys =>
      simp only [W.beqs, Bool.and_eq_true] at h
      rw [W.beq_eq h.1, W.beqs_eq h.2]
end
mutual
theorem W.beq_refl : ∀ a : W, W.beq a a = true
  | .non => rfl
  | .bl a => by simp [W.beq]
  | .int a => by simp [W.beq]
  | .str a => by simp [W.beq]
  | .tup a => by simp only [W.beq]; exact W.beqs_refl a
  | .ref a => by simp [W.beq]
  | .fn a => by simp [W.beq]
theorem W.beqs_refl : ∀ a : List W, W.beqs a a = true
  | [] => rfl
  | x :: xs => by simp only [W.beqs, W.beq_refl x, W.beqs_refl xs, Bool.and_self]
end
instance : BEq W := ⟨W.beq⟩
instance : LawfulBEq W where
  eq_of_beq h := W.beq_eq h
  rfl := W.beq_refl _
instance : DecidableEq W := fun a b => if h : W.beq a b = true then isTrue (W.beq_eq h) else isFalse fun e => h (e ▸ W.beq_refl a)

/-- what stands at an address -/
inductive O where
  | lst (xs : List W)
  | ro (xs : List W)
  | dk (kvs : List (W × W))
  | dt (kvs : List (W × W))
  | exc (c : Nat) (p : W)
  | lam
  deriving Inhabited

structure Hh where
  n : Nat
  os : List O

def getA : Nat → List O → Nat → Option O
  | _, [], _ => none
  | n, o :: os, a => if Nat.beq (a + 1) n then some o else getA (n - 1) os a
def setA : Nat → List O → Nat → O → List O
  | _, [], _, _ => []
  | n, o :: os, a, x => if Nat.beq (a + 1) n then x :: os else o :: setA (n - 1) os a x
def Hh.get (h : Hh) (a : Nat) : Option O := getA h.n h.os a
def Hh.set (h : Hh) (a : Nat) (o : O) : Hh := ⟨h.n, setA h.n h.os a o⟩
def Hh.push (h : Hh) (o : O) : Hh := ⟨h.n + 1, o :: h.os⟩
/-- the list at an address, to be read -/
def Hh.lstAt (h : Hh) (a : Nat) : Option (List W) := match h.get a with
  | some (.lst xs) => some xs
  | some (.ro xs) => some xs
  | _ => none

inductive R (α : Type) where
  | ok (a : α) (h : Hh)
  | er (c : Nat) (p : W) (h : Hh)
  | bad
def R.bind {α β : Type} (r : R α) (f : α → Hh → R β) : R β :=
  match r with
  | .ok a h => f a h
  | .er c p h => .er c p h
  | .bad => .bad
def R.opt {α : Type} (o : Option α) (h : Hh) : R α := match o with
  | some a => .ok a h
  | none => .bad
/-- an error is not borne -/
def R.nox {α : Type} (r : R α) : R α := match r with
  | .ok a h => .ok a h
  | _ => .bad

abbrev St := List (Option W)
abbrev Dfn := Nat → List W → Hh → R W
structure Cx where
  d : Dfn
  d1 : Dfn
  d2 : Dfn
  th : Hh → R W
  sub : Nat → Nat → Bool
  lv : Nat
  ex : Option Nat
  la : Option Nat
def nod : Dfn := fun _ _ _ => .bad
abbrev E := Cx → St → Hh → R W
abbrev Es := Cx → St → Hh → R (List W)
abbrev T := Cx → St → Hh → R Bool
inductive F where
  | nx (τ : St) (h : Hh)
  | rt (w : W) (h : Hh)
  | bk (τ : St) (h : Hh)
  | ct (τ : St) (h : Hh)
  | er (c : Nat) (p : W) (τ : St) (h : Hh)
  | bad
abbrev S := Cx → St → Hh → F
/-- a target: no error is borne -/
inductive GR where
  | go (τ : St) (h : Hh)
  | bad
abbrev G := W → Cx → St → Hh → GR

def line : Nat := 16777216
def fits {α : Type} (xs : List α) : Bool := Nat.ble xs.length line
def fitsS {α : Type} (xs : List α) : Bool := Nat.blt xs.length line

/-! ### equality of data -/
inductive Dt where
  | non | bl (b : Bool) | int (i : Int) | str (s : List Nat) | lst (xs : List Dt) | tup (xs : List Dt)
def mapO {α β : Type} (f : α → Option β) : List α → Option (List β)
  | [] => some []
  | x :: xs => match f x with
    | none => none
    | some d => match mapO f xs with
      | none => none
      | some ds => some (d :: ds)
def toD (h : Hh) : Nat → W → Option Dt
  | 0, _ => none
  | n + 1, w => match w with
    | .non => some .non
    | .bl b => some (.bl b)
    | .int i => some (.int i)
    | .str s => if s.all fun c => Nat.blt c 1114112 then some (.str s) else none
    | .tup xs => (mapO (toD h n) xs).map .tup
    | .ref a => match h.lstAt a with
      | some xs => (mapO (toD h n) xs).map .lst
      | none => none
    | _ => none
mutual
def Dt.eqv : Dt → Dt → Bool
  | .non, .non => true
  | .bl a, .bl b => a == b
  | .bl a, .int j => (if a then 1 else 0) == j
  | .int i, .bl b => i == (if b then 1 else 0)
  | .int i, .int j => i == j
  | .str x, .str y => x == y
  | .lst xs, .lst ys => Dt.eqvs xs ys
  | .tup xs, .tup ys => Dt.eqvs xs ys
  | _, _ => false
def Dt.eqvs : List Dt → List Dt → Bool
  | [], [] => true
  | x :: xs, y :: ys => Dt.eqv x y && Dt.eqvs xs ys
  | _, _ => false
end
def eqD (h : Hh) (x y : W) : Option Bool := match toD h 60 x with
  | none => none
  | some d => match toD h 60 y with
    | none => none
    | some e => some (Dt.eqv d e)
/-- == -/
def eqW (h : Hh) (x y : W) : Option Bool := match x, y with
  | .int i, .int j => some (i == j)
  | .non, .non => some true
  | .bl i, .bl j => some (i == j)
  | .str i, .str j => some (i == j)
  | x, y => eqD h x y

/-! ### places, slices -/
def ixN (n : Nat) (i : Int) : Option Nat := if 0 ≤ i then (if i < n then some i.toNat else none) else if -(n : Int) ≤ i then some (i + n).toNat else none
def atI {α : Type} (xs : List α) (i : Int) : Option α := (ixN xs.length i).bind fun j => xs[j]?
def clip (n d : Nat) : Option Int → Nat
  | none => d
  | some v => if v < 0 then (v + (n : Int)).toNat else min v.toNat n
def cut {α : Type} (xs : List α) (lo hi : Option Int) : List α :=
  (xs.drop (clip xs.length 0 lo)).take (clip xs.length xs.length hi - clip xs.length 0 lo)
def cutWhole {α : Type} (xs : List α) (lo hi : Option Int) : Bool := Nat.beq (clip xs.length 0 lo) 0 && Nat.beq (clip xs.length xs.length hi) xs.length

/-! ### operators -/
inductive Op where | add | sub | mul | fdiv | mod | pow
def small (i : Int) : Bool := decide (-18446744073709551616 < i) && decide (i < 18446744073709551616)
def wide (i j : Int) : Bool := Nat.blt (i.natAbs.log2 + j.natAbs.log2) 900000
def bin (o : Op) (x y : W) (h : Hh) : R W := match o with
  | .add => match x, y with
    | .int i, .int j => .ok (.int (i + j)) h
    | .str a, .str b => if Nat.ble (a.length + b.length) line then .ok (.str (a ++ b)) h else .bad
    | .tup (x :: a), .tup b => if Nat.ble (a.length + 1 + b.length) line then .ok (.tup (x :: (a ++ b))) h else .bad
    | .ref p, .ref q => match h.get p, h.get q with
      | some (.lst a), some (.lst b) => if Nat.ble (a.length + b.length) line then .ok (.ref h.n) (h.push (.lst (a ++ b))) else .bad
      | _, _ => .bad
    | _, _ => .bad
  | .sub => match x, y with
    | .int i, .int j => .ok (.int (i - j)) h
    | _, _ => .bad
  | .mul => match x, y with
    | .int i, .int j => if small i || small j || wide i j then .ok (.int (i * j)) h else .bad
    | .str a, .int k => if decide (0 ≤ k) && decide (k < 4294967296) && Nat.ble (a.length * k.toNat) line then .ok (.str (List.replicate k.toNat a).flatten) h else .bad
    | .ref p, .int k => match h.get p with
      | some (.lst a) => if decide (0 ≤ k) && decide (k < 4294967296) && Nat.ble (a.length * k.toNat) line then .ok (.ref h.n) (h.push (.lst (List.replicate k.toNat a).flatten)) else .bad
      | _ => .bad
    | _, _ => .bad
  | .fdiv => match x, y with
    | .int i, .int j => if decide (0 < j) && Nat.blt j.natAbs.log2 9000 then .ok (.int (i / j)) h else .bad
    | _, _ => .bad
  | .mod => match x, y with
    | .int i, .int j => if decide (0 < j) then .ok (.int (i % j)) h else .bad
    | _, _ => .bad
  | .pow => match x, y with
    | .int i, .int j => if decide (0 ≤ j) && decide (j ≤ 1000000) && small i then .ok (.int (i ^ j.toNat)) h else .bad
    | _, _ => .bad

/-- s < t, by code points -/
def ltS : List Nat → List Nat → Bool
  | [], [] => false
  | [], _ :: _ => true
  | _ :: _, [] => false
  | a :: as, b :: bs => if Nat.beq a b then ltS as bs else Nat.blt a b
/-- a text in a text: one sign, or by all places -/
def preS : List Nat → List Nat → Bool
  | [], _ => true
  | _ :: _, [] => false
  | a :: as, b :: bs => Nat.beq a b && preS as bs
def flat : W → Bool
  | .non => true
  | .bl _ => true
  | .int _ => true
  | .str _ => true
  | _ => false
def eqFlat : W → W → Bool
  | .non, .non => true
  | .bl a, .bl b => a == b
  | .bl a, .int b => (if a then 1 else 0) == b
  | .int a, .bl b => a == (if b then 1 else 0)
  | .int a, .int b => a == b
  | .str a, .str b => a == b
  | _, _ => false
def inFlat (x : W) (xs : List W) : Option Bool := if flat x && xs.all flat then some (xs.any fun y => eqFlat y x) else none
/-- x in xs, data of any depth -/
def inDeep (h : Hh) (x : W) (xs : List W) : Option Bool := match toD h 60 x with
  | none => none
  | some d => match mapO (toD h 60) xs with
    | none => none
    | some ds => some (ds.any fun z => Dt.eqv z d)
def inL (h : Hh) (x : W) (xs : List W) : Option Bool := if flat x && xs.all flat then some (xs.any fun y => eqFlat y x) else inDeep h x xs
def isKey : W → Bool
  | .int _ => true
  | .str _ => true
  | _ => false
def isKeyT : W → Bool
  | .tup xs => xs.all isKey
  | _ => false
def look (k : W) : List (W × W) → Option W
  | [] => none
  | (k', v) :: r => if W.beq k' k then some v else look k r
def put (k v : W) (kvs : List (W × W)) : List (W × W) :=
  if kvs.any fun kv => W.beq kv.1 k then kvs.map fun kv => if W.beq kv.1 k then (kv.1, v) else kv else kvs ++ [(k, v)]
def inW (x y : W) (h : Hh) : Option Bool := match y with
  | .str s => match x with
    | .str [c] => some (s.any fun d => Nat.beq d c)
    | _ => none
  | .tup xs => inFlat x xs
  | .ref a => match h.get a with
    | some (.lst xs) => inL h x xs
    | some (.ro xs) => inL h x xs
    | some (.dk kvs) => if isKey x then some (look x kvs).isSome else none
    | some (.dt kvs) => if isKeyT x then some (look x kvs).isSome else none
    | _ => none
  | _ => none

def isNonW : W → Bool
  | .non => true
  | _ => false
inductive Co where | eq | ne | lt | le | gt | ge | inn | nin | isn | nisn
def cmp (o : Co) (x y : W) (h : Hh) : Option Bool := match o with
  | .eq => eqW h x y
  | .ne => (eqW h x y).map not
  | .lt => match x, y with
    | .int i, .int j => some (decide (i < j))
    | .str a, .str b => some (ltS a b)
    | _, _ => none
  | .le => match x, y with
    | .int i, .int j => some (decide (i ≤ j))
    | .str a, .str b => some (!ltS b a)
    | _, _ => none
  | .gt => match x, y with
    | .int i, .int j => some (decide (j < i))
    | .str a, .str b => some (ltS b a)
    | _, _ => none
  | .ge => match x, y with
    | .int i, .int j => some (decide (j ≤ i))
    | .str a, .str b => some (!ltS a b)
    | _, _ => none
  | .inn => inW x y h
  | .nin => (inW x y h).map not
  | .isn => match y with
    | .non => some (isNonW x)
    | _ => none
  | .nisn => match y with
    | .non => some (!isNonW x)
    | _ => none

/-- a value's truth -/
def truth (x : W) (h : Hh) : Option Bool := match x with
  | .non => some false
  | .bl b => some b
  | .int i => some (i != 0)
  | .str s => if fits s then some (!s.isEmpty) else none
  | .tup xs => some (!xs.isEmpty)
  | .ref a => match h.lstAt a with
    | some xs => some (!xs.isEmpty)
    | none => none
  | _ => none

/-! ### expressions -/
def eV (i : Nat) : E := fun _ τ h => match τ[i]? with
  | some (some w) => .ok w h
  | _ => .bad
def eC (w : W) : E := fun _ _ h => .ok w h
def eBin (o : Op) (a b : E) : E := fun c τ h => (a c τ h).bind fun x h => (b c τ h).bind fun y h => bin o x y h
def eNeg (a : E) : E := fun c τ h => (a c τ h).bind fun x h => match x with
  | .int i => .ok (.int (-i)) h
  | _ => .bad
def cmpR (o : Co) (x y : W) (h : Hh) : R W := match cmp o x y h with
  | some b => .ok (.bl b) h
  | none => .bad
def eCmp (o : Co) (a b : E) : E := fun c τ h => (a c τ h).bind fun x h => (b c τ h).bind fun y h => cmpR o x y h
/-- a o b o' d -/
def eChain (o o' : Co) (a b d : E) : E := fun c τ h => (a c τ h).bind fun x h => (b c τ h).bind fun y h => match cmp o x y h with
  | some true => (d c τ h).bind fun z h => cmpR o' y z h
  | some false => .ok (.bl false) h
  | none => .bad
def eAnd (a b : E) : E := fun c τ h => (a c τ h).bind fun x h => match x with
  | .bl true => b c τ h
  | .bl false => .ok (.bl false) h
  | _ => .bad
def eOr (a b : E) : E := fun c τ h => (a c τ h).bind fun x h => match x with
  | .bl true => .ok (.bl true) h
  | .bl false => b c τ h
  | _ => .bad
def tE (a : E) : T := fun c τ h => (a c τ h).bind fun x h => R.opt (truth x h) h
def tAnd (a b : T) : T := fun c τ h => (a c τ h).bind fun x h => match x with
  | true => b c τ h
  | false => .ok false h
def tOr (a b : T) : T := fun c τ h => (a c τ h).bind fun x h => match x with
  | true => .ok true h
  | false => b c τ h
def tNot (a : T) : T := fun c τ h => (a c τ h).bind fun x h => .ok (!x) h
/-- not e, as a value -/
def eNotV (a : E) : E := fun c τ h => (a c τ h).bind fun x h => match truth x h with
  | some b => .ok (.bl (!b)) h
  | none => .bad
def eIf (t : T) (a b : E) : E := fun c τ h => (t c τ h).bind fun x h => match x with
  | true => a c τ h
  | false => b c τ h
def aNil : Es := fun _ _ h => .ok [] h
def aCons (a : E) (r : Es) : Es := fun c τ h => (a c τ h).bind fun x h => (r c τ h).bind fun xs h => .ok (x :: xs) h
def eTup (a : Es) : E := fun c τ h => (a c τ h).bind fun xs h => if fits xs then .ok (.tup xs) h else .bad
def eLst (a : Es) : E := fun c τ h => (a c τ h).bind fun xs h => if fits xs then .ok (.ref h.n) (h.push (.lst xs)) else .bad
def eDk : E := fun _ _ h => .ok (.ref h.n) (h.push (.dk []))
def eDt : E := fun _ _ h => .ok (.ref h.n) (h.push (.dt []))
def idx (x y : W) (h : Hh) : R W := match x, y with
  | .str s, .int i => if fits s then (match atI s i with | some c => .ok (.str [c]) h | none => .bad) else .bad
  | .tup xs, .int i => R.opt (atI xs i) h
  | .ref a, y => match h.get a with
    | some (.lst xs) => (match y with | .int i => R.opt (atI xs i) h | _ => .bad)
    | some (.ro xs) => (match y with | .int i => R.opt (atI xs i) h | _ => .bad)
    | some (.dk kvs) => if isKey y then R.opt (look y kvs) h else .bad
    | some (.dt kvs) => if isKeyT y then R.opt (look y kvs) h else .bad
    | _ => .bad
  | _, _ => .bad
def eIx (a b : E) : E := fun c τ h => (a c τ h).bind fun x h => (b c τ h).bind fun y h => idx x y h
abbrev P := Cx → St → Hh → R (Option Int)
def pN : P := fun _ _ h => .ok none h
def pS (a : E) : P := fun c τ h => (a c τ h).bind fun x h => match x with
  | .int i => .ok (some i) h
  | _ => .bad
def slice (x : W) (lo hi : Option Int) (h : Hh) : R W := match x with
  | .str s => if fits s then .ok (.str (cut s lo hi)) h else .bad
  | .tup xs => if cutWhole xs lo hi then .bad else .ok (.tup (cut xs lo hi)) h
  | .ref a => match h.lstAt a with
    | some xs => .ok (.ref h.n) (h.push (.lst (cut xs lo hi)))
    | none => .bad
  | _ => .bad
def eSl (a : E) (lo hi : P) : E := fun c τ h => (a c τ h).bind fun x h => (lo c τ h).bind fun l h => (hi c τ h).bind fun u h => slice x l u h
/-- a[::-1] -/
def eRev (a : E) : E := fun c τ h => (a c τ h).bind fun x h => match x with
  | .str s => if fits s then .ok (.str s.reverse) h else .bad
  | .ref a => match h.lstAt a with
    | some xs => .ok (.ref h.n) (h.push (.lst xs.reverse))
    | none => .bad
  | _ => .bad
/-- a call of the def k -/
def eCall (k : Nat) (a : Es) : E := fun c τ h => (a c τ h).bind fun xs h => c.d k xs h
/-- a call without arguments: no error is borne -/
def eCall0 (k : Nat) : E := fun c τ h => (c.d k [] h).nox
/-- a call of the def that slot i holds -/
def eCallV (i : Nat) (a : Es) : E := fun c τ h => match τ[i]? with
  | some (some (.fn k)) => (a c τ h).bind fun xs h => c.d k xs h
  | _ => .bad
/-- the lambda that slot i holds is called -/
def isLam (h : Hh) (a : Nat) : Bool := match h.get a with
  | some .lam => true
  | _ => false
def eThunk (i : Nat) : E := fun c τ h => match τ[i]? with
  | some (some (.ref a)) => (match c.la with
    | some b => if Nat.beq a b then (match c.th h with
      | .ok w h' => if isLam h' b then .ok w h' else .bad
      | .er k p h' => if isLam h' b then .er k p h' else .bad
      | .bad => .bad) else .bad
    | none => .bad)
  | _ => .bad

/-- call(), return call(): a slot's lambda; behind an error the slots are forgotten -/
def forget (τ : St) : St := τ.map fun _ => none
def sThE (i : Nat) : S := fun c τ h => match eThunk i c τ h with
  | .ok _ h => .nx τ h
  | .er k p h => .er k p (forget τ) h
  | .bad => .bad
def sThR (i : Nat) : S := fun c τ h => match eThunk i c τ h with
  | .ok w h => .rt w h
  | .er k p h => .er k p (forget τ) h
  | .bad => .bad

/-! ### built-ins, by values -/
inductive Ty where | int | bool | str | list | tuple | cls (k : Nat)
def isin (x : W) (t : Ty) (h : Hh) : Option Bool := match x with
  | .non => (match t with | .cls _ => none | _ => some false)
  | .bl _ => (match t with | .int => some true | .bool => some true | .cls _ => none | _ => some false)
  | .int _ => (match t with | .int => some true | .cls _ => none | _ => some false)
  | .str _ => (match t with | .str => some true | .cls _ => none | _ => some false)
  | .tup _ => (match t with | .tuple => some true | .cls _ => none | _ => some false)
  | .ref a => (match h.get a with
    | some (.lst _) => (match t with | .list => some true | .cls _ => none | _ => some false)
    | _ => none)
  | _ => none
def eIsin (a : E) (t : Ty) : E := fun c τ h => (a c τ h).bind fun x h => match isin x t h with
  | some b => .ok (.bl b) h
  | none => .bad
/-- isinstance(e, class k), e the error at hand -/
def eIsX (a : E) (k : Nat) : E := fun c τ h => (a c τ h).bind fun x h => match x with
  | .ref a => (match c.ex with
    | some b => if Nat.beq a b then (match h.get a with
        | some (.exc c' .non) => .ok (.bl (c.sub c' k)) h
        | _ => .bad) else .bad
    | none => .bad)
  | _ => .bad
def lenW (x : W) (h : Hh) : Option Int := match x with
  | .str s => if fits s then some s.length else none
  | .tup xs => some xs.length
  | .ref a => match h.get a with
    | some (.lst xs) => some xs.length
    | some (.ro xs) => some xs.length
    | some (.dk kvs) => some kvs.length
    | _ => none
  | _ => none
def bLen : W → Hh → R W := fun x h => match lenW x h with
  | some i => .ok (.int i) h
  | none => .bad
def bAbs : W → Hh → R W := fun x h => match x with
  | .int i => .ok (.int (if i < 0 then -i else i)) h
  | _ => .bad
def bInt : W → Hh → R W := fun x h => match x with
  | .int i => .ok (.int i) h
  | _ => .bad
def natS : Nat → Nat → List Nat → List Nat
  | 0, _, acc => acc
  | f + 1, n, acc => if Nat.blt n 10 then (48 + n) :: acc else natS f (n / 10) ((48 + n % 10) :: acc)
def intS (i : Int) : List Nat := if i < 0 then 45 :: natS (i.natAbs + 1) i.natAbs [] else natS (i.natAbs + 1) i.natAbs []
def bList : W → Hh → R W := fun x h => match x with
  | .tup xs => .ok (.ref h.n) (h.push (.lst xs))
  | .ref a => match h.lstAt a with
    | some xs => .ok (.ref h.n) (h.push (.lst xs))
    | none => .bad
  | _ => .bad
def bTuple : W → Hh → R W := fun x h => match x with
  | .tup xs => .ok (.tup xs) h
  | .ref a => match h.lstAt a with
    | some xs => .ok (.tup xs) h
    | none => .bad
  | _ => .bad
def toBls : List W → Option (List Bool) := mapO fun x => match x with | .bl b => some b | _ => none
def toInts : List W → Option (List Int) := mapO fun x => match x with | .int b => some b | _ => none
def toStrs : List W → Option (List (List Nat)) := mapO fun x => match x with | .str b => some b | _ => none
def onList (f : List W → Hh → R W) : W → Hh → R W := fun x h => match x with
  | .ref a => match h.lstAt a with
    | some xs => f xs h
    | none => .bad
  | _ => .bad
def bAll : W → Hh → R W := onList fun xs h => match toBls xs with | some bs => .ok (.bl (bs.all id)) h | none => .bad
def bAny : W → Hh → R W := onList fun xs h => match toBls xs with | some bs => .ok (.bl (bs.any id)) h | none => .bad
def bSum : W → Hh → R W := onList fun xs h => match toInts xs with | some bs => .ok (.int bs.sum) h | none => .bad
def maxI : Int → List Int → Int
  | m, [] => m
  | m, x :: xs => maxI (if m < x then x else m) xs
def minI : Int → List Int → Int
  | m, [] => m
  | m, x :: xs => minI (if x < m then x else m) xs
def bMax : W → Hh → R W := onList fun xs h => match toInts xs with | some (x :: r) => .ok (.int (maxI x r)) h | _ => .bad
def bMin : W → Hh → R W := onList fun xs h => match toInts xs with | some (x :: r) => .ok (.int (minI x r)) h | _ => .bad
def eB (f : W → Hh → R W) (a : E) : E := fun c τ h => (a c τ h).bind fun x h => f x h
def eB2 (f : W → W → Hh → R W) (a b : E) : E := fun c τ h => (a c τ h).bind fun x h => (b c τ h).bind fun y h => f x y h

/-! ### what a for walks: its items; the lists that must stand as they are -/
structure Wk where
  items : List W
  held : List (Nat × List W)
abbrev I := Cx → St → Hh → R Wk
def heldOk (h : Hh) : List (Nat × List W) → Bool
  | [] => true
  | (a, xs) :: r => (match h.lstAt a with | some ys => W.beqs ys xs | none => false) && heldOk h r
def iSeq (a : E) : I := fun c τ h => (a c τ h).bind fun x h => match x with
  | .str s => .ok ⟨s.map fun c => .str [c], []⟩ h
  | .tup xs => .ok ⟨xs, []⟩ h
  | .ref a => match h.lstAt a with
    | some xs => .ok ⟨xs, [(a, xs)]⟩ h
    | none => .bad
  | _ => .bad
/-- a list, walked within an except suite -/
def iSeqL (a : E) : I := fun c τ h => (a c τ h).bind fun x h => match x with
  | .ref a => match h.lstAt a with
    | some xs => .ok ⟨xs, [(a, xs)]⟩ h
    | none => .bad
  | _ => .bad
def smallR (i : Int) : Bool := decide (-4611686018427387904 ≤ i) && decide (i < 4611686018427387904)
def rangeL (lo : Int) : Nat → List W
  | 0 => []
  | n + 1 => .int lo :: rangeL (lo + 1) n
def iRange (a b : E) : I := fun c τ h => (a c τ h).bind fun x h => (b c τ h).bind fun y h => match x, y with
  | .int i, .int j => if smallR i && smallR j then .ok ⟨rangeL i (j - i).toNat, []⟩ h else .bad
  | _, _ => .bad
def iRange1 (b : E) : I := fun c τ h => (b c τ h).bind fun y h => match y with
  | .int j => if smallR j then .ok ⟨rangeL 0 j.toNat, []⟩ h else .bad
  | _ => .bad
def enumL : Int → List W → List W
  | _, [] => []
  | i, x :: xs => .tup [.int i, x] :: enumL (i + 1) xs
def zipL : List W → List W → List W
  | x :: xs, y :: ys => .tup [x, y] :: zipL xs ys
  | _, _ => []
def iEnum (a : E) : I := fun c τ h => (a c τ h).bind fun x h => match x with
  | .ref a => match h.lstAt a with
    | some xs => .ok ⟨enumL 0 xs, [(a, xs)]⟩ h
    | none => .bad
  | _ => .bad
def iZip (a b : E) : I := fun c τ h => (a c τ h).bind fun x h => (b c τ h).bind fun y h => match x, y with
  | .tup xs, .tup ys => .ok ⟨zipL xs ys, []⟩ h
  | .ref p, .ref q => (match h.lstAt p, h.lstAt q with
    | some xs, some ys => .ok ⟨zipL xs ys, [(p, xs), (q, ys)]⟩ h
    | _, _ => .bad)
  | _, _ => .bad

/-! ### targets -/
def gV (i : Nat) : G := fun w _ τ h => .go (τ.set i (some w)) h
abbrev Gs := List W → Cx → St → Hh → GR
def gNil : Gs := fun ws _ τ h => match ws with
  | [] => .go τ h
  | _ => .bad
def gCons (g : G) (r : Gs) : Gs := fun ws c τ h => match ws with
  | [] => .bad
  | w :: ws => match g w c τ h with
    | .go τ h => r ws c τ h
    | .bad => .bad
def gTup (n : Nat) (g : Gs) : G := fun w c τ h => match w with
  | .tup xs => if Nat.beq xs.length n then g xs c τ h else .bad
  | _ => .bad
def setIx (o i v : W) (h : Hh) : Option Hh := match o with
  | .ref a => match h.get a with
    | some (.lst xs) => (match i with
      | .int k => (ixN xs.length k).map fun j => h.set a (.lst (xs.set j v))
      | _ => none)
    | some (.dk kvs) => if isKey i && fitsS kvs then some (h.set a (.dk (put i v kvs))) else none
    | some (.dt kvs) => if isKeyT i && fitsS kvs then some (h.set a (.dt (put i v kvs))) else none
    | _ => none
  | _ => none
def R.f (r : R W) (τ : St) (k : W → Hh → F) : F := match r with
  | .ok w h => k w h
  | .er c p h => .er c p τ h
  | .bad => .bad
def gIx (o i : E) : G := fun v c τ h => match o c τ h with
  | .ok ov h => (match i c τ h with
    | .ok iv h => (match setIx ov iv v h with
      | some h => .go τ h
      | none => .bad)
    | _ => .bad)
  | _ => .bad

/-! ### statements -/
def F.then (f : F) (k : St → Hh → F) : F := match f with
  | .nx τ h => k τ h
  | f => f
def sNil : S := fun _ τ h => .nx τ h
def sCons (a b : S) : S := fun c τ h => (a c τ h).then fun τ h => b c τ h
def sE (e : E) : S := fun c τ h => (e c τ h).f τ fun _ h => .nx τ h
def sRet (e : E) : S := fun c τ h => (e c τ h).f τ fun w h => .rt w h
def sRetN : S := fun _ _ h => .rt .non h
def sAsg (g : G) (e : E) : S := fun c τ h => (e c τ h).f τ fun w h => match g w c τ h with
  | .go τ h => .nx τ h
  | .bad => .bad
/-- x, y = a, b (two names) -/
def sPar (i j : Nat) (a b : E) : S := fun c τ h => (a c τ h).f τ fun v h => (b c τ h).f τ fun w h => .nx ((τ.set i (some v)).set j (some w)) h
def sIf (t : T) (a b : S) : S := fun c τ h => match t c τ h with
  | .ok true h => a c τ h
  | .ok false h => b c τ h
  | .er k p h => .er k p τ h
  | .bad => .bad
def sBrk : S := fun _ τ h => .bk τ h
def forL (c : Cx) (g : G) (b : S) (held : List (Nat × List W)) : List W → St → Hh → F
  | [], τ, h => if heldOk h held then .nx τ h else .bad
  | x :: xs, τ, h => if heldOk h held then
      match g x c τ h with
      | .go τ h => match b c τ h with
        | .nx τ h => forL c g b held xs τ h
        | .ct τ h => forL c g b held xs τ h
        | .bk τ h => .nx τ h
        | f => f
      | .bad => .bad
    else .bad
def R.w (r : R Wk) (τ : St) (k : Wk → Hh → F) : F := match r with
  | .ok w h => k w h
  | .er c p h => .er c p τ h
  | .bad => .bad
def sFor (i : I) (g : G) (b : S) : S := fun c τ h => (i c τ h).w τ fun w h => forL c g b w.held w.items τ h
def whileL (c : Cx) (t : T) (b : S) : Nat → St → Hh → F
  | 0, _, _ => .bad
  | n + 1, τ, h => match t c τ h with
    | .ok true h => match b c τ h with
      | .nx τ h => whileL c t b n τ h
      | .ct τ h => whileL c t b n τ h
      | .bk τ h => .nx τ h
      | f => f
    | .ok false h => .nx τ h
    | .er k p h => .er k p τ h
    | .bad => .bad
def sWhile (n : Nat) (t : T) (b : S) : S := fun c τ h => whileL c t b n τ h
def binA (o : Op) (x y : W) (h : Hh) : R W := match o with
  | .add => (match x, y with
    | .int i, .int j => .ok (.int (i + j)) h
    | .str a, .str b => if Nat.ble (a.length + b.length) line then .ok (.str (a ++ b)) h else .bad
    | _, _ => .bad)
  | .sub => (match x, y with
    | .int i, .int j => .ok (.int (i - j)) h
    | _, _ => .bad)
  | _ => .bad
def sAug (i : Nat) (o : Op) (e : E) : S := fun c τ h => match τ[i]? with
  | some (some x) => (e c τ h).f τ fun y h => (binA o x y h).f τ fun z h => .nx (τ.set i (some z)) h
  | _ => .bad
/-- raise C('..') -/
def sRaise (k : Nat) : S := fun _ τ h => .er k .non τ h
/-- raise C(e), one that keeps what it is given -/
def sRaiseP (k : Nat) (e : E) : S := fun c τ h => (e c τ h).f τ fun w h => if isNonW w then .bad else .er k w τ h
def cxSui (c : Cx) (i : Nat) : Cx := { c with d := nod, d1 := nod, d2 := nod, lv := 0, ex := some i }
/-- try: a / except k as (slot i): b; the error has no payload -/
def sTry (a : S) (k i : Nat) (b : S) : S := fun c τ h => match a c τ h with
  | .er k' p τ h => if c.sub k' k then
      if isNonW p then match b (cxSui c h.n) (τ.set i (some (.ref h.n))) (h.push (.exc k' p)) with
      | .nx τ h => .nx (τ.set i none) h
      | .bk τ h => .bk (τ.set i none) h
      | .ct τ h => .ct (τ.set i none) h
      | .rt w h => .rt w h
      | _ => .bad
      else .bad
    else .er k' p τ h
  | f => f
/-- said nowhere -/
def eBad : E := fun _ _ _ => .bad
/-- e.limit of the error at hand -/
def eFld (a : E) : E := fun c τ h => (a c τ h).bind fun x h => match x with
  | .ref a => (match c.ex with
    | some b => if Nat.beq a b then (match h.get a with
        | some (.exc _ .non) => .bad
        | some (.exc _ p) => .ok p h
        | _ => .bad) else .bad
    | none => .bad)
  | _ => .bad

/-! ### comprehensions -/
def wipe (τ : St) : List Nat → St
  | [] => τ
  | v :: vs => (wipe τ vs).set v none
def tYes : T := fun _ _ h => .ok true h
def lcL (c : Cx) (g : G) (t : T) (e : E) (τ : St) (D : Nat) (held : List (Nat × List W)) : List W → Hh → R W
  | [], h => if heldOk h held then .ok (.ref D) h else .bad
  | x :: xs, h => if heldOk h held then
      match g x c τ h with
      | .go τ' h => match t c τ' h with
        | .ok true h => match e c τ' h with
          | .ok y h => match h.get D with
            | some (.lst acc) => if fitsS acc then lcL c g t e τ D held xs (h.set D (.lst (acc ++ [y]))) else .bad
            | _ => .bad
          | _ => .bad
        | .ok false h => lcL c g t e τ D held xs h
        | _ => .bad
      | _ => .bad
    else .bad
/-- [e for g in i if t]; vs: the block's own slots -/
def eLc (vs : List Nat) (i : I) (g : G) (t : T) (e : E) : E := fun c τ h => match i c τ h with
  | .ok w h => lcL c g t e (wipe τ vs) h.n w.held w.items (h.push (.lst []))
  | .er k p h => .er k p h
  | .bad => .bad

/-! ### methods of built-in types -/
def mAppend (o x : W) (h : Hh) : R W := match o with
  | .ref a => match h.get a with
    | some (.lst xs) => if fitsS xs then .ok .non (h.set a (.lst (xs ++ [x]))) else .bad
    | _ => .bad
  | _ => .bad
def mExtend (o x : W) (h : Hh) : R W := match o, x with
  | .ref a, .ref b => match h.get a, h.get b with
    | some (.lst xs), some (.lst ys) => if Nat.ble (xs.length + ys.length) line then .ok .non (h.set a (.lst (xs ++ ys))) else .bad
    | _, _ => .bad
  | _, _ => .bad
def mPop (o : W) (h : Hh) : R W := match o with
  | .ref a => match h.get a with
    | some (.lst xs) => (match xs.getLast? with
      | some y => .ok y (h.set a (.lst xs.dropLast))
      | none => .bad)
    | _ => .bad
  | _ => .bad
/-- the first place of a sign -/
def findS (c : Nat) : List Nat → Nat → Option Nat
  | [], _ => none
  | d :: r, i => if Nat.beq d c then some i else findS c r (i + 1)
def mIndexS (o x : W) (h : Hh) : R W := match o, x with
  | .str s, .str [c] => (match findS c s 0 with | some i => .ok (.int i) h | none => .bad)
  | _, _ => .bad
def mFindS (o x : W) (h : Hh) : R W := match o, x with
  | .str s, .str [c] => (match findS c s 0 with | some i => .ok (.int i) h | none => .ok (.int (-1)) h)
  | _, _ => .bad
def lastS (c : Nat) : List Nat → Nat → Option Nat → Option Nat
  | [], _, o => o
  | d :: r, i, o => lastS c r (i + 1) (if Nat.beq d c then some i else o)
def mRfindS (o x : W) (h : Hh) : R W := match o, x with
  | .str s, .str [c] => (match lastS c s 0 none with | some i => .ok (.int i) h | none => .ok (.int (-1)) h)
  | _, _ => .bad
def joinS (sep : List Nat) : List (List Nat) → List Nat
  | [] => []
  | [a] => a
  | a :: b :: r => a ++ (sep ++ joinS sep (b :: r))
def totS (sep : List Nat) : List (List Nat) → Nat
  | [] => 0
  | a :: r => a.length + sep.length + totS sep r
def mJoin (o x : W) (h : Hh) : R W := match o with
  | .str sep => onList (fun xs h => match toStrs xs with
    | some ys => if Nat.ble (totS sep ys) line then .ok (.str (joinS sep ys)) h else .bad
    | none => .bad) x h
  | _ => .bad
def mGet (o k d : W) (h : Hh) : R W := match o with
  | .ref a => match h.get a with
    | some (.dk kvs) => if isKey k then .ok ((look k kvs).getD d) h else .bad
    | some (.dt kvs) => if isKeyT k then .ok ((look k kvs).getD d) h else .bad
    | _ => .bad
  | _ => .bad

/-! ### calls of methods: the type is asked ahead of the arguments -/
inductive Mt where | str | list | dict
def tyIs (t : Mt) (x : W) (h : Hh) : Bool := match t with
  | .str => (match x with | .str _ => true | _ => false)
  | .list => (match x with | .ref a => (match h.get a with | some (.lst _) => true | _ => false) | _ => false)
  | .dict => (match x with | .ref a => (match h.get a with | some (.dk _) => true | some (.dt _) => true | _ => false) | _ => false)
def eM0 (t : Mt) (m : W → Hh → R W) (a : E) : E := fun c τ h => (a c τ h).bind fun x h => if tyIs t x h then m x h else .bad
def eM1 (t : Mt) (m : W → W → Hh → R W) (a b : E) : E := fun c τ h => (a c τ h).bind fun x h => if tyIs t x h then (b c τ h).bind fun y h => m x y h else .bad
def eM2 (t : Mt) (m : W → W → W → Hh → R W) (a b d : E) : E := fun c τ h => (a c τ h).bind fun x h => if tyIs t x h then (b c τ h).bind fun y h => (d c τ h).bind fun z h => m x y z h else .bad
/-- x.index(y), x a text or a list -/
def eIndex (m m' : W → W → Hh → R W) (a b : E) : E := fun c τ h => (a c τ h).bind fun x h =>
  if tyIs .str x h then (b c τ h).bind fun y h => m x y h else if tyIs .list x h then (b c τ h).bind fun y h => m' x y h else .bad

/-! ### more built-ins -/
def bStr : W → Hh → R W := fun x h => match x with
  | .int i => if Nat.blt i.natAbs.log2 1900 then .ok (.str (intS i)) h else .bad
  | _ => .bad
/-! a < b of data of one shape: numbers, texts, tuples of these -/
mutual
def ltW : W → W → Option Bool
  | .int i, .int j => some (decide (i < j))
  | .str a, .str b => some (ltS a b)
  | .tup xs, .tup ys => ltWs xs ys
  | _, _ => none
def ltWs : List W → List W → Option Bool
  | [], [] => some false
  | [], _ :: _ => some true
  | _ :: _, [] => some false
  | x :: xs, y :: ys => if W.beq x y then ltWs xs ys else ltW x y
end
/-- x put into a sorted list, behind the equal ones -/
def insW (x : W) : List W → Option (List W)
  | [] => some [x]
  | y :: ys => match ltW x y with
    | some true => some (x :: y :: ys)
    | some false => (insW x ys).map (y :: ·)
    | none => none
def sortW : List W → List W → Option (List W)
  | [], acc => some acc
  | x :: xs, acc => match insW x acc with
    | some acc => sortW xs acc
    | none => none
def bSorted : W → Hh → R W := onList fun xs h => match sortW xs [] with
  | some ys => .ok (.ref h.n) (h.push (.lst ys))
  | none => .bad
def bMax2 (x y : W) (h : Hh) : R W := match x, y with
  | .int i, .int j => .ok (.int (if j > i then j else i)) h
  | _, _ => .bad
def bMin2 (x y : W) (h : Hh) : R W := match x, y with
  | .int i, .int j => .ok (.int (if j < i then j else i)) h
  | _, _ => .bad
/-- the first place of a flat thing -/
def findW (x : W) : List W → Nat → Option Nat
  | [], _ => none
  | y :: r, i => if eqFlat y x then some i else findW x r (i + 1)
def mIndexL (o x : W) (h : Hh) : R W := match o with
  | .ref a => (match h.get a with
    | some (.lst xs) => if flat x && xs.all flat then (match findW x xs 0 with | some i => .ok (.int i) h | none => .bad) else .bad
    | _ => .bad)
  | _ => .bad
def mFind := mFindS
def mRfind := mRfindS
def mGet1 (o k : W) (h : Hh) : R W := mGet o k .non h
def countS (c : Nat) : List Nat → Nat
  | [] => 0
  | d :: r => if Nat.beq d c then countS c r + 1 else countS c r
def mCount (o x : W) (h : Hh) : R W := match o, x with
  | .str s, .str [c] => .ok (.int (countS c s)) h
  | _, _ => .bad
def eB3 (f : W → W → W → Hh → R W) (a b d : E) : E := fun c τ h => (a c τ h).bind fun x h => (b c τ h).bind fun y h => (d c τ h).bind fun z h => f x y z h
/-- s.replace(c, t), c one sign -/
def replS (c : Nat) (t : List Nat) : List Nat → List Nat
  | [] => []
  | d :: r => if Nat.beq d c then t ++ replS c t r else d :: replS c t r
def mReplace (o x y : W) (h : Hh) : R W := match o, x, y with
  | .str s, .str [c], .str t => let u := replS c t s; if fits u then .ok (.str u) h else .bad
  | _, _, _ => .bad
def sCnt : S := fun _ τ h => .ct τ h

/-! ### a program: its defs -/
structure Df where
  ar : Nat
  sl : Nat
  body : S
def start (n : Nat) (ws : List W) : St := ws.map some ++ List.replicate (n - ws.length) none
def runDf (d : Df) (ws : List W) (c : Cx) (h : Hh) : R W := if Nat.beq ws.length d.ar then
    match d.body c (start d.sl ws) h with
    | .nx _ h => .ok .non h
    | .rt w h => .ok w h
    | .er k p _ h => .er k p h
    | _ => .bad
  else .bad
/-- f(lambda: b), f the def g -/
def eLam (g : Df) (b : E) : E := fun c τ h => if Nat.ble 2 c.lv then
    (runDf g [.ref h.n] ⟨nod, nod, nod, fun h => b ⟨c.d2, nod, nod, fun _ => .bad, c.sub, 0, none, none⟩ τ h, c.sub, 0, none, some h.n⟩ (h.push .lam)).nox
  else .bad
/-! the contexts by level -/
def lev (defs : List Df) (sub : Nat → Nat → Bool) : Nat → Cx
  | 0 => ⟨nod, nod, nod, fun _ => .bad, sub, 0, none, none⟩
  | k + 1 => ⟨fun f ws h => match defs[f]? with
      | some d => runDf d ws (lev defs sub k) h
      | none => .bad, (lev defs sub k).d, (lev defs sub k).d1, fun _ => .bad, sub, k + 1, none, none⟩
end PV

set_option linter.all false
set_option autoImplicit false
set_option maxRecDepth 100000
/-! Mm: reasoning about the machine: heaps that grow, loops. Plain Lean. -/
namespace PM
open PV
/-! ### the heap -/
theorem nbeq_no {a b : Nat} (h : a ≠ b) : Nat.beq a b = false := by
  cases e : Nat.beq a b with
  | false => rfl
  | true => exact absurd (Nat.eq_of_beq_eq_true e) h
theorem gA_none : ∀ (os : List O) (n a : Nat), os.length = n → n ≤ a → getA n os a = none
  | [], _, _, _, _ => by unfold getA; rfl
  | o :: os, n, a, hl, ha => by
    have hn : os.length = n - 1 := by simp at hl; omega
    unfold getA
    rw [show Nat.beq (a + 1) n = false from nbeq_no (by omega)]
    exact gA_none os (n - 1) a hn (by omega)
theorem gA_push (o : O) (os : List O) (n a : Nat) : getA (n + 1) (o :: os) a = if a = n then some o else getA n os a := by
  rw [getA]
  by_cases e : a = n
  · subst e; simp
  · rw [show Nat.beq (a + 1) (n + 1) = false from nbeq_no (by omega), if_neg e]
    rfl
theorem gA_set : ∀ (os : List O) (n a b : Nat) (x : O), os.length = n → b < n → getA n (setA n os b x) a = if a = b then some x else getA n os a
  | [], n, a, b, x, hl, hb => by simp at hl; omega
  | o :: os, n, a, b, x, hl, hb => by
    have hn : os.length = n - 1 := by simp at hl; omega
    obtain ⟨k, rfl⟩ : ∃ k, n = k + 1 := ⟨n - 1, by omega⟩
    unfold setA
    by_cases e : b = k
    · subst e
      rw [Nat.beq_refl, if_pos rfl, gA_push, gA_push]
      split <;> rfl
    · rw [show Nat.beq (b + 1) (k + 1) = false from nbeq_no (by omega)]
      show getA (k + 1) (o :: setA k os b x) a = _
      rw [gA_push, gA_push, gA_set os k a b x (by simpa using hn) (by omega)]
      by_cases h1 : a = k
      · subst h1; rw [if_pos rfl, if_pos rfl, if_neg (Ne.symm e)]
      · rw [if_neg h1, if_neg h1]
theorem sA_len : ∀ (os : List O) (n a : Nat) (x : O), (setA n os a x).length = os.length
  | [], _, _, _ => by unfold setA; rfl
  | o :: os, n, a, x => by unfold setA; split <;> simp [sA_len os (n - 1) a x]
def Wf (h : Hh) : Prop := h.os.length = h.n
section
variable {h h' h2 : Hh} {a b c : Nat} {o : O}
theorem get_push : (h.push o).get a = if a = h.n then some o else h.get a := gA_push o h.os h.n a
theorem push_n : (h.push o).n = h.n + 1 := rfl
theorem set_n : (h.set b o).n = h.n := rfl
theorem get_new : (h.push o).get h.n = some o := by rw [get_push, if_pos rfl]
theorem get_old (ha : a < h.n) : (h.push o).get a = h.get a := by rw [get_push, if_neg (Nat.ne_of_lt ha)]
theorem get_set (w : Wf h) (hb : b < h.n) : (h.set b o).get a = if a = b then some o else h.get a := gA_set _ _ _ _ _ w hb
theorem get_lt (w : Wf h) (e : h.get a = some o) : a < h.n := by
  by_cases q : a < h.n
  · exact q
  · rw [show h.get a = none from gA_none _ _ _ w (by omega)] at e; cases e
theorem Wf.push (w : Wf h) : Wf (h.push o) := by unfold Wf Hh.push at *; simp [w]
theorem Wf.set (w : Wf h) : Wf (h.set b o) := (sA_len _ _ _ _).trans w
/-- the heap grew, all but the things in X stayed -/
structure Gx (X : Nat → Prop) (h h' : Hh) : Prop where
  wf : Wf h'
  le : h.n ≤ h'.n
  get : ∀ a, a < h.n → ¬ X a → h'.get a = h.get a
abbrev Gz (h h' : Hh) : Prop := Gx (fun _ => False) h h'
variable {X Z : Nat → Prop}
theorem Gx.refl (w : Wf h) : Gx X h h := ⟨w, Nat.le_refl _, fun _ _ _ => rfl⟩
theorem Gx.trans (p : Gx X h h') (q : Gx X h' h2) : Gx X h h2 := ⟨q.wf, Nat.le_trans p.le q.le, fun a ha hx => (q.get a (Nat.lt_of_lt_of_le ha p.le) hx).trans (p.get a ha hx)⟩
theorem Gx.imp (p : Gx X h h') (i : ∀ a, a < h.n → X a → Z a) : Gx Z h h' := ⟨p.wf, p.le, fun a ha hz => p.get a ha fun hx => hz (i a ha hx)⟩
theorem Gx.any (p : Gz h h') : Gx X h h' := p.imp fun _ _ z => z.elim
theorem Gx.push (w : Wf h) : Gx X h (h.push o) := ⟨w.push, Nat.le_succ _, fun a ha _ => get_old ha⟩
theorem Gx.set (w : Wf h) (hb : b < h.n) (hx : X b) : Gx X h (h.set b o) := ⟨w.set, Nat.le_refl _, fun a ha hz => by rw [get_set w hb, if_neg fun e => hz (by rw [e]; exact hx)]⟩
/-- what is newer than the start may be set -/
theorem Gx.setNew (p : Gx X h h') (h1 : h.n ≤ b) (h2 : b < h'.n) : Gx X h (h'.set b o) := ⟨p.wf.set, p.le, fun a ha hx => by rw [get_set p.wf h2, if_neg (by omega)]; exact p.get a ha hx⟩
theorem Gx.keep (p : Gx X h h') (w : Wf h) (e : h.get a = some o) (hx : ¬ X a) : h'.get a = some o := (p.get a (get_lt w e) hx).trans e
theorem lstAt_lst {xs : List W} (e : h.get a = some (.lst xs)) : h.lstAt a = some xs := by unfold Hh.lstAt; rw [e]
theorem lstAt_ro {xs : List W} (e : h.get a = some (.ro xs)) : h.lstAt a = some xs := by unfold Hh.lstAt; rw [e]
end
/-! ### results -/
/-- it tells P, the heap grew but for X -/
def Rt {α : Type} (X : Nat → Prop) (r : R α) (h : Hh) (P : α → Hh → Prop) : Prop := ∃ a h', r = .ok a h' ∧ Gx X h h' ∧ P a h'
section
variable {α β : Type} {X : Nat → Prop} {h : Hh} {P : α → Hh → Prop} {Q : β → Hh → Prop}
theorem Rt.bind {r : R α} {f : α → Hh → R β} (p : Rt X r h P) (k : ∀ a h1, Gx X h h1 → P a h1 → Rt X (f a h1) h1 Q) : Rt X (r.bind f) h Q := by
  obtain ⟨a, h1, e, g, q⟩ := p
  obtain ⟨b, h2, e2, g2, q2⟩ := k a h1 g q
  exact ⟨b, h2, by rw [e]; exact e2, g.trans g2, q2⟩
theorem Rt.ok {a : α} (w : Wf h) (p : P a h) : Rt X (.ok a h) h P := ⟨a, h, rfl, .refl w, p⟩
theorem Rt.mono {r : R α} {P' : α → Hh → Prop} (p : Rt X r h P) (i : ∀ a h', Gx X h h' → P a h' → P' a h') : Rt X r h P' := by
  obtain ⟨a, h1, e, g, q⟩ := p
  exact ⟨a, h1, e, g, i _ _ g q⟩
theorem Rt.any {r : R α} {X' : Nat → Prop} (p : Rt (fun _ => False) r h P) : Rt X' r h P := by
  obtain ⟨a, h1, e, g, q⟩ := p
  exact ⟨a, h1, e, g.any, q⟩
theorem Rt.imp {r : R α} {X' : Nat → Prop} (p : Rt X r h P) (i : ∀ a, a < h.n → X a → X' a) : Rt X' r h P := by
  obtain ⟨a, h1, e, g, q⟩ := p
  exact ⟨a, h1, e, g.imp i, q⟩
end
/-- a def's call, a level down -/
theorem lev_call {defs : List Df} {sub : Nat → Nat → Bool} {n k : Nat} {d : Df} (e : defs[k]? = some d) (ws : List W) (h : Hh) : (lev defs sub (n + 1)).d k ws h = runDf d ws (lev defs sub n) h := by
  show (match defs[k]? with | some d => runDf d ws (lev defs sub n) h | none => .bad) = _
  rw [e]
/-! ### loops -/
section
variable {c : Cx} {g : G} {b : S} {t : T} {e : E}
theorem forL_inv {I : St → Hh → Prop} : ∀ (items : List W) (τ : St) (h : Hh), I τ h → (∀ x, x ∈ items → ∀ τ h, I τ h → ∃ τ1 h1 τ2 h2, g x c τ h = .go τ1 h1 ∧ b c τ1 h1 = .nx τ2 h2 ∧ I τ2 h2) → ∃ τ' h', forL c g b [] items τ h = .nx τ' h' ∧ I τ' h'
  | [], τ, h, i, _ => ⟨τ, h, by simp [forL, heldOk], i⟩
  | x :: xs, τ, h, i, st => by
    obtain ⟨τ1, h1, τ2, h2, e1, e2, i2⟩ := st x (by simp) τ h i
    obtain ⟨τ', h', e3, i3⟩ := forL_inv xs τ2 h2 i2 fun y hy => st y (by simp [hy])
    exact ⟨τ', h', by simp [forL, heldOk, e1, e2, e3], i3⟩
theorem forL_cnt {I : Nat → St → Hh → Prop} : ∀ (items : List W) (i : Nat) (τ : St) (h : Hh), I i τ h → (∀ j x, x ∈ items → i ≤ j → j < i + items.length → ∀ τ h, I j τ h → ∃ τ1 h1 τ2 h2, g x c τ h = .go τ1 h1 ∧ b c τ1 h1 = .nx τ2 h2 ∧ I (j + 1) τ2 h2) → ∃ τ' h', forL c g b [] items τ h = .nx τ' h' ∧ I (i + items.length) τ' h'
  | [], i, τ, h, j, _ => ⟨τ, h, by simp [forL, heldOk], j⟩
  | x :: xs, i, τ, h, j, st => by
    obtain ⟨τ1, h1, τ2, h2, e1, e2, i2⟩ := st i x (by simp) (Nat.le_refl _) (by simp) τ h j
    obtain ⟨τ', h', e3, i3⟩ := forL_cnt xs (i + 1) τ2 h2 i2 fun j y hy l1 l2 => st j y (by simp [hy]) (by omega) (by simp; omega)
    exact ⟨τ', h', by simp [forL, heldOk, e1, e2, e3], by rw [List.length_cons, Nat.add_comm xs.length, ← Nat.add_assoc]; exact i3⟩
/-- the first place that tells something -/
def findJ (p : Int → Option W) : Int → Nat → Option W
  | _, 0 => none
  | lo, k + 1 => match p lo with
    | some w => some w
    | none => findJ p (lo + 1) k
theorem forL_find {i : Nat} {h : Hh} {I : St → Prop} (p : Int → Option W) : ∀ (k : Nat) (lo : Int) (τ : St), I τ →
    (∀ (j : Int) (τ : St), lo ≤ j → j < lo + k → I τ → (∀ w, p j = some w → b c (τ.set i (some (.int j))) h = .rt w h) ∧ (p j = none → ∃ τ', b c (τ.set i (some (.int j))) h = .nx τ' h ∧ I τ')) →
    (∀ w, findJ p lo k = some w → forL c (gV i) b [] (rangeL lo k) τ h = .rt w h) ∧ (findJ p lo k = none → ∃ τ', forL c (gV i) b [] (rangeL lo k) τ h = .nx τ' h ∧ I τ')
  | 0, lo, τ, i0, _ => ⟨fun w e => by simp [findJ] at e, fun _ => ⟨τ, by simp [rangeL, forL, heldOk], i0⟩⟩
  | k + 1, lo, τ, i0, st => by
    obtain ⟨s1, s2⟩ := st lo τ (Int.le_refl _) (by omega) i0
    cases e : p lo with
    | some w =>
      refine ⟨fun w' e' => ?_, fun e' => ?_⟩
      · simp only [findJ, e] at e'
        cases e'
        simp [rangeL, forL, heldOk, gV, s1 _ e]
      · simp only [findJ, e] at e'
        cases e'
    | none =>
      obtain ⟨τ1, e1, i1⟩ := s2 e
      obtain ⟨r1, r2⟩ := forL_find p k (lo + 1) τ1 i1 fun j τ hj1 hj2 => st j τ (by omega) (by omega)
      refine ⟨fun w' e' => ?_, fun e' => ?_⟩
      · simp only [findJ, e] at e'
        simp [rangeL, forL, heldOk, gV, e1, r1 _ e']
      · simp only [findJ, e] at e'
        obtain ⟨τ', e2, i2⟩ := r2 e'
        exact ⟨τ', by simp [rangeL, forL, heldOk, gV, e1, e2], i2⟩
/-- a comprehension -/
theorem lcL_map {X : Nat → Prop} {J : Hh → Prop} {τ : St} {D : Nat} {held : List (Nat × List W)} (keep : W → Bool) (f : W → W) (hX : ¬ X D) (hs : ∀ h o, Wf h → J h → D < h.n → J (h.set D o)) (hh : ∀ h, J h → heldOk h held = true) :
    ∀ (items acc : List W) (h : Hh), Wf h → J h → D < h.n → h.get D = some (.lst acc) → acc.length + items.length < 16777216 →
    (∀ x, x ∈ items → ∀ h, Wf h → J h → D < h.n → ∃ τ1 h1, g x c τ h = .go τ1 h ∧ t c τ1 h = .ok (keep x) h1 ∧ Gx X h h1 ∧ J h1 ∧ (keep x = true → ∃ h2, e c τ1 h1 = .ok (f x) h2 ∧ Gx X h1 h2 ∧ J h2)) →
    ∃ h', lcL c g t e τ D held items h = .ok (.ref D) h' ∧ Gx (fun a => X a ∨ a = D) h h' ∧ J h' ∧ h'.get D = some (.lst (acc ++ (items.filter keep).map f))
  | [], acc, h, w, j, hD, hg, hl, _ => ⟨h, by simp [lcL, hh h j], .refl w, j, by simpa using hg⟩
  | x :: xs, acc, h, w, j, hD, hg, hl, st => by
    obtain ⟨τ1, h1, e1, e2, g1, j1, k1⟩ := st x (by simp) h w j hD
    have hg1 := g1.keep w hg hX
    have hD1 : D < h1.n := Nat.lt_of_lt_of_le hD g1.le
    cases hk : keep x with
    | false =>
      obtain ⟨h', e3, g3, j3, r3⟩ := lcL_map keep f hX hs hh xs acc h1 g1.wf j1 hD1 hg1 (by simp at hl; omega) fun y hy => st y (by simp [hy])
      refine ⟨h', ?_, (g1.imp fun a _ z => .inl z).trans g3, j3, ?_⟩
      · rw [hk] at e2
        simp [lcL, hh h j, e1, e2, e3]
      · simpa [hk] using r3
    | true =>
      obtain ⟨h2, e3, g2, j2⟩ := k1 hk
      have hg2 := g2.keep g1.wf hg1 hX
      have hD2 : D < h2.n := Nat.lt_of_lt_of_le hD1 g2.le
      obtain ⟨h', e4, g4, j4, r4⟩ := lcL_map keep f hX hs hh xs (acc ++ [f x]) (h2.set D (.lst (acc ++ [f x]))) g2.wf.set (hs h2 _ g2.wf j2 hD2) hD2 (by rw [get_set g2.wf hD2, if_pos rfl]) (by simp at hl ⊢; omega) fun y hy => st y (by simp [hy])
      refine ⟨h', ?_, (((g1.trans g2).imp fun a _ z => .inl z).trans (Gx.set g2.wf hD2 (.inr rfl))).trans g4, j4, ?_⟩
      · rw [hk] at e2
        have hf : fitsS acc = true := by unfold fitsS line; rw [Nat.blt_eq]; omega
        simp [lcL, hh h j, e1, e2, e3, hg2, hf, e4]
      · simpa [hk] using r4
theorem eLc_map {X : Nat → Prop} {J : Hh → Prop} {τ : St} {h h1 : Hh} {vs : List Nat} {i : I} {k : Wk} (keep : W → Bool) (f : W → W) (w1 : Wf h1) (hi : i c τ h = .ok k h1) (g1 : Gx X h h1) (hX : ∀ a, X a → a < h.n) (hJ : ∀ o, J (h1.push o)) (hs : ∀ h o, Wf h → J h → h1.n < h.n → J (h.set h1.n o)) (hh : ∀ h, J h → heldOk h k.held = true) (hl : k.items.length < 16777216)
    (st : ∀ x, x ∈ k.items → ∀ h, Wf h → J h → h1.n < h.n → ∃ τ1 h2, g x c (wipe τ vs) h = .go τ1 h ∧ t c τ1 h = .ok (keep x) h2 ∧ Gx X h h2 ∧ J h2 ∧ (keep x = true → ∃ h3, e c τ1 h2 = .ok (f x) h3 ∧ Gx X h2 h3 ∧ J h3)) :
    ∃ h', eLc vs i g t e c τ h = .ok (.ref h1.n) h' ∧ Gx X h h' ∧ J h' ∧ h'.get h1.n = some (.lst ((k.items.filter keep).map f)) ∧ h.n ≤ h1.n := by
  have hX1 : ¬ X h1.n := fun z => absurd (hX _ z) (Nat.not_lt.mpr g1.le)
  obtain ⟨h', e3, g3, j3, r3⟩ := lcL_map (c := c) (g := g) (t := t) (e := e) (τ := wipe τ vs) (held := k.held) (X := X) (J := J) keep f hX1 hs hh k.items [] (h1.push (.lst [])) w1.push (hJ _) (Nat.lt_succ_self _) get_new (by simpa using hl) st
  refine ⟨h', ?_, ?_, j3, by simpa using r3, g1.le⟩
  · unfold eLc
    rw [hi]
    exact e3
  · have g4 : Gx X h (h1.push (.lst [])) := g1.trans (Gx.push w1)
    exact ⟨g3.wf, Nat.le_trans g4.le g3.le, fun a ha hx => (g3.get a (Nat.lt_of_lt_of_le ha g4.le) (by
      rintro (z | z)
      · exact hx z
      · have := g1.le; omega)).trans (g4.get a ha hx)⟩
end
end PM

set_option linter.all false
set_option autoImplicit false
set_option maxRecDepth 100000
set_option maxHeartbeats 2000000
/-! Lw: the defs that the laws share: draws, kinds, likeness, rows. -/
namespace PM
open PV
def dCup (q m a b : Int) : Df := ⟨1, 2, (sCons (sAsg (gV 1) (eB bAbs (eIx (eBin .add (eB bList (eV 0)) (eLst (aCons (eC (.int 0)) aNil))) (eC (.int 0)))))
  (sCons (sRet (eLst (aCons (eIf (tE (eCmp .ge (eV 1) (eBin .pow (eC (.int 10)) (eC (.int 18))))) (eBin .fdiv (eV 1) (eC (.int q))) (eC (.int 0))) (aCons (eBin .add (eBin .mod (eB bInt (eBin .add (eBin .mul (eV 1) (eC (.int m))) (eC (.int a)))) (eC (.int 1993969739))) (eC (.int b))) aNil))))
  sNil))⟩
def dRoll : Df := ⟨2, 4, (sCons (sIf (tE (eCmp .gt (eIx (eV 0) (eC (.int 0))) (eC (.int 0)))) (sCons (sAsg (gV 3) (eBin .mod (eB bInt (eIx (eV 0) (eC (.int 0)))) (eV 1)))
  (sCons (sAsg (gIx (eV 0) (eC (.int 0))) (eBin .fdiv (eIx (eV 0) (eC (.int 0))) (eV 1)))
  (sCons (sRet (eV 3))
  sNil))) sNil)
  (sCons (sAsg (gIx (eV 0) (eC (.int 1))) (eBin .mod (eB bInt (eBin .add (eBin .mul (eIx (eV 0) (eC (.int 1))) (eC (.int 30949))) (eC (.int 8807)))) (eC (.int 2147483549))))
  (sCons (sAsg (gV 2) (eBin .mod (eB bInt (eBin .mul (eIx (eV 0) (eC (.int 1))) (eBin .add (eIx (eV 0) (eC (.int 1))) (eC (.int 683))))) (eC (.int 2147483543))))
  (sCons (sRet (eBin .mod (eB bInt (eBin .fdiv (eV 2) (eC (.int 1193)))) (eV 1)))
  sNil))))⟩
def dSome (kr : Nat) : Df := ⟨2, 2, (sCons (sRet (eIx (eV 1) (eCall kr (aCons (eV 0) (aCons (eB bLen (eV 1)) aNil)))))
  sNil)⟩
def dKind : Df := ⟨1, 1, (sCons (sIf (tE (eIsin (eV 0) .bool)) (sCons (sRet (eC (.int 0)))
  sNil) sNil)
  (sCons (sIf (tE (eIsin (eV 0) .tuple)) (sCons (sRet (eC (.int 1)))
  sNil) sNil)
  (sCons (sRet (eIf (tE (eIsin (eV 0) .list)) (eC (.int 2)) (eC (.int 3))))
  sNil)))⟩
def dLike (kk kl : Nat) : Df := ⟨2, 4, (sCons (sIf (tE (eCmp .ne (eCall kk (aCons (eV 0) aNil)) (eCall kk (aCons (eV 1) aNil)))) (sCons (sRet (eC (.bl false)))
  sNil) sNil)
  (sCons (sIf (tE (eCmp .inn (eCall kk (aCons (eV 0) aNil)) (eTup (aCons (eC (.int 1)) (aCons (eC (.int 2)) aNil))))) (sCons (sRet (eAnd (eCmp .eq (eB bLen (eV 0)) (eB bLen (eV 1))) (eCmp .eq (eLc [2, 3] (iZip (eV 0) (eV 1)) (gTup 2 (gCons (gV 2) (gCons (gV 3) gNil))) (tNot (tE (eCall kl (aCons (eV 2) (aCons (eV 3) aNil))))) (eC (.int 1))) (eLst aNil))))
  sNil) sNil)
  (sCons (sRet (eCmp .eq (eV 0) (eV 1)))
  sNil)))⟩
def dRow (kr ks : Nat) : Df := ⟨3, 5, (sCons (sAsg (gV 3) (eC (.str [])))
  (sCons (sFor (iRange1 (eCall kr (aCons (eV 0) (aCons (eBin .add (eV 2) (eC (.int 1))) aNil)))) (gV 4) (sCons (sAsg (gV 3) (eBin .add (eV 3) (eCall ks (aCons (eV 0) (aCons (eV 1) aNil)))))
  sNil))
  (sCons (sRet (eV 3))
  sNil)))⟩
theorem fits2 (a b : W) : fits [a, b] = true := rfl
section
variable {defs : List Df} {sub : Nat → Nat → Bool}
def CupOk (h : Hh) (c : Nat) : Prop := ∃ a b : Int, h.get c = some (.lst [.int a, .int b])
theorem roll {n c kr : Nat} {h : Hh} {m : Int} (hr : defs[kr]? = some dRoll) (w : Wf h) (k : CupOk h c) (h0 : 0 < m) (h1 : m.natAbs.log2 < 9000) : Rt (fun a => a = c) ((lev defs sub (n + 1)).d kr [.ref c, .int m] h) h fun v h' => ∃ r, v = .int r ∧ 0 ≤ r ∧ r < m ∧ CupOk h' c := by
  obtain ⟨a, b, e⟩ := k
  have hc := get_lt w e
  rw [lev_call hr]
  have hl : Nat.blt m.natAbs.log2 9000 = true := Nat.blt_eq.mpr h1
  have hd : decide (0 < m) = true := decide_eq_true h0
  have hmod : ∀ x : Int, 0 ≤ x % m ∧ x % m < m := fun x => ⟨Int.emod_nonneg _ (by omega), Int.emod_lt_of_pos _ h0⟩
  have get1 : ∀ o, (h.set c o).get c = some o := fun o => by rw [get_set w hc, if_pos rfl]
  have gs : ∀ o, Gx (fun a => a = c) h (h.set c o) := fun o => Gx.set w hc rfl
  have small1 : ∀ x : Int, small (x % 2147483549) = true := fun x => by
    have := Int.emod_nonneg x (show (2147483549 : Int) ≠ 0 by decide)
    have := Int.emod_lt_of_pos x (show (0 : Int) < 2147483549 by decide)
    unfold small
    simp only [Bool.and_eq_true, decide_eq_true_eq]
    omega
  unfold runDf
  by_cases ha : 0 < a
  · simp [dRoll, start, sCons, sIf, tE, eCmp, eIx, eV, eC, R.bind, idx, e, R.opt, atI, ixN, cmpR, cmp, truth, ha, F.then, sAsg, eBin, eB, bInt, bin, hd, hl, R.f, gV, gIx, setIx, sRet, get1]
    exact ⟨_, _, rfl, gs _, _, rfl, (hmod a).1, (hmod a).2, _, _, get1 _⟩
  · simp [dRoll, start, sCons, sIf, tE, eCmp, eIx, eV, eC, R.bind, idx, e, R.opt, atI, ixN, cmpR, cmp, truth, ha, F.then, sAsg, eBin, eB, bInt, bin, hd, hl, R.f, gV, gIx, setIx, sRet, sNil, get1, small1, show small 30949 = true from rfl, show Nat.log2 1193 < 9000 from by decide, h0]
    exact ⟨_, _, rfl, gs _, _, rfl, (hmod _).1, (hmod _).2, _, _, get1 _⟩
/-- the draws' state -/
theorem cup {n a kc : Nat} {q m p b : Int} (hc : defs[kc]? = some (dCup q m p b)) (hq : 0 < q) (hq2 : q.natAbs.log2 < 9000) (hm : small m = true) {h : Hh} {ns : List Int} (w : Wf h) (e : h.lstAt a = some (ns.map W.int)) (hl : ns.length ≤ 63) : Rt (fun _ => False) ((lev defs sub (n + 1)).d kc [.ref a] h) h fun v h' => ∃ c, v = .ref c ∧ h.n ≤ c ∧ CupOk h' c := by
  rw [lev_call hc]
  unfold runDf
  obtain ⟨x, r, hx⟩ : ∃ x r, ns.map W.int ++ [W.int 0] = W.int x :: r := by
    cases ns with
    | nil => exact ⟨0, [], rfl⟩
    | cons y ys => exact ⟨y, _, rfl⟩
  have hlen : ns.length + 1 ≤ 16777216 := by omega
  simp [dCup, start, sCons, sAsg, eB, bAbs, eIx, eBin, eV, eC, bList, e, R.bind, eLst, aCons, aNil, fits, line, bin, get_push, push_n, hlen, hx, idx, atI, ixN, R.opt, R.f, gV, F.then]
  generalize (if x < 0 then -x else x) = y
  simp [sRet, eLst, aCons, aNil, eIf, tE, eCmp, eV, eC, eBin, bin, cmpR, cmp, R.bind, truth, R.opt, eB, bInt, fits, line, hq, hq2, hm, show small 10 = true from rfl]
  have g3 : Gz h (((h.push (.lst (ns.map W.int))).push (.lst [.int 0])).push (.lst (.int x :: r))) := ((Gx.push w).trans (Gx.push w.push)).trans (Gx.push w.push.push)
  have fin : ∀ z : Int, Rt (fun _ => False) (R.ok (W.ref (((h.push (.lst (ns.map W.int))).push (.lst [.int 0])).push (.lst (.int x :: r))).n) ((((h.push (.lst (ns.map W.int))).push (.lst [.int 0])).push (.lst (.int x :: r))).push (.lst [.int z, .int ((y * m + p) % 1993969739 + b)]))) h fun v h' => ∃ c, v = .ref c ∧ h.n ≤ c ∧ CupOk h' c := fun z =>
    ⟨_, _, rfl, g3.trans (Gx.push g3.wf), _, rfl, g3.le, _, _, get_new⟩
  by_cases hy : 1000000000000000000 ≤ y
  · simp [hy, R.f]
    exact fin _
  · simp [hy, R.f]
    exact fin _
/-! ### kinds, likeness -/
def pl : Nat → W → Bool
  | k, w => match w with
    | .non => true
    | .bl _ => true
    | .int _ => true
    | .str _ => true
    | .tup xs => match k with
      | 0 => false
      | k + 1 => decide (xs.length ≤ 1000) && xs.all (pl k)
    | _ => false
def kindI : W → Int
  | .bl _ => 0
  | .tup _ => 1
  | _ => 3
theorem kind_pl {n kk k : Nat} {h : Hh} {w : W} (hk : defs[kk]? = some dKind) (hp : pl k w = true) : (lev defs sub (n + 1)).d kk [w] h = .ok (.int (kindI w)) h := by
  rw [lev_call hk]
  unfold runDf
  cases w with
  | ref a => simp [pl] at hp
  | fn a => simp [pl] at hp
  | non => simp [dKind, start, sCons, sIf, tE, eIsin, isin, eV, R.bind, truth, R.opt, sRet, eC, R.f, F.then, sNil, eIf, kindI]
  | bl b => simp [dKind, start, sCons, sIf, tE, eIsin, isin, eV, R.bind, truth, R.opt, sRet, eC, R.f, F.then, sNil, eIf, kindI]
  | int b => simp [dKind, start, sCons, sIf, tE, eIsin, isin, eV, R.bind, truth, R.opt, sRet, eC, R.f, F.then, sNil, eIf, kindI]
  | str b => simp [dKind, start, sCons, sIf, tE, eIsin, isin, eV, R.bind, truth, R.opt, sRet, eC, R.f, F.then, sNil, eIf, kindI]
  | tup b => simp [dKind, start, sCons, sIf, tE, eIsin, isin, eV, R.bind, truth, R.opt, sRet, eC, R.f, F.then, sNil, eIf, kindI]
theorem kind_lst {n kk a : Nat} {h : Hh} {xs : List W} (hk : defs[kk]? = some dKind) (hp : h.get a = some (.lst xs)) : (lev defs sub (n + 1)).d kk [.ref a] h = .ok (.int 2) h := by
  rw [lev_call hk]
  unfold runDf
  simp [dKind, start, sCons, sIf, tE, eIsin, isin, hp, eV, R.bind, truth, R.opt, sRet, eC, R.f, F.then, sNil, eIf]
theorem zipL_self : ∀ {xs : List W} {x : W}, x ∈ zipL xs xs → ∃ y ∈ xs, x = .tup [y, y]
  | [], x, h => by simp [zipL] at h
  | y :: ys, x, h => by
    simp only [zipL, List.mem_cons] at h
    rcases h with rfl | h
    · exact ⟨y, by simp, rfl⟩
    · obtain ⟨z, hz, e⟩ := zipL_self h
      exact ⟨z, by simp [hz], e⟩
theorem zipL_length : ∀ (xs : List W), (zipL xs xs).length = xs.length
  | [] => rfl
  | x :: xs => by simp [zipL, zipL_length xs]
/-- the loop of likeness over two alike -/
theorem like_loop {n kl k : Nat} {h : Hh} {J : Hh → Prop} {one other : W} {xs : List W} {held : List (Nat × List W)} {x2 x3 : Option W} (w : Wf h) (hi : ∀ τ h, J h → τ[0]? = some (some one) → τ[1]? = some (some other) → iZip (eV 0) (eV 1) (lev defs sub n) τ h = .ok ⟨zipL xs xs, held⟩ h) (j : J h) (hJ : ∀ h h', Wf h → J h → Gz h h' → J h') (hh : ∀ h, J h → heldOk h held = true) (hl : xs.length ≤ 1000)
    (ih : ∀ y ∈ xs, ∀ h, Wf h → Rt (fun _ => False) ((lev defs sub n).d kl [y, y] h) h fun v _ => v = .bl true) (hs : ∀ h' o, Wf h' → J h' → h.n < h'.n → J (h'.set h.n o)) :
    ∃ h', eLc [2, 3] (iZip (eV 0) (eV 1)) (gTup 2 (gCons (gV 2) (gCons (gV 3) gNil))) (tNot (tE (eCall kl (aCons (eV 2) (aCons (eV 3) aNil))))) (eC (.int 1)) (lev defs sub n) [some one, some other, x2, x3] h = .ok (.ref h.n) h' ∧ Gz h h' ∧ h'.get h.n = some (.lst []) := by
  obtain ⟨h', e1, g1, _, r1, _⟩ := eLc_map (X := fun _ => False) (J := J) (c := lev defs sub n) (τ := [some one, some other, x2, x3]) (h := h) (h1 := h) (vs := [2, 3]) (i := iZip (eV 0) (eV 1)) (k := ⟨zipL xs xs, held⟩) (g := gTup 2 (gCons (gV 2) (gCons (gV 3) gNil))) (t := tNot (tE (eCall kl (aCons (eV 2) (aCons (eV 3) aNil))))) (e := eC (.int 1)) (fun _ => false) (fun _ => .non) w
    (hi _ h j rfl rfl) (.refl w) (fun _ z => z.elim) (fun o => hJ h _ w j (Gx.push w)) hs hh (by show (zipL xs xs).length < _; rw [zipL_length]; omega)
    (fun x hx h2 w2 j2 _ => by
      obtain ⟨y, hy, rfl⟩ := zipL_self hx
      obtain ⟨_, h3, e3, g3, rfl⟩ := ih y hy h2 w2
      refine ⟨[some one, some other, some y, some y], h3, by simp [gTup, gCons, gV, gNil, wipe], ?_, g3, hJ _ _ w2 j2 g3, fun z => by cases z⟩
      simp [tNot, tE, eCall, aCons, aNil, eV, R.bind, e3, truth, R.opt])
  refine ⟨h', e1, g1, ?_⟩
  rw [List.filter_eq_nil_iff.mpr (by simp)] at r1
  exact r1
theorem eq_nils {h : Hh} {a b : Nat} (h1 : h.get a = some (.lst [])) (h2 : h.get b = some (.lst [])) : eqD h (.ref a) (.ref b) = some true := by
  simp [eqD, toD, lstAt_lst h1, lstAt_lst h2, mapO, Dt.eqv, Dt.eqvs]
theorem like_pl {kk kl : Nat} (hk : defs[kk]? = some dKind) (hl : defs[kl]? = some (dLike kk kl)) : ∀ (k n : Nat) (h : Hh) (w : W), Wf h → pl k w = true → Rt (fun _ => False) ((lev defs sub (n + 2 + k)).d kl [w, w] h) h fun v _ => v = .bl true := by
  intro k
  induction k with
  | zero =>
    intro n h w wf hp
    rw [show n + 2 + 0 = (n + 1) + 1 from rfl, lev_call hl]
    have e := kind_pl (sub := sub) (n := n) (h := h) hk hp
    refine ⟨.bl true, h, ?_, .refl wf, rfl⟩
    unfold runDf
    cases w with
    | ref a => simp [pl] at hp
    | fn a => simp [pl] at hp
    | tup xs => simp [pl] at hp
    | _ => simp [dLike, start, sCons, sIf, tE, eCmp, eCall, aCons, aNil, eV, eC, R.bind, e, kindI, cmpR, cmp, eqW, truth, R.opt, F.then, sNil, eTup, fits2, inW, inFlat, flat, eqFlat, sRet, R.f]
  | succ k ih =>
    intro n h w wf hp
    rw [show n + 2 + (k + 1) = (n + 2 + k) + 1 from by omega, lev_call hl]
    have e := kind_pl (sub := sub) (n := n + 1 + k) (h := h) hk hp
    rw [show n + 1 + k + 1 = n + 2 + k by omega] at e
    unfold runDf
    cases w with
    | ref a => simp [pl] at hp
    | fn a => simp [pl] at hp
    | tup xs =>
      simp only [pl, Bool.and_eq_true, decide_eq_true_eq, List.all_eq_true] at hp
      obtain ⟨h', e1, g1, r1⟩ := like_loop (sub := sub) (n := n + 2 + k) (kl := kl) (k := k) (J := fun _ => True) (one := .tup xs) (other := .tup xs) (held := []) (x2 := none) (x3 := none) wf (fun τ h _ t0 t1 => by simp [iZip, eV, t0, t1, R.bind]) trivial (fun _ _ _ _ _ => trivial) (fun _ _ => rfl) hp.1 (fun y hy h w => ih n h y w (hp.2 y hy)) (fun _ _ _ _ _ => trivial)
      have r2 : (h'.push (.lst [])).get h.n = some (.lst []) := by rw [get_old (get_lt g1.wf r1)]; exact r1
      have r3 := eq_nils r2 (get_new (h := h') (o := .lst []))
      refine ⟨.bl true, h'.push (.lst []), ?_, g1.trans (Gx.push g1.wf), rfl⟩
      simp [dLike, start, sCons, sIf, tE, eCmp, eCall, aCons, aNil, eV, eC, R.bind, e, kindI, cmpR, cmp, eqW, truth, R.opt, F.then, sNil, eTup, fits2, inW, inFlat, flat, eqFlat, sRet, R.f, eAnd, eB, bLen, lenW, e1, eLst, fits, line, r3]
    | _ => 
      refine ⟨.bl true, h, ?_, .refl wf, rfl⟩
      simp [dLike, start, sCons, sIf, tE, eCmp, eCall, aCons, aNil, eV, eC, R.bind, e, kindI, cmpR, cmp, eqW, truth, R.opt, F.then, sNil, eTup, fits2, inW, inFlat, flat, eqFlat, sRet, R.f]
theorem like_lst {kk kl k n a b : Nat} {h : Hh} {xs : List W} (hk : defs[kk]? = some dKind) (hl : defs[kl]? = some (dLike kk kl)) (wf : Wf h) (ha : h.get a = some (.lst xs)) (hb : h.get b = some (.lst xs)) (h1 : xs.length ≤ 1000) (h2 : ∀ x ∈ xs, pl k x = true) :
    Rt (fun _ => False) ((lev defs sub (n + 3 + k)).d kl [.ref a, .ref b] h) h fun v _ => v = .bl true := by
  rw [show n + 3 + k = (n + 2 + k) + 1 from by omega, lev_call hl]
  have ea := kind_lst (sub := sub) (n := n + 1 + k) hk ha
  have eb := kind_lst (sub := sub) (n := n + 1 + k) hk hb
  rw [show n + 1 + k + 1 = n + 2 + k by omega] at ea eb
  have la := get_lt wf ha
  have lb := get_lt wf hb
  have xx : W.beqs xs xs = true := W.beqs_refl xs
  unfold runDf
  have hJ : ∀ h h' : Hh, Wf h → (h.get a = some (.lst xs) ∧ h.get b = some (.lst xs)) → Gz h h' → h'.get a = some (.lst xs) ∧ h'.get b = some (.lst xs) := fun h h' w j g => ⟨g.keep w j.1 id, g.keep w j.2 id⟩
  have hs : ∀ (h3 : Hh) (o : O), Wf h3 → (h3.get a = some (.lst xs) ∧ h3.get b = some (.lst xs)) → h.n < h3.n → (h3.set h.n o).get a = some (.lst xs) ∧ (h3.set h.n o).get b = some (.lst xs) := fun h3 o w3 j lt => by
    rw [get_set w3 lt, get_set w3 lt, if_neg (by omega), if_neg (by omega)]
    exact j
  obtain ⟨h', e1, g1, r1⟩ := like_loop (sub := sub) (n := n + 2 + k) (kl := kl) (k := k) (J := fun h => h.get a = some (.lst xs) ∧ h.get b = some (.lst xs)) (one := .ref a) (other := .ref b) (held := [(a, xs), (b, xs)]) (x2 := none) (x3 := none) wf
    (fun τ h j t0 t1 => by simp [iZip, eV, t0, t1, R.bind, lstAt_lst j.1, lstAt_lst j.2]) ⟨ha, hb⟩ hJ (fun h j => by simp [heldOk, lstAt_lst j.1, lstAt_lst j.2, xx]) h1 (fun y hy h w => like_pl hk hl k n h y w (h2 y hy)) hs
  have r2 : (h'.push (.lst [])).get h.n = some (.lst []) := by rw [get_old (get_lt g1.wf r1)]; exact r1
  have r3 := eq_nils r2 (get_new (h := h') (o := .lst []))
  refine ⟨.bl true, h'.push (.lst []), ?_, g1.trans (Gx.push g1.wf), rfl⟩
  simp [dLike, start, sCons, sIf, tE, eCmp, eCall, aCons, aNil, eV, eC, R.bind, ea, eb, cmpR, cmp, eqW, truth, R.opt, F.then, sNil, eTup, fits2, inW, inFlat, flat, eqFlat, sRet, R.f, eAnd, eB, bLen, lenW, ha, hb, e1, eLst, fits, line, r3]
/-! ### one of several; rows -/
theorem log_small {m : Int} (h0 : 0 < m) (h1 : m < 9000) : m.natAbs.log2 < 9000 := Nat.lt_of_le_of_lt (Nat.log2_le_self _) (by omega)
theorem atI_in {xs : List W} {r : Int} (h0 : 0 ≤ r) (h1 : r < xs.length) : ∃ x ∈ xs, atI xs r = some x := by
  have hlt : r.toNat < xs.length := by omega
  refine ⟨xs[r.toNat], List.getElem_mem hlt, ?_⟩
  unfold atI ixN
  rw [if_pos h0, if_pos h1]
  exact List.getElem?_eq_getElem hlt
theorem atN_in {xs : List Nat} {r : Int} (h0 : 0 ≤ r) (h1 : r < xs.length) : ∃ x ∈ xs, atI xs r = some x := by
  have hlt : r.toNat < xs.length := by omega
  refine ⟨xs[r.toNat], List.getElem_mem hlt, ?_⟩
  unfold atI ixN
  rw [if_pos h0, if_pos h1]
  exact List.getElem?_eq_getElem hlt
theorem some_lst {n c a kr ks : Nat} {h : Hh} {xs : List W} (hr : defs[kr]? = some dRoll) (hs : defs[ks]? = some (dSome kr)) (w : Wf h) (k : CupOk h c) (ha : h.get a = some (.lst xs)) (hac : a ≠ c) (h0 : xs ≠ []) (h1 : xs.length < 9000) :
    Rt (fun a => a = c) ((lev defs sub (n + 2)).d ks [.ref c, .ref a] h) h fun v h' => v ∈ xs ∧ CupOk h' c := by
  rw [lev_call hs]
  have hp : 0 < xs.length := List.length_pos_iff.mpr h0
  obtain ⟨_, h2, e2, g2, r, rfl, r0, r1, k2⟩ := roll (sub := sub) (n := n) (m := xs.length) hr w k (by omega) (log_small (by omega) (by omega))
  obtain ⟨x, hx, ex⟩ := atI_in r0 r1
  refine ⟨x, h2, ?_, g2, hx, k2⟩
  unfold runDf
  have ha2 := g2.keep w ha hac
  simp [dSome, start, sCons, sRet, eIx, eV, eCall, aCons, aNil, eB, bLen, lenW, ha, R.bind, e2, idx, ha2, ex, R.opt, R.f, F.then]
theorem some_str {n c kr ks : Nat} {h : Hh} {s : List Nat} (hr : defs[kr]? = some dRoll) (hs : defs[ks]? = some (dSome kr)) (w : Wf h) (k : CupOk h c) (h0 : s ≠ []) (h1 : s.length < 9000) :
    Rt (fun a => a = c) ((lev defs sub (n + 2)).d ks [.ref c, .str s] h) h fun v h' => (∃ d ∈ s, v = .str [d]) ∧ CupOk h' c := by
  rw [lev_call hs]
  have hp : 0 < s.length := List.length_pos_iff.mpr h0
  have hf : fits s = true := by unfold PV.fits PV.line; rw [Nat.ble_eq]; omega
  obtain ⟨_, h2, e2, g2, r, rfl, r0, r1, k2⟩ := roll (sub := sub) (n := n) (m := s.length) hr w k (by omega) (log_small (by omega) (by omega))
  obtain ⟨x, hx, ex⟩ := atN_in r0 r1
  refine ⟨.str [x], h2, ?_, g2, ⟨x, hx, rfl⟩, k2⟩
  unfold runDf
  simp [dSome, start, sCons, sRet, eIx, eV, eCall, aCons, aNil, eB, bLen, lenW, hf, R.bind, e2, idx, ex, R.opt, R.f, F.then]
theorem row {n c kr ks kw : Nat} {h : Hh} {deeds : List Nat} {most : Nat} (hr : defs[kr]? = some dRoll) (hs : defs[ks]? = some (dSome kr)) (hw : defs[kw]? = some (dRow kr ks)) (w : Wf h) (k : CupOk h c) (h0 : deeds ≠ []) (h1 : deeds.length < 9000) (hm : most < 8000) :
    Rt (fun a => a = c) ((lev defs sub (n + 3)).d kw [.ref c, .str deeds, .int most] h) h fun v h' => (∃ s : List Nat, v = .str s ∧ s.length ≤ most ∧ ∀ d ∈ s, d ∈ deeds) ∧ CupOk h' c := by
  rw [lev_call hw]
  obtain ⟨_, h2, e2, g2, r, rfl, r0, r1, k2⟩ := roll (sub := sub) (n := n + 1) (m := most + 1) hr w k (by omega) (log_small (by omega) (by omega))
  have hsr : smallR r = true := by
    unfold smallR
    simp only [Bool.and_eq_true, decide_eq_true_eq]
    omega
  have hlen : (rangeL 0 r.toNat).length = r.toNat := by
    have : ∀ (n : Nat) (lo : Int), (rangeL lo n).length = n := by
      intro n
      induction n with
      | zero => intro lo; rfl
      | succ n ih => intro lo; simp [rangeL, ih]
    exact this _ _
  obtain ⟨τ', h', e3, s, x, e4, l4, m4, g4, k4⟩ := forL_cnt (c := lev defs sub (n + 2)) (g := gV 4) (b := sCons (sAsg (gV 3) (eBin .add (eV 3) (eCall ks (aCons (eV 0) (aCons (eV 1) aNil))))) sNil)
    (I := fun i τ h3 => ∃ (s : List Nat) (x : Option W), τ = [some (.ref c), some (.str deeds), some (.int most), some (.str s), x] ∧ s.length = i ∧ (∀ d ∈ s, d ∈ deeds) ∧ Gx (fun a => a = c) h h3 ∧ CupOk h3 c) (rangeL 0 r.toNat) 0 [some (.ref c), some (.str deeds), some (.int most), some (.str []), none] h2 ⟨[], none, rfl, rfl, by simp, g2, k2⟩ (fun j y _ _ hj τ h3 ⟨s, x, e, ls, ms, g3, k3⟩ => by
      subst e
      obtain ⟨_, h5, e5, g5, ⟨d, hd, rfl⟩, k5⟩ := some_str (sub := sub) (n := n) hr hs g3.wf k3 h0 h1
      rw [hlen] at hj
      have hb : s.length + 1 ≤ 16777216 := by omega
      refine ⟨[some (.ref c), some (.str deeds), some (.int most), some (.str s), some y], h3, [some (.ref c), some (.str deeds), some (.int most), some (.str (s ++ [d])), some y], h5, by simp [gV], ?_, s ++ [d], some y, rfl, by simp [ls], fun z hz => ?_, g3.trans g5, k5⟩
      · simp [sCons, sAsg, eBin, eV, eCall, aCons, aNil, R.bind, e5, bin, line, hb, R.f, gV, F.then, sNil]
      · rcases List.mem_append.mp hz with hz | hz
        · exact ms z hz
        · obtain rfl : z = d := by simpa using hz
          exact hd)
  subst e4
  refine ⟨.str s, h', ?_, g4, ⟨s, rfl, by omega, m4⟩, k4⟩
  unfold runDf
  simp [dRow, start, sCons, sAsg, eC, R.f, gV, F.then, sFor, iRange1, eCall, aCons, aNil, eV, eBin, bin, R.bind, e2, hsr, R.w] at e3 ⊢
  rw [e3]
  simp [sRet, eV, R.f]
end
end PM

set_option linter.all false
set_option autoImplicit false
set_option maxRecDepth 100000
namespace Lk64
open PV
def d_is_row : Df := ⟨1, 2, (sCons (sRet (eAnd (eIsin (eV 0) .str) (eAnd (eCmp .le (eB bLen (eV 0)) (eC (.int 4000))) (eB bAll (eLc [1] (iSeq (eV 0)) (gV 1) tYes (eCmp .inn (eV 1) (eC (.str [97, 98, 99, 100, 101, 102, 103, 104]))))))))
  sNil)⟩
def d_ended : Df := ⟨1, 2, (sCons (sFor (iRange (eC (.int 1)) (eBin .add (eBin .fdiv (eB bLen (eV 0)) (eC (.int 2))) (eC (.int 1)))) (gV 1) (sCons (sIf (tE (eCmp .eq (eSl (eV 0) (pS (eNeg (eV 1))) pN) (eSl (eV 0) (pS (eBin .mul (eNeg (eC (.int 2))) (eV 1))) (pS (eNeg (eV 1)))))) (sCons (sRet (eV 1))
  sNil) sNil)
  sNil))
  (sCons (sRet (eC (.int 0)))
  sNil))⟩
def d_first_end : Df := ⟨1, 3, (sCons (sIf (tOr (tNot (tE (eCall 0 (aCons (eV 0) aNil)))) (tE (eCmp .gt (eB bLen (eV 0)) (eC (.int 400))))) (sCons (sRaise 2)
  sNil) sNil)
  (sCons (sFor (iRange (eC (.int 1)) (eBin .add (eB bLen (eV 0)) (eC (.int 1)))) (gV 1) (sCons (sAsg (gV 2) (eCall 1 (aCons (eSl (eV 0) pN (pS (eV 1))) aNil)))
  (sCons (sIf (tE (eCmp .gt (eV 2) (eC (.int 0)))) (sCons (sRet (eTup (aCons (eBin .sub (eV 1) (eBin .mul (eC (.int 2)) (eV 2))) (aCons (eV 2) aNil))))
  sNil) sNil)
  sNil)))
  (sCons (sRet (eC (.non)))
  sNil)))⟩
def d_is_plain : Df := ⟨1, 1, (sCons (sRet (eCmp .isn (eCall 2 (aCons (eV 0) aNil)) (eC (.non))))
  sNil)⟩
def d__law_cup : Df := ⟨1, 2, (sCons (sAsg (gV 1) (eB bAbs (eIx (eBin .add (eB bList (eV 0)) (eLst (aCons (eC (.int 0)) aNil))) (eC (.int 0)))))
  (sCons (sRet (eLst (aCons (eIf (tE (eCmp .ge (eV 1) (eBin .pow (eC (.int 10)) (eC (.int 18))))) (eBin .fdiv (eV 1) (eC (.int 393))) (eC (.int 0))) (aCons (eBin .add (eBin .mod (eB bInt (eBin .add (eBin .mul (eV 1) (eC (.int 613))) (eC (.int 7015)))) (eC (.int 1993969739))) (eC (.int 421))) aNil))))
  sNil))⟩
def d__law_roll : Df := ⟨2, 4, (sCons (sIf (tE (eCmp .gt (eIx (eV 0) (eC (.int 0))) (eC (.int 0)))) (sCons (sAsg (gV 3) (eBin .mod (eB bInt (eIx (eV 0) (eC (.int 0)))) (eV 1)))
  (sCons (sAsg (gIx (eV 0) (eC (.int 0))) (eBin .fdiv (eIx (eV 0) (eC (.int 0))) (eV 1)))
  (sCons (sRet (eV 3))
  sNil))) sNil)
  (sCons (sAsg (gIx (eV 0) (eC (.int 1))) (eBin .mod (eB bInt (eBin .add (eBin .mul (eIx (eV 0) (eC (.int 1))) (eC (.int 30949))) (eC (.int 8807)))) (eC (.int 2147483549))))
  (sCons (sAsg (gV 2) (eBin .mod (eB bInt (eBin .mul (eIx (eV 0) (eC (.int 1))) (eBin .add (eIx (eV 0) (eC (.int 1))) (eC (.int 683))))) (eC (.int 2147483543))))
  (sCons (sRet (eBin .mod (eB bInt (eBin .fdiv (eV 2) (eC (.int 1193)))) (eV 1)))
  sNil))))⟩
def d__law_some : Df := ⟨2, 2, (sCons (sRet (eIx (eV 1) (eCall 5 (aCons (eV 0) (aCons (eB bLen (eV 1)) aNil)))))
  sNil)⟩
def d__law_kind : Df := ⟨1, 1, (sCons (sIf (tE (eIsin (eV 0) .bool)) (sCons (sRet (eC (.int 0)))
  sNil) sNil)
  (sCons (sIf (tE (eIsin (eV 0) .tuple)) (sCons (sRet (eC (.int 1)))
  sNil) sNil)
  (sCons (sRet (eIf (tE (eIsin (eV 0) .list)) (eC (.int 2)) (eC (.int 3))))
  sNil)))⟩
def d__law_like : Df := ⟨2, 4, (sCons (sIf (tE (eCmp .ne (eCall 7 (aCons (eV 0) aNil)) (eCall 7 (aCons (eV 1) aNil)))) (sCons (sRet (eC (.bl false)))
  sNil) sNil)
  (sCons (sIf (tE (eCmp .inn (eCall 7 (aCons (eV 0) aNil)) (eTup (aCons (eC (.int 1)) (aCons (eC (.int 2)) aNil))))) (sCons (sRet (eAnd (eCmp .eq (eB bLen (eV 0)) (eB bLen (eV 1))) (eCmp .eq (eLc [2, 3] (iZip (eV 0) (eV 1)) (gTup 2 (gCons (gV 2) (gCons (gV 3) gNil))) (tNot (tE (eCall 8 (aCons (eV 2) (aCons (eV 3) aNil))))) (eC (.int 1))) (eLst aNil))))
  sNil) sNil)
  (sCons (sRet (eCmp .eq (eV 0) (eV 1)))
  sNil)))⟩
def d__law_row : Df := ⟨3, 5, (sCons (sAsg (gV 3) (eC (.str [])))
  (sCons (sFor (iRange1 (eCall 5 (aCons (eV 0) (aCons (eBin .add (eV 2) (eC (.int 1))) aNil)))) (gV 4) (sCons (sAsg (gV 3) (eBin .add (eV 3) (eCall 6 (aCons (eV 0) (aCons (eV 1) aNil)))))
  sNil))
  (sCons (sRet (eV 3))
  sNil)))⟩
def d__law_error : Df := ⟨1, 5, (sCons (sTry (sCons (sThE 0)
  sNil) 0 1 (sCons (sIf (tE (eIsX (eV 1) 6)) (sCons (sRet eBad)
  sNil) sNil)
  (sCons (sAsg (gV 2) (eLst (aCons (eTup (aCons (eC (.str [110, 117, 109, 98, 101, 114])) (aCons (eIsX (eV 1) 1) aNil))) (aCons (eTup (aCons (eC (.str [114, 111, 119])) (aCons (eIsX (eV 1) 2) aNil))) (aCons (eTup (aCons (eC (.str [116, 114, 101, 101])) (aCons (eIsX (eV 1) 3) aNil))) aNil)))))
  (sCons (sAsg (gV 2) (eBin .add (eV 2) (eLst (aCons (eTup (aCons (eC (.str [109, 97, 99, 104, 105, 110, 101])) (aCons (eIsX (eV 1) 4) aNil))) (aCons (eTup (aCons (eC (.str [102, 111, 117, 110, 100])) (aCons (eIsX (eV 1) 5) aNil))) (aCons (eTup (aCons (eC (.str [111, 116, 104, 101, 114])) (aCons (eC (.bl true)) aNil))) aNil))))))
  (sCons (sRet (eIx (eLc [3, 4] (iSeqL (eV 2)) (gTup 2 (gCons (gV 3) (gCons (gV 4) gNil))) (tE (eV 4)) (eV 3)) (eC (.int 0))))
  sNil)))))
  (sCons (sRet (eC (.str [])))
  sNil))⟩
def d__law_end : Df := ⟨1, 3, (sCons (sFor (iRange1 (eBin .add (eB bLen (eV 0)) (eC (.int 1)))) (gV 1) (sCons (sFor (iRange (eC (.int 1)) (eBin .add (eB bLen (eV 0)) (eC (.int 1)))) (gV 2) (sCons (sIf (tAnd (tE (eCmp .ge (eV 1) (eBin .mul (eC (.int 2)) (eV 2)))) (tE (eCmp .eq (eSl (eV 0) (pS (eBin .sub (eV 1) (eV 2))) (pS (eV 1))) (eSl (eV 0) (pS (eBin .sub (eV 1) (eBin .mul (eC (.int 2)) (eV 2)))) (pS (eBin .sub (eV 1) (eV 2))))))) (sCons (sRet (eTup (aCons (eBin .sub (eV 1) (eBin .mul (eC (.int 2)) (eV 2))) (aCons (eV 2) aNil))))
  sNil) sNil)
  sNil))
  sNil))
  (sCons (sRet (eC (.non)))
  sNil))⟩
def d__law_fixed_right : Df := ⟨0, 7, (sCons (sAsg (gV 0) (eLst (aCons (eC (.str [97, 98, 97, 99])) (aCons (eC (.str [97, 98, 97, 98])) (aCons (eC (.str [99, 97, 98, 97, 98])) (aCons (eC (.str [97, 97, 98])) (aCons (eC (.str [97, 98, 99, 97, 98, 99])) (aCons (eC (.str [])) (aCons (eC (.str [97])) (aCons (eC (.str [97, 98, 99, 98, 97, 98, 99])) (aCons (eC (.str [97, 97, 97, 97])) (aCons (eC (.str [97, 98, 99, 97, 98, 99, 99])) (aCons (eC (.str [97, 98, 99, 100, 97, 98, 99, 100])) (aCons (eC (.str [97, 98, 97, 98, 97, 98])) (aCons (eC (.str [98, 99, 99])) aNil)))))))))))))))
  (sCons (sAsg (gV 1) (eLst (aCons (eC (.non)) (aCons (eTup (aCons (eC (.int 0)) (aCons (eC (.int 2)) aNil))) (aCons (eTup (aCons (eC (.int 1)) (aCons (eC (.int 2)) aNil))) (aCons (eTup (aCons (eC (.int 0)) (aCons (eC (.int 1)) aNil))) (aCons (eTup (aCons (eC (.int 0)) (aCons (eC (.int 3)) aNil))) (aCons (eC (.non)) (aCons (eC (.non)) (aCons (eC (.non)) (aCons (eTup (aCons (eC (.int 0)) (aCons (eC (.int 1)) aNil))) (aCons (eTup (aCons (eC (.int 0)) (aCons (eC (.int 3)) aNil))) (aCons (eTup (aCons (eC (.int 0)) (aCons (eC (.int 4)) aNil))) (aCons (eTup (aCons (eC (.int 0)) (aCons (eC (.int 2)) aNil))) (aCons (eTup (aCons (eC (.int 1)) (aCons (eC (.int 1)) aNil))) aNil)))))))))))))))
  (sCons (sAsg (gV 2) (eLc [4] (iSeq (eV 0)) (gV 4) tYes (eCall 2 (aCons (eV 4) aNil))))
  (sCons (sIf (tOr (tNot (tE (eCall 8 (aCons (eV 2) (aCons (eV 1) aNil))))) (tNot (tE (eCall 8 (aCons (eLc [4] (iSeq (eV 0)) (gV 4) tYes (eCall 3 (aCons (eV 4) aNil))) (aCons (eLc [6] (iSeq (eV 1)) (gV 6) tYes (eCmp .isn (eV 6) (eC (.non)))) aNil)))))) (sCons (sRet (eC (.bl false)))
  sNil) sNil)
  (sCons (sAsg (gV 2) (eLst (aCons (eCall 2 (aCons (eBin .mul (eC (.str [97, 98, 99, 100, 101, 102, 103, 104])) (eC (.int 50))) aNil)) (aCons (eCall 2 (aCons (eBin .mul (eC (.str [97])) (eC (.int 400))) aNil)) (aCons (eCall 3 (aCons (eBin .mul (eC (.str [97, 98, 99, 100, 101, 102, 103, 104])) (eC (.int 50))) aNil)) aNil)))))
  (sCons (sIf (tNot (tE (eCall 8 (aCons (eV 2) (aCons (eLst (aCons (eTup (aCons (eC (.int 0)) (aCons (eC (.int 8)) aNil))) (aCons (eTup (aCons (eC (.int 0)) (aCons (eC (.int 1)) aNil))) (aCons (eC (.bl false)) aNil)))) aNil))))) (sCons (sRet (eC (.bl false)))
  sNil) sNil)
  (sCons (sAsg (gV 3) (eLc [5] (iSeq (eTup (aCons (eC (.str [97, 98, 105])) (aCons (eC (.str [65])) (aCons (eC (.non)) (aCons (eTup (aCons (eC (.str [97])) aNil)) (aCons (eBin .mul (eC (.str [97])) (eC (.int 401))) (aCons (eC (.int 5)) aNil)))))))) (gV 5) tYes (eLam d__law_error (eCall 2 (aCons (eV 5) aNil)))))
  (sCons (sAsg (gV 3) (eBin .add (eV 3) (eLc [5] (iSeq (eTup (aCons (eC (.str [97, 98, 105])) (aCons (eC (.str [65])) (aCons (eC (.non)) (aCons (eTup (aCons (eC (.str [97])) aNil)) (aCons (eBin .mul (eC (.str [97])) (eC (.int 401))) (aCons (eC (.int 5)) aNil)))))))) (gV 5) tYes (eLam d__law_error (eCall 3 (aCons (eV 5) aNil))))))
  (sCons (sRet (eCmp .eq (eV 3) (eBin .mul (eLst (aCons (eC (.str [114, 111, 119])) aNil)) (eC (.int 12)))))
  sNil)))))))))⟩
def d__law_right : Df := ⟨1, 5, (sCons (sAsg (gV 1) (eCall 9 (aCons (eV 0) (aCons (eCall 6 (aCons (eV 0) (aCons (eLst (aCons (eC (.str [97, 98])) (aCons (eC (.str [97, 98, 99])) (aCons (eC (.str [97, 98, 99, 100])) (aCons (eC (.str [97, 98, 99, 100, 101, 102, 103, 104])) aNil))))) aNil))) (aCons (eC (.int 20)) aNil)))))
  (sCons (sIf (tNot (tE (eCall 8 (aCons (eLst (aCons (eCall 2 (aCons (eV 1) aNil)) (aCons (eCall 3 (aCons (eV 1) aNil)) aNil))) (aCons (eLst (aCons (eCall 11 (aCons (eV 1) aNil)) (aCons (eCmp .isn (eCall 11 (aCons (eV 1) aNil)) (eC (.non))) aNil))) aNil))))) (sCons (sRet (eC (.bl false)))
  sNil) sNil)
  (sCons (sIf (tE (eCmp .eq (eV 1) (eC (.str [])))) (sCons (sRet (eC (.bl true)))
  sNil) sNil)
  (sCons (sAsg (gV 2) (eCall 5 (aCons (eV 0) (aCons (eB bLen (eV 1)) aNil))))
  (sCons (sAsg (gV 3) (eBin .add (eBin .add (eV 2) (eC (.int 1))) (eCall 5 (aCons (eV 0) (aCons (eBin .sub (eB bLen (eV 1)) (eV 2)) aNil)))))
  (sCons (sAsg (gV 4) (eBin .add (eBin .add (eSl (eV 1) pN (pS (eV 3))) (eSl (eV 1) (pS (eV 2)) (pS (eV 3)))) (eSl (eV 1) (pS (eV 3)) pN)))
  (sCons (sRet (eCall 8 (aCons (eLst (aCons (eCall 2 (aCons (eV 4) aNil)) (aCons (eCall 3 (aCons (eV 4) aNil)) aNil))) (aCons (eLst (aCons (eCall 11 (aCons (eV 4) aNil)) (aCons (eC (.bl false)) aNil))) aNil))))
  sNil)))))))⟩
def d_law : Df := ⟨1, 3, (sCons (sIf (tNot (tE (eCall0 12))) (sCons (sRet (eC (.bl false)))
  sNil) sNil)
  (sCons (sAsg (gV 1) (eCall 4 (aCons (eV 0) aNil)))
  (sCons (sFor (iRange1 (eC (.int 20))) (gV 2) (sCons (sIf (tNot (tE (eCall 13 (aCons (eV 1) aNil)))) (sCons (sRet (eC (.bl false)))
  sNil) sNil)
  sNil))
  (sCons (sRet (eC (.bl true)))
  sNil))))⟩
def defs : List Df := [d_is_row, d_ended, d_first_end, d_is_plain, d__law_cup, d__law_roll, d__law_some, d__law_kind, d__law_like, d__law_row, d__law_error, d__law_end, d__law_fixed_right, d__law_right, d_law]
def subT : List (List Nat) := [[0], [1, 0], [2, 0], [3, 0], [4, 0], [5, 0], [6, 0]]
def sub (a b : Nat) : Bool := match subT[a]? with | some l => l.contains b | none => false
end Lk64

set_option linter.all false
set_option autoImplicit false
set_option maxRecDepth 100000
set_option maxHeartbeats 2000000
namespace Mk64
open PV PM Lk64
abbrev C (n : Nat) : Cx := lev defs sub n
/-! ### rows -/
def Row (s : List Nat) : Prop := s.length ≤ 400 ∧ ∀ d ∈ s, 97 ≤ d ∧ d ≤ 104
theorem Row.fits {s : List Nat} (r : Row s) : fits s = true := by unfold PV.fits line; rw [Nat.ble_eq]; have := r.1; omega
theorem in_deeds {d : Nat} (h : 97 ≤ d ∧ d ≤ 104) : ([97, 98, 99, 100, 101, 102, 103, 104].any fun x => Nat.beq x d) = true := by
  obtain ⟨h1, h2⟩ := h
  have : d = 97 ∨ d = 98 ∨ d = 99 ∨ d = 100 ∨ d = 101 ∨ d = 102 ∨ d = 103 ∨ d = 104 := by omega
  rcases this with rfl | rfl | rfl | rfl | rfl | rfl | rfl | rfl <;> rfl
theorem is_row {n : Nat} {h : Hh} {s : List Nat} (w : Wf h) (r : Row s) : Rt (fun _ => False) ((C (n + 1)).d 0 [.str s] h) h fun v _ => v = .bl true := by
  rw [lev_call (d := d_is_row) rfl]
  have hf := r.fits
  have hl : ((s.length : Int) ≤ 4000) := by have := r.1; omega
  obtain ⟨h', e1, g1, _, r1, _⟩ := eLc_map (X := fun _ => False) (J := fun _ => True) (c := C n) (τ := [some (.str s), none]) (h := h) (h1 := h) (vs := [1]) (i := iSeq (eV 0)) (k := ⟨s.map fun c => .str [c], []⟩) (g := gV 1) (t := tYes) (e := eCmp .inn (eV 1) (eC (.str [97, 98, 99, 100, 101, 102, 103, 104]))) (fun _ => true) (fun _ => .bl true) w
    (by simp [iSeq, eV, R.bind]) (.refl w) (fun _ z => z.elim) (fun _ => trivial) (fun _ _ _ _ _ => trivial) (fun _ _ => rfl) (by have := r.1; simp; omega)
    (fun x hx h2 w2 _ _ => by
      obtain ⟨d, hd, rfl⟩ := List.mem_map.mp hx
      exact ⟨_, h2, rfl, rfl, .refl w2, trivial, fun _ => ⟨h2, by simp [eCmp, eV, eC, R.bind, wipe, cmpR, cmp, inW, in_deeds (r.2 d hd)], .refl w2, trivial⟩⟩)
  have hb : ∀ l : List Nat, toBls (l.map ((fun _ => W.bl true) ∘ fun c => W.str [c])) = some (l.map fun _ => true) := by
    intro l
    induction l with
    | nil => rfl
    | cons x l ih => unfold toBls at ih ⊢; simp [mapO, ih]
  refine ⟨.bl true, h', ?_, g1, rfl⟩
  have r2 := lstAt_lst r1
  rw [show (⟨s.map fun c => W.str [c], []⟩ : Wk).items.filter (fun _ => true) = s.map fun c => W.str [c] from List.filter_eq_self.mpr fun _ _ => rfl] at r2
  unfold runDf
  simp [d_is_row, start, sCons, sRet, eAnd, eIsin, isin, eV, eC, R.bind, eCmp, eB, bLen, lenW, hf, cmpR, cmp, hl, e1, bAll, onList, r2, hb, R.f, F.then]

/-! ### ended -/
def pE (s : List Nat) (j : Int) : Option W := if cut s (some (-j)) none == cut s (some (-2 * j)) (some (-j)) then some (.int j) else none
def endedF (s : List Nat) : W := (findJ (pE s) 1 ((s.length : Int) / 2).toNat).getD (.int 0)
theorem ended {n : Nat} {h : Hh} {s : List Nat} (r : s.length ≤ 400) : (C (n + 1)).d 1 [.str s] h = .ok (endedF s) h := by
  rw [lev_call (d := d_ended) rfl]
  have hf : fits s = true := by unfold PV.fits line; rw [Nat.ble_eq]; omega
  have hr : smallR ((s.length : Int) / 2 + 1) = true := by
    unfold smallR
    simp only [Bool.and_eq_true, decide_eq_true_eq]
    omega
  obtain ⟨l1, l2⟩ := forL_find (c := C n) (i := 1) (h := h) (b := sCons (sIf (tE (eCmp .eq (eSl (eV 0) (pS (eNeg (eV 1))) pN) (eSl (eV 0) (pS (eBin .mul (eNeg (eC (.int 2))) (eV 1))) (pS (eNeg (eV 1)))))) (sCons (sRet (eV 1)) sNil) sNil) sNil) (I := fun τ => ∃ x, τ = [some (.str s), x]) (pE s) ((s.length : Int) / 2).toNat 1 [some (.str s), none] ⟨_, rfl⟩ (fun j τ _ _ ⟨x, hx⟩ => by
    subst hx
    have hm : small (-2) = true := rfl
    cases q : cut s (some (-j)) none == cut s (some (-2 * j)) (some (-j)) with
    | true =>
      refine ⟨fun w e => ?_, fun e => ?_⟩
      · simp only [pE, q, if_true] at e
        cases e
        simp [sCons, sIf, tE, eCmp, eSl, eV, eC, eNeg, eBin, bin, pS, pN, R.bind, slice, hf, cmpR, cmp, eqW, truth, R.opt, F.then, sRet, R.f, sNil, hm, q]
      · simp [pE, q] at e
    | false =>
      refine ⟨fun w e => ?_, fun e => ⟨[some (.str s), some (.int j)], ?_, _, rfl⟩⟩
      · simp [pE, q] at e
      · simp [sCons, sIf, tE, eCmp, eSl, eV, eC, eNeg, eBin, bin, pS, pN, R.bind, slice, hf, cmpR, cmp, eqW, truth, R.opt, F.then, sRet, R.f, sNil, hm, q])
  unfold endedF runDf
  cases f : findJ (pE s) 1 ((s.length : Int) / 2).toNat with
  | some w =>
    have q := l1 w f
    unfold C at q
    simp [d_ended, start, sCons, sFor, iRange, eBin, bin, eB, bLen, lenW, hf, eV, eC, R.bind, R.w, hr, show smallR 1 = true from rfl, show Nat.log2 2 < 9000 from by decide, F.then] at q ⊢
    rw [q]
  | none =>
    obtain ⟨τ', q, x, hx⟩ := l2 f
    unfold C at q
    simp [d_ended, start, sCons, sFor, iRange, eBin, bin, eB, bLen, lenW, hf, eV, eC, R.bind, R.w, hr, show smallR 1 = true from rfl, show Nat.log2 2 < 9000 from by decide, F.then] at q ⊢
    rw [q]
    simp [sRet, eC, R.f]
theorem findJ_some {p : Int → Option W} : ∀ {k : Nat} {lo : Int} {w : W}, findJ p lo k = some w → ∃ j, lo ≤ j ∧ j < lo + k ∧ p j = some w ∧ ∀ i, lo ≤ i → i < j → p i = none
  | 0, lo, w, e => by simp [findJ] at e
  | k + 1, lo, w, e => by
    cases q : p lo with
    | some w' =>
      simp only [findJ, q] at e
      cases e
      exact ⟨lo, Int.le_refl _, by omega, q, fun i h1 h2 => by omega⟩
    | none =>
      simp only [findJ, q] at e
      obtain ⟨j, h1, h2, h3, h4⟩ := findJ_some e
      refine ⟨j, by omega, by omega, h3, fun i i1 i2 => ?_⟩
      by_cases z : i = lo
      · rw [z]; exact q
      · exact h4 i (by omega) i2
theorem findJ_none {p : Int → Option W} : ∀ {k : Nat} {lo : Int}, findJ p lo k = none → ∀ i, lo ≤ i → i < lo + k → p i = none
  | 0, lo, _, i, h1, h2 => by omega
  | k + 1, lo, e, i, h1, h2 => by
    cases q : p lo with
    | some w' => simp only [findJ, q] at e; cases e
    | none =>
      simp only [findJ, q] at e
      by_cases z : i = lo
      · rw [z]; exact q
      · exact findJ_none e i (by omega) (by omega)
theorem findJ_eq {p : Int → Option W} {k : Nat} {lo j : Int} {w : W} (h1 : lo ≤ j) (h2 : j < lo + k) (h3 : p j = some w) (h4 : ∀ i, lo ≤ i → i < j → p i = none) : findJ p lo k = some w := by
  cases e : findJ p lo k with
  | none => rw [findJ_none e j h1 h2] at h3; cases h3
  | some w' =>
    obtain ⟨i, i1, i2, i3, i4⟩ := findJ_some e
    have : i = j := by
      rcases Int.lt_trichotomy i j with q | q | q
      · rw [h4 i i1 q] at i3; cases i3
      · exact q
      · rw [i4 j h1 q] at h3; cases h3
    subst this
    rw [h3] at i3
    exact i3.symm
/-- the length of the shortest doubled stretch at the end, or 0 -/
def endI (s : List Nat) : Int := match endedF s with
  | .int l => l
  | _ => 0
theorem endedF_int (s : List Nat) : endedF s = .int (endI s) := by
  unfold endI
  have : ∃ l, endedF s = .int l := by
    unfold endedF
    cases e : findJ (pE s) 1 ((s.length : Int) / 2).toNat with
    | none => exact ⟨0, rfl⟩
    | some w =>
      obtain ⟨j, _, _, h, _⟩ := findJ_some e
      unfold pE at h
      split at h
      · cases h; exact ⟨j, rfl⟩
      · cases h
  obtain ⟨l, e⟩ := this
  rw [e]
/-! ### first_end, is_plain -/
def pF (s : List Nat) (j : Int) : Option W := if 0 < endI (cut s none (some j)) then some (.tup [.int (j - 2 * endI (cut s none (some j))), .int (endI (cut s none (some j)))]) else none
def feW (s : List Nat) : W := (findJ (pF s) 1 s.length).getD .non
theorem cut_len {s : List Nat} {a b : Option Int} : (cut s a b).length ≤ s.length := by unfold cut; rw [List.length_take, List.length_drop]; omega
theorem first_end {n : Nat} {h : Hh} {s : List Nat} (w : Wf h) (r : Row s) : Rt (fun _ => False) ((C (n + 2)).d 2 [.str s] h) h fun v _ => v = feW s := by
  rw [lev_call (d := d_first_end) rfl]
  have hf := r.fits
  obtain ⟨_, h1, e1, g1, rfl⟩ := is_row (n := n) w r
  have hl : ¬ (400 < (s.length : Int)) := by have := r.1; omega
  have hr : smallR ((s.length : Int) + 1) = true := by
    have := r.1
    unfold smallR
    simp only [Bool.and_eq_true, decide_eq_true_eq]
    omega
  obtain ⟨l1, l2⟩ := forL_find (c := C (n + 1)) (i := 1) (h := h1) (b := sCons (sAsg (gV 2) (eCall 1 (aCons (eSl (eV 0) pN (pS (eV 1))) aNil))) (sCons (sIf (tE (eCmp .gt (eV 2) (eC (.int 0)))) (sCons (sRet (eTup (aCons (eBin .sub (eV 1) (eBin .mul (eC (.int 2)) (eV 2))) (aCons (eV 2) aNil)))) sNil) sNil) sNil)) (I := fun τ => ∃ x y, τ = [some (.str s), x, y]) (pF s) s.length 1 [some (.str s), none, none] ⟨_, _, rfl⟩ (fun j τ _ _ ⟨x, y, hx⟩ => by
    subst hx
    have ee : (C (n + 1)).d 1 [.str (cut s none (some j))] h1 = .ok (.int (endI (cut s none (some j)))) h1 := by
      rw [ended (Nat.le_trans cut_len r.1), endedF_int]
    unfold C at ee
    unfold pF
    by_cases q : 0 < endI (cut s none (some j))
    · refine ⟨fun w e => ?_, fun e => ?_⟩
      · rw [if_pos q] at e
        cases e
        simp [sCons, sAsg, eCall, aCons, aNil, eSl, eV, eC, pN, pS, R.bind, slice, hf, ee, R.f, gV, F.then, sIf, tE, eCmp, cmpR, cmp, truth, R.opt, q, sRet, eTup, eBin, bin, show small 2 = true from rfl, fits2]
      · rw [if_pos q] at e; cases e
    · refine ⟨fun w e => ?_, fun e => ⟨[some (.str s), some (.int j), some (.int (endI (cut s none (some j))))], ?_, _, _, rfl⟩⟩
      · rw [if_neg q] at e; cases e
      · simp [sCons, sAsg, eCall, aCons, aNil, eSl, eV, eC, pN, pS, R.bind, slice, hf, ee, R.f, gV, F.then, sIf, tE, eCmp, cmpR, cmp, truth, R.opt, q, sRet, eTup, eBin, bin, sNil, show small 2 = true from rfl])
  refine ⟨feW s, h1, ?_, g1, rfl⟩
  unfold feW runDf
  cases f : findJ (pF s) 1 s.length with
  | some w =>
    have q := l1 w f
    unfold C at q e1
    simp [d_first_end, start, sCons, sIf, tOr, tNot, tE, eCall, aCons, aNil, eV, R.bind, e1, truth, R.opt, eCmp, eB, bLen, lenW, hf, eC, cmpR, cmp, hl, F.then, sFor, iRange, eBin, bin, R.w, hr, show smallR 1 = true from rfl, sNil] at q ⊢
    rw [q]
  | none =>
    obtain ⟨τ', q, _⟩ := l2 f
    unfold C at q e1
    simp [d_first_end, start, sCons, sIf, tOr, tNot, tE, eCall, aCons, aNil, eV, R.bind, e1, truth, R.opt, eCmp, eB, bLen, lenW, hf, eC, cmpR, cmp, hl, F.then, sFor, iRange, eBin, bin, R.w, hr, show smallR 1 = true from rfl, sNil] at q ⊢
    rw [q]
    simp [sRet, eC, R.f]
theorem is_plain {n : Nat} {h : Hh} {s : List Nat} (w : Wf h) (r : Row s) : Rt (fun _ => False) ((C (n + 3)).d 3 [.str s] h) h fun v _ => v = .bl (isNonW (feW s)) := by
  rw [lev_call (d := d_is_plain) rfl]
  obtain ⟨_, h1, e1, g1, rfl⟩ := first_end (n := n) w r
  unfold C at e1
  refine ⟨_, h1, ?_, g1, rfl⟩
  unfold runDf
  simp [d_is_plain, start, sCons, sRet, eCmp, eCall, aCons, aNil, eV, eC, R.bind, e1, cmpR, cmp, R.f, F.then]
/-! ### the law's own way -/
def pL (s : List Nat) (e l : Int) : Option W := if (decide (2 * l ≤ e) && (cut s (some (e - l)) (some e) == cut s (some (e - 2 * l)) (some (e - l)))) = true then some (.tup [.int (e - 2 * l), .int l]) else none
def pO (s : List Nat) (e : Int) : Option W := findJ (pL s e) 1 s.length
def leW (s : List Nat) : W := (findJ (pO s) 0 (s.length + 1)).getD .non
theorem law_end {n : Nat} {h : Hh} {s : List Nat} (r : s.length ≤ 400) : (C (n + 1)).d 11 [.str s] h = .ok (leW s) h := by
  rw [lev_call (d := d__law_end) rfl]
  have hf : fits s = true := by unfold PV.fits line; rw [Nat.ble_eq]; omega
  have hr : smallR ((s.length : Int) + 1) = true := by
    unfold smallR
    simp only [Bool.and_eq_true, decide_eq_true_eq]
    omega
  have inner : ∀ (e : Int) (x : Option W), (∀ w, pO s e = some w → forL (C n) (gV 2) (sCons (sIf (tAnd (tE (eCmp .ge (eV 1) (eBin .mul (eC (.int 2)) (eV 2)))) (tE (eCmp .eq (eSl (eV 0) (pS (eBin .sub (eV 1) (eV 2))) (pS (eV 1))) (eSl (eV 0) (pS (eBin .sub (eV 1) (eBin .mul (eC (.int 2)) (eV 2)))) (pS (eBin .sub (eV 1) (eV 2))))))) (sCons (sRet (eTup (aCons (eBin .sub (eV 1) (eBin .mul (eC (.int 2)) (eV 2))) (aCons (eV 2) aNil)))) sNil) sNil) sNil) [] (rangeL 1 s.length) [some (.str s), some (.int e), x] h = .rt w h) ∧
      (pO s e = none → ∃ τ', forL (C n) (gV 2) (sCons (sIf (tAnd (tE (eCmp .ge (eV 1) (eBin .mul (eC (.int 2)) (eV 2)))) (tE (eCmp .eq (eSl (eV 0) (pS (eBin .sub (eV 1) (eV 2))) (pS (eV 1))) (eSl (eV 0) (pS (eBin .sub (eV 1) (eBin .mul (eC (.int 2)) (eV 2)))) (pS (eBin .sub (eV 1) (eV 2))))))) (sCons (sRet (eTup (aCons (eBin .sub (eV 1) (eBin .mul (eC (.int 2)) (eV 2))) (aCons (eV 2) aNil)))) sNil) sNil) sNil) [] (rangeL 1 s.length) [some (.str s), some (.int e), x] h = .nx τ' h ∧ ∃ y, τ' = [some (.str s), some (.int e), y]) := by
    intro e x
    refine forL_find (c := C n) (i := 2) (h := h) (I := fun τ => ∃ y, τ = [some (.str s), some (.int e), y]) (pL s e) s.length 1 _ ⟨_, rfl⟩ (fun l τ _ _ ⟨y, hy⟩ => ?_)
    subst hy
    unfold pL
    by_cases q1 : 2 * l ≤ e
    · cases q2 : cut s (some (e - l)) (some e) == cut s (some (e - 2 * l)) (some (e - l)) with
      | true =>
        refine ⟨fun w z => ?_, fun z => ?_⟩
        · simp [q1, q2] at z
          subst z
          simp [sCons, sIf, tAnd, tE, eCmp, eV, eC, eBin, bin, R.bind, cmpR, cmp, truth, R.opt, eSl, pS, slice, hf, eqW, q1, q2, sRet, eTup, aCons, aNil, fits2, R.f, F.then, show small 2 = true from rfl]
        · simp [q1, q2] at z
      | false =>
        refine ⟨fun w z => ?_, fun z => ⟨[some (.str s), some (.int e), some (.int l)], ?_, _, rfl⟩⟩
        · simp [q1, q2] at z
        · simp [sCons, sIf, tAnd, tE, eCmp, eV, eC, eBin, bin, R.bind, cmpR, cmp, truth, R.opt, eSl, pS, slice, hf, eqW, q1, q2, sNil, F.then, show small 2 = true from rfl]
    · refine ⟨fun w z => ?_, fun z => ⟨[some (.str s), some (.int e), some (.int l)], ?_, _, rfl⟩⟩
      · simp [q1] at z
      · simp [sCons, sIf, tAnd, tE, eCmp, eV, eC, eBin, bin, R.bind, cmpR, cmp, truth, R.opt, q1, sNil, F.then, show small 2 = true from rfl]
  obtain ⟨l1, l2⟩ := forL_find (c := C n) (i := 1) (h := h) (b := sCons (sFor (iRange (eC (.int 1)) (eBin .add (eB bLen (eV 0)) (eC (.int 1)))) (gV 2) (sCons (sIf (tAnd (tE (eCmp .ge (eV 1) (eBin .mul (eC (.int 2)) (eV 2)))) (tE (eCmp .eq (eSl (eV 0) (pS (eBin .sub (eV 1) (eV 2))) (pS (eV 1))) (eSl (eV 0) (pS (eBin .sub (eV 1) (eBin .mul (eC (.int 2)) (eV 2)))) (pS (eBin .sub (eV 1) (eV 2))))))) (sCons (sRet (eTup (aCons (eBin .sub (eV 1) (eBin .mul (eC (.int 2)) (eV 2))) (aCons (eV 2) aNil)))) sNil) sNil) sNil)) sNil) (I := fun τ => ∃ x y, τ = [some (.str s), x, y]) (pO s) (s.length + 1) 0 [some (.str s), none, none] ⟨_, _, rfl⟩ (fun e τ _ _ ⟨x, y, hx⟩ => by
    subst hx
    obtain ⟨i1, i2⟩ := inner e y
    refine ⟨fun w z => ?_, fun z => ?_⟩
    · have q := i1 w z
      unfold C at q ⊢
      simp [sCons, sFor, iRange, eBin, bin, eB, bLen, lenW, hf, eV, eC, R.bind, R.w, hr, show smallR 1 = true from rfl, F.then] at q ⊢
      rw [q]
    · obtain ⟨τ', q, y', hy⟩ := i2 z
      refine ⟨τ', ?_, _, _, hy⟩
      unfold C at q ⊢
      simp [sCons, sFor, iRange, eBin, bin, eB, bLen, lenW, hf, eV, eC, R.bind, R.w, hr, show smallR 1 = true from rfl, F.then] at q ⊢
      rw [q]
      simp [sNil])
  have ht : ((s.length : Int) + 1).toNat = s.length + 1 := by omega
  unfold leW runDf
  cases f : findJ (pO s) 0 (s.length + 1) with
  | some w =>
    have q := l1 w f
    unfold C at q
    simp [d__law_end, start, sCons, sFor, iRange1, eBin, bin, eB, bLen, lenW, hf, eV, eC, R.bind, R.w, hr, ht, F.then] at q ⊢
    rw [q]
  | none =>
    obtain ⟨τ', q, _⟩ := l2 f
    unfold C at q
    simp [d__law_end, start, sCons, sFor, iRange1, eBin, bin, eB, bLen, lenW, hf, eV, eC, R.bind, R.w, hr, ht, F.then] at q ⊢
    rw [q]
    simp [sRet, eC, R.f]
/-! ### the same -/
theorem cut_in {s : List Nat} {a b : Int} (h0 : 0 ≤ a) (h1 : a ≤ b) (h2 : b ≤ s.length) : cut s (some a) (some b) = (s.drop a.toNat).take (b.toNat - a.toNat) := by
  unfold cut
  simp only [clip]
  rw [if_neg (by omega), if_neg (by omega), Nat.min_eq_left (by omega), Nat.min_eq_left (by omega)]
theorem cut_pre {s : List Nat} {j : Int} (h0 : 0 ≤ j) (h1 : j ≤ s.length) : cut s none (some j) = s.take j.toNat := by
  unfold cut
  simp only [clip]
  rw [if_neg (by omega), Nat.min_eq_left (by omega)]
  simp
theorem cut_end {s : List Nat} {j l : Int} (h1 : 1 ≤ l) (h2 : l ≤ j) (h3 : j ≤ s.length) : cut (s.take j.toNat) (some (-l)) none = (s.drop (j - l).toNat).take l.toNat := by
  have hl : (s.take j.toNat).length = j.toNat := by rw [List.length_take]; omega
  unfold cut
  rw [hl]
  simp only [clip]
  rw [if_pos (show -l < 0 by omega), show (-l + (j.toNat : Int)).toNat = (j - l).toNat by omega, List.drop_take, List.take_take]
  congr 1
  omega
theorem cut_two {s : List Nat} {j l : Int} (h1 : 1 ≤ l) (h2 : 2 * l ≤ j) (h3 : j ≤ s.length) : cut (s.take j.toNat) (some (-2 * l)) (some (-l)) = (s.drop (j - 2 * l).toNat).take l.toNat := by
  have hl : (s.take j.toNat).length = j.toNat := by rw [List.length_take]; omega
  unfold cut
  rw [hl]
  simp only [clip]
  rw [if_pos (show -l < 0 by omega), if_pos (show -2 * l < 0 by omega), show (-l + (j.toNat : Int)).toNat = (j - l).toNat by omega, show (-2 * l + (j.toNat : Int)).toNat = (j - 2 * l).toNat by omega, List.drop_take, List.take_take]
  congr 1
  omega
theorem pE_pL {s : List Nat} {j l : Int} (h1 : 1 ≤ l) (h2 : 2 * l ≤ j) (h3 : j ≤ s.length) : (pE (cut s none (some j)) l = none ∧ pL s j l = none) ∨ (pE (cut s none (some j)) l = some (.int l) ∧ pL s j l = some (.tup [.int (j - 2 * l), .int l])) := by
  unfold pE pL
  rw [cut_pre (by omega) h3, cut_end h1 (by omega) h3, cut_two h1 h2 h3, cut_in (by omega) (by omega) h3, cut_in (by omega) (by omega) (by omega)]
  rw [show j.toNat - (j - l).toNat = l.toNat by omega, show (j - l).toNat - (j - 2 * l).toNat = l.toNat by omega]
  cases q : (s.drop (j - l).toNat).take l.toNat == (s.drop (j - 2 * l).toNat).take l.toNat with
  | true => right; simp [h2]
  | false => left; simp
theorem pL_le {s : List Nat} {j l : Int} {w : W} (h : pL s j l = some w) : 2 * l ≤ j := by
  unfold pL at h
  by_cases q : 2 * l ≤ j
  · exact q
  · simp [q] at h
theorem pF_pO {s : List Nat} {j : Int} (h1 : 1 ≤ j) (h2 : j ≤ s.length) : pF s j = pO s j := by
  have hl : (cut s none (some j)).length = j.toNat := by rw [cut_pre (by omega) h2, List.length_take]; omega
  unfold pF pO
  cases e : findJ (pE (cut s none (some j))) 1 (((cut s none (some j)).length : Int) / 2).toNat with
  | none =>
    have e0 : endI (cut s none (some j)) = 0 := by unfold endI endedF; rw [e]; rfl
    rw [e0, if_neg (by omega)]
    cases f : findJ (pL s j) 1 s.length with
    | none => rfl
    | some w =>
      obtain ⟨l, l1, l2, l3, _⟩ := findJ_some f
      have l4 := pL_le l3
      have z := findJ_none e l l1 (by rw [hl]; omega)
      rcases pE_pL l1 l4 h2 with ⟨_, q⟩ | ⟨q, _⟩
      · rw [q] at l3; cases l3
      · rw [q] at z; cases z
  | some w =>
    obtain ⟨l, l1, l2, l3, l4⟩ := findJ_some e
    rw [hl] at l2
    have l5 : 2 * l ≤ j := by omega
    rcases pE_pL l1 l5 h2 with ⟨q, _⟩ | ⟨q, q2⟩
    · rw [q] at l3; cases l3
    · rw [q] at l3
      have ew : w = .int l := (Option.some.inj l3).symm
      have e0 : endI (cut s none (some j)) = l := by unfold endI endedF; rw [e, ew]; rfl
      rw [e0, if_pos (by omega)]
      refine (findJ_eq l1 (by omega) q2 fun i i1 i2 => ?_).symm
      have z := l4 i i1 i2
      rcases pE_pL i1 (show 2 * i ≤ j by omega) h2 with ⟨_, q⟩ | ⟨q, _⟩
      · exact q
      · rw [q] at z; cases z
theorem fe_le (s : List Nat) : feW s = leW s := by
  have h0 : pO s 0 = none := by
    unfold pO
    cases f : findJ (pL s 0) 1 s.length with
    | none => rfl
    | some w =>
      obtain ⟨l, l1, _, l3, _⟩ := findJ_some f
      have := pL_le l3
      omega
  unfold feW leW
  have : ∀ (k : Nat) (lo : Int), 1 ≤ lo → lo + k ≤ s.length + 1 → findJ (pF s) lo k = findJ (pO s) lo k := by
    intro k
    induction k with
    | zero => intro lo _ _; rfl
    | succ k ih =>
      intro lo a b
      simp only [findJ]
      rw [pF_pO a (by omega), ih (lo + 1) (by omega) (by omega)]
  rw [this _ 1 (by omega) (by omega)]
  simp only [findJ, h0]
  rfl
/-! ### a stretch doubled is told -/
theorem le_some {t : List Nat} {e l : Int} (h1 : 1 ≤ l) (h2 : 2 * l ≤ e) (h3 : e ≤ t.length) (h : cut t (some (e - l)) (some e) = cut t (some (e - 2 * l)) (some (e - l))) : isNonW (leW t) = false := by
  have hp : pL t e l = some (.tup [.int (e - 2 * l), .int l]) := by unfold pL; simp [h2, h]
  have ho : pO t e ≠ none := fun z => by
    have := findJ_none (p := pL t e) z l h1 (by omega)
    rw [hp] at this; cases this
  unfold leW
  cases f : findJ (pO t) 0 (t.length + 1) with
  | none => exact absurd (findJ_none f e (by omega) (by omega)) ho
  | some w =>
    obtain ⟨e', _, _, h4, _⟩ := findJ_some f
    obtain ⟨l', _, _, h5, _⟩ := findJ_some (p := pL t e') h4
    unfold pL at h5
    split at h5
    · cases h5; rfl
    · cases h5
theorem leW_pl (t : List Nat) : pl 1 (leW t) = true := by
  unfold leW
  cases f : findJ (pO t) 0 (t.length + 1) with
  | none => rfl
  | some w =>
    obtain ⟨e', _, _, h4, _⟩ := findJ_some f
    obtain ⟨l', _, _, h5, _⟩ := findJ_some (p := pL t e') h4
    unfold pL at h5
    split at h5
    · cases h5; rfl
    · cases h5
def twiceF (s : List Nat) (p e : Int) : List Nat := cut s none (some e) ++ cut s (some p) (some e) ++ cut s (some e) none
theorem twice_ok {s : List Nat} {p e : Int} (h0 : 0 ≤ p) (h1 : p < e) (h2 : e ≤ s.length) : (twiceF s p e).length ≤ 2 * s.length ∧ (∀ d ∈ twiceF s p e, d ∈ s) ∧ isNonW (leW (twiceF s p e)) = false := by
  have c1 : cut s none (some e) = s.take e.toNat := cut_pre (by omega) h2
  have c2 : cut s (some p) (some e) = (s.drop p.toNat).take (e.toNat - p.toNat) := cut_in h0 (by omega) h2
  have c3 : cut s (some e) none = s.drop e.toNat := by
    unfold cut
    simp only [clip]
    rw [if_neg (by omega), Nat.min_eq_left (by omega), List.take_of_length_le (by rw [List.length_drop]; omega)]
  have l1 : (s.take e.toNat).length = e.toNat := by rw [List.length_take]; omega
  have l2 : ((s.drop p.toNat).take (e.toNat - p.toNat)).length = e.toNat - p.toNat := by rw [List.length_take, List.length_drop]; omega
  unfold twiceF
  rw [c1, c2, c3]
  refine ⟨?_, ?_, ?_⟩
  · simp only [List.length_append, l1, l2, List.length_drop]; omega
  · intro d hd
    rcases List.mem_append.mp hd with hd | hd
    · rcases List.mem_append.mp hd with hd | hd
      · exact List.mem_of_mem_take hd
      · exact List.mem_of_mem_drop (List.mem_of_mem_take hd)
    · exact List.mem_of_mem_drop hd
  · refine le_some (e := e + (e - p)) (l := e - p) (by omega) (by omega) (by simp only [List.length_append, l1, l2, List.length_drop]; omega) ?_
    have ht : ((s.take e.toNat ++ (s.drop p.toNat).take (e.toNat - p.toNat) ++ s.drop e.toNat).length : Int) = s.length + (e - p) := by simp only [List.length_append, l1, l2, List.length_drop]; omega
    rw [cut_in (by omega) (by omega) (by rw [ht]; omega), cut_in (by omega) (by omega) (by rw [ht]; omega)]
    rw [show (e + (e - p) - (e - p)).toNat = e.toNat by omega, show (e + (e - p)).toNat - e.toNat = e.toNat - p.toNat by omega, show (e + (e - p) - 2 * (e - p)).toNat = p.toNat by omega]
    have d1 : List.drop e.toNat (s.take e.toNat ++ (s.drop p.toNat).take (e.toNat - p.toNat) ++ s.drop e.toNat) = (s.drop p.toNat).take (e.toNat - p.toNat) ++ s.drop e.toNat := by
      rw [List.append_assoc, List.drop_append_of_le_length (by omega), List.drop_of_length_le (by omega)]; rfl
    have d2 : List.drop p.toNat (s.take e.toNat ++ (s.drop p.toNat).take (e.toNat - p.toNat) ++ s.drop e.toNat) = (s.drop p.toNat).take (e.toNat - p.toNat) ++ ((s.drop p.toNat).take (e.toNat - p.toNat) ++ s.drop e.toNat) := by
      rw [List.append_assoc, List.drop_append_of_le_length (by omega), List.drop_take]
    rw [d1, d2, List.take_append_of_le_length (by omega), List.take_append_of_le_length (by omega)]
/-! ### the drawn part -/
abbrev i_roll : defs[5]? = some dRoll := rfl
abbrev i_some : defs[6]? = some (dSome 5) := rfl
abbrev i_kind : defs[7]? = some dKind := rfl
abbrev i_like : defs[8]? = some (dLike 7 8) := rfl
abbrev i_row : defs[9]? = some (dRow 5 6) := rfl
theorem told {n : Nat} {h : Hh} {s : List Nat} (w : Wf h) (r : Row s) : ∃ h', Gz h h' ∧ Wf h' ∧ ∀ (τ : St) (i : Nat), τ[i]? = some (some (.str s)) →
    eLst (aCons (eCall 2 (aCons (eV i) aNil)) (aCons (eCall 3 (aCons (eV i) aNil)) aNil)) (C (n + 4)) τ h = .ok (.ref h'.n) (h'.push (.lst [leW s, .bl (isNonW (leW s))])) := by
  obtain ⟨_, h1, e1, g1, rfl⟩ := first_end (n := n + 2) w r
  obtain ⟨_, h2, e2, g2, rfl⟩ := is_plain (n := n + 1) g1.wf r
  refine ⟨h2, g1.trans g2, g2.wf, fun τ i t => ?_⟩
  rw [fe_le] at e1 e2
  unfold C at e1 e2 ⊢
  simp [eLst, aCons, aNil, eCall, eV, t, R.bind, e1, e2, fits2]
theorem right {n c : Nat} {h : Hh} (w : Wf h) (k : CupOk h c) : Rt (fun a => a = c) ((C (n + 5)).d 13 [.ref c] h) h fun v h' => v = .bl true ∧ CupOk h' c := by
  rw [lev_call (d := d__law_right) rfl]
  -- the deeds
  have hc : c < h.n := by obtain ⟨_, _, e⟩ := k; exact get_lt w e
  let xs : List W := [.str [97, 98], .str [97, 98, 99], .str [97, 98, 99, 100], .str [97, 98, 99, 100, 101, 102, 103, 104]]
  have k0 : CupOk (h.push (.lst xs)) c := by obtain ⟨a, b, e⟩ := k; exact ⟨a, b, by rw [get_old hc]; exact e⟩
  obtain ⟨dv, h1, e1, g1, hd, k1⟩ := some_lst (sub := sub) (n := n + 2) i_roll i_some w.push k0 (get_new (h := h) (o := .lst xs)) (by omega) (by simp [xs]) (by simp [xs])
  have g1' : Gx (fun a => a = c) h h1 := (Gx.push w).trans g1
  obtain ⟨deeds, rfl, hdd, hd0, hdl⟩ : ∃ deeds : List Nat, dv = .str deeds ∧ (∀ d ∈ deeds, 97 ≤ d ∧ d ≤ 104) ∧ deeds ≠ [] ∧ deeds.length < 9000 := by
    simp only [xs, List.mem_cons, List.not_mem_nil, or_false] at hd
    rcases hd with rfl | rfl | rfl | rfl <;> exact ⟨_, rfl, by decide, by decide, by decide⟩
  -- the row
  obtain ⟨_, h2, e2, g2, ⟨s, rfl, hsl, hsd⟩, k2⟩ := row (sub := sub) (n := n + 1) (most := 20) i_roll i_some i_row g1.wf k1 hd0 hdl (by decide)
  have r : Row s := ⟨by omega, fun d h => hdd d (hsd d h)⟩
  have g2' := g1'.trans g2
  -- what is told of it
  obtain ⟨h3, g3, w3, e3⟩ := told (n := n) g2.wf r
  have w4 : Wf (h3.push (.lst [leW s, .bl (isNonW (leW s))])) := w3.push
  have e5 := fun h => law_end (n := n + 3) (h := h) (s := s) r.1
  have w5 : Wf ((h3.push (.lst [leW s, .bl (isNonW (leW s))])).push (.lst [leW s, .bl (isNonW (leW s))])) := w4.push
  have hpl : ∀ x ∈ [leW s, .bl (isNonW (leW s))], pl 1 x = true := fun x hx => by
    simp only [List.mem_cons, List.not_mem_nil, or_false] at hx
    rcases hx with rfl | rfl
    · exact leW_pl s
    · rfl
  obtain ⟨_, h6, e6, g6, rfl⟩ := like_lst (sub := sub) (kk := 7) (kl := 8) (k := 1) (n := n) (a := h3.n) (b := (h3.push (.lst [leW s, .bl (isNonW (leW s))])).n) (xs := [leW s, .bl (isNonW (leW s))]) i_kind i_like w5 (by rw [get_old (by rw [push_n]; omega), get_new]) get_new (by simp) hpl
  have g6' : Gz h2 h6 := g3.trans ((Gx.push w3).trans ((Gx.push w4).trans g6))
  have k6 : CupOk h6 c := by obtain ⟨a, b, e⟩ := k2; exact ⟨a, b, g6'.keep g2.wf e id⟩
  have g06 : Gx (fun a => a = c) h h6 := g2'.trans g6'.any
  unfold C at e3 e5
  replace e1 : (lev defs sub (n + 4)).d 6 [.ref c, .ref h.n] (h.push (.lst xs)) = .ok (.str deeds) h1 := e1
  replace e2 : (lev defs sub (n + 4)).d 9 [.ref c, .str deeds, .int 20] h1 = .ok (.str s) h2 := e2
  replace e5 : ∀ h, (lev defs sub (n + 4)).d 11 [.str s] h = .ok (leW s) h := e5
  replace e6 : (lev defs sub (n + 4)).d 8 [.ref h3.n, .ref (h3.n + 1)] ((h3.push (.lst [leW s, .bl (isNonW (leW s))])).push (.lst [leW s, .bl (isNonW (leW s))])) = .ok (.bl true) h6 := e6
  simp only [xs] at e1
  have A : sAsg (gV 1) (eCall 9 (aCons (eV 0) (aCons (eCall 6 (aCons (eV 0) (aCons (eLst (aCons (eC (.str [97, 98])) (aCons (eC (.str [97, 98, 99])) (aCons (eC (.str [97, 98, 99, 100])) (aCons (eC (.str [97, 98, 99, 100, 101, 102, 103, 104])) aNil))))) aNil))) (aCons (eC (.int 20)) aNil)))) (lev defs sub (n + 4)) [some (.ref c), none, none, none, none] h = .nx [some (.ref c), some (.str s), none, none, none] h2 := by
    simp [sAsg, eCall, aCons, aNil, eV, eC, R.bind, eLst, show ∀ a b c d : W, fits [a, b, c, d] = true from fun _ _ _ _ => rfl, e1, e2, R.f, gV]
  have B : sIf (tNot (tE (eCall 8 (aCons (eLst (aCons (eCall 2 (aCons (eV 1) aNil)) (aCons (eCall 3 (aCons (eV 1) aNil)) aNil))) (aCons (eLst (aCons (eCall 11 (aCons (eV 1) aNil)) (aCons (eCmp .isn (eCall 11 (aCons (eV 1) aNil)) (eC .non)) aNil))) aNil))))) (sCons (sRet (eC (.bl false))) sNil) sNil (lev defs sub (n + 4)) [some (.ref c), some (.str s), none, none, none] h2 = .nx [some (.ref c), some (.str s), none, none, none] h6 := by
    have e3' := e3 [some (.ref c), some (.str s), none, none, none] 1 rfl
    have q2 : eLst (aCons (eCall 11 (aCons (eV 1) aNil)) (aCons (eCmp .isn (eCall 11 (aCons (eV 1) aNil)) (eC .non)) aNil)) (lev defs sub (n + 4)) [some (.ref c), some (.str s), none, none, none] (h3.push (.lst [leW s, .bl (isNonW (leW s))])) = .ok (.ref (h3.n + 1)) ((h3.push (.lst [leW s, .bl (isNonW (leW s))])).push (.lst [leW s, .bl (isNonW (leW s))])) := by
      simp [eLst, aCons, aNil, eCall, eV, R.bind, e5, eCmp, eC, cmpR, cmp, fits2, push_n]
    generalize hq1 : eLst (aCons (eCall 2 (aCons (eV 1) aNil)) (aCons (eCall 3 (aCons (eV 1) aNil)) aNil)) = E1 at e3' ⊢
    generalize hq2 : eLst (aCons (eCall 11 (aCons (eV 1) aNil)) (aCons (eCmp .isn (eCall 11 (aCons (eV 1) aNil)) (eC .non)) aNil)) = E2 at q2 ⊢
    simp [sIf, tNot, tE, eCall, aCons, aNil, R.bind, e3', q2, e6, truth, R.opt, sNil]
  unfold runDf
  by_cases hs : s = []
  · subst hs
    refine ⟨.bl true, h6, ?_, g06, rfl, k6⟩
    simp only [d__law_right, start]
    simp [sCons, A, B, F.then]
    simp [sIf, tE, eCmp, eV, eC, R.bind, cmpR, cmp, eqW, truth, R.opt, sRet, R.f, sCons, F.then]
  · -- a stretch doubled
    have hlen : 0 < s.length := List.length_pos_iff.mpr hs
    have he : s.isEmpty = false := by cases s with
      | nil => exact absurd rfl hs
      | cons _ _ => rfl
    have hf : fits s = true := r.fits
    obtain ⟨_, h7, e7, g7, p, rfl, p0, p1, k7⟩ := roll (sub := sub) (n := n + 3) (m := s.length) i_roll g6.wf k6 (by omega) (log_small (by omega) (by omega))
    obtain ⟨_, h8, e8, g8, q, rfl, q0, q1, k8⟩ := roll (sub := sub) (n := n + 3) (m := s.length - p) i_roll g7.wf k7 (by omega) (log_small (by omega) (by omega))
    obtain ⟨t1, t2, t3⟩ := twice_ok (s := s) (p := p) (e := p + 1 + q) p0 (by omega) (by omega)
    have rt : Row (twiceF s p (p + 1 + q)) := ⟨by omega, fun d hd => r.2 d (t2 d hd)⟩
    generalize ht : twiceF s p (p + 1 + q) = t at t1 t2 t3 rt
    obtain ⟨h9, g9, w9, e9⟩ := told (n := n) g8.wf rt
    have e10 := fun h => law_end (n := n + 3) (h := h) (s := t) rt.1
    rw [t3] at e9
    have hpl2 : ∀ x ∈ [leW t, .bl false], pl 1 x = true := fun x hx => by
      simp only [List.mem_cons, List.not_mem_nil, or_false] at hx
      rcases hx with rfl | rfl
      · exact leW_pl t
      · rfl
    obtain ⟨_, h11, e11, g11, rfl⟩ := like_lst (sub := sub) (kk := 7) (kl := 8) (k := 1) (n := n) (a := h9.n) (b := (h9.push (.lst [leW t, .bl false])).n) (xs := [leW t, .bl false]) i_kind i_like w9.push.push (by rw [get_old (by rw [push_n]; omega), get_new]) get_new (by simp) hpl2
    have g11' : Gz h8 h11 := g9.trans ((Gx.push w9).trans ((Gx.push w9.push).trans g11))
    have k11 : CupOk h11 c := by obtain ⟨a, b, e⟩ := k8; exact ⟨a, b, g11'.keep g8.wf e id⟩
    unfold C at e9 e10
    replace e7 : (lev defs sub (n + 4)).d 5 [.ref c, .int s.length] h6 = .ok (.int p) h7 := e7
    replace e8 : (lev defs sub (n + 4)).d 5 [.ref c, .int (s.length - p)] h7 = .ok (.int q) h8 := e8
    replace e10 : ∀ h, (lev defs sub (n + 4)).d 11 [.str t] h = .ok (leW t) h := e10
    replace e11 : (lev defs sub (n + 4)).d 8 [.ref h9.n, .ref (h9.n + 1)] ((h9.push (.lst [leW t, .bl false])).push (.lst [leW t, .bl false])) = .ok (.bl true) h11 := e11
    refine ⟨.bl true, h11, ?_, g06.trans (g7.trans (g8.trans g11'.any)), rfl, k11⟩
    have hln : (cut s none (some (p + 1 + q))).length + (cut s (some p) (some (p + 1 + q))).length ≤ 16777216 := by
      have := cut_len (s := s) (a := none) (b := some (p + 1 + q))
      have := cut_len (s := s) (a := some p) (b := some (p + 1 + q))
      omega
    have hln2 : (cut s none (some (p + 1 + q)) ++ cut s (some p) (some (p + 1 + q))).length + (cut s (some (p + 1 + q)) none).length ≤ 16777216 := by
      have := cut_len (s := s) (a := none) (b := some (p + 1 + q))
      have := cut_len (s := s) (a := some p) (b := some (p + 1 + q))
      have := cut_len (s := s) (a := some (p + 1 + q)) (b := none)
      simp only [List.length_append]
      omega
    have D : sAsg (gV 4) (eBin .add (eBin .add (eSl (eV 1) pN (pS (eV 3))) (eSl (eV 1) (pS (eV 2)) (pS (eV 3)))) (eSl (eV 1) (pS (eV 3)) pN)) (lev defs sub (n + 4)) [some (.ref c), some (.str s), some (.int p), some (.int (p + 1 + q)), none] h8 = .nx [some (.ref c), some (.str s), some (.int p), some (.int (p + 1 + q)), some (.str t)] h8 := by
      rw [← ht]
      unfold twiceF
      simp only [List.length_append] at hln2
      simp [sAsg, eBin, eSl, eV, pN, pS, R.bind, slice, hf, bin, line, hln, hln2, R.f, gV]
    have E : sRet (eCall 8 (aCons (eLst (aCons (eCall 2 (aCons (eV 4) aNil)) (aCons (eCall 3 (aCons (eV 4) aNil)) aNil))) (aCons (eLst (aCons (eCall 11 (aCons (eV 4) aNil)) (aCons (eC (.bl false)) aNil))) aNil))) (lev defs sub (n + 4)) [some (.ref c), some (.str s), some (.int p), some (.int (p + 1 + q)), some (.str t)] h8 = .rt (.bl true) h11 := by
      have e9' := e9 [some (.ref c), some (.str s), some (.int p), some (.int (p + 1 + q)), some (.str t)] 4 rfl
      have q2 : eLst (aCons (eCall 11 (aCons (eV 4) aNil)) (aCons (eC (.bl false)) aNil)) (lev defs sub (n + 4)) [some (.ref c), some (.str s), some (.int p), some (.int (p + 1 + q)), some (.str t)] (h9.push (.lst [leW t, .bl false])) = .ok (.ref (h9.n + 1)) ((h9.push (.lst [leW t, .bl false])).push (.lst [leW t, .bl false])) := by
        simp [eLst, aCons, aNil, eCall, eV, R.bind, e10, eC, fits2, push_n]
      generalize hq1 : eLst (aCons (eCall 2 (aCons (eV 4) aNil)) (aCons (eCall 3 (aCons (eV 4) aNil)) aNil)) = E1 at e9' ⊢
      generalize hq2 : eLst (aCons (eCall 11 (aCons (eV 4) aNil)) (aCons (eC (.bl false)) aNil)) = E2 at q2 ⊢
      simp [sRet, eCall, aCons, aNil, R.bind, e9', q2, e11, R.f]
    simp only [d__law_right, start]
    simp [sCons, A, B, F.then]
    have Cc : sIf (tE (eCmp .eq (eV 1) (eC (.str [])))) (sCons (sRet (eC (.bl true))) sNil) sNil (lev defs sub (n + 4)) [some (.ref c), some (.str s), none, none, none] h6 = .nx [some (.ref c), some (.str s), none, none, none] h6 := by
      simp [sIf, tE, eCmp, eV, eC, R.bind, cmpR, cmp, eqW, truth, R.opt, hs, he, sNil]
    have C2 : sAsg (gV 2) (eCall 5 (aCons (eV 0) (aCons (eB bLen (eV 1)) aNil))) (lev defs sub (n + 4)) [some (.ref c), some (.str s), none, none, none] h6 = .nx [some (.ref c), some (.str s), some (.int p), none, none] h7 := by
      simp [sAsg, eCall, aCons, aNil, eV, R.bind, eB, bLen, lenW, hf, e7, R.f, gV]
    have C3 : sAsg (gV 3) (eBin .add (eBin .add (eV 2) (eC (.int 1))) (eCall 5 (aCons (eV 0) (aCons (eBin .sub (eB bLen (eV 1)) (eV 2)) aNil)))) (lev defs sub (n + 4)) [some (.ref c), some (.str s), some (.int p), none, none] h7 = .nx [some (.ref c), some (.str s), some (.int p), some (.int (p + 1 + q)), none] h8 := by
      simp [sAsg, eCall, aCons, aNil, eV, eC, R.bind, eB, bLen, lenW, hf, e8, R.f, gV, eBin, bin]
    simp [Cc, C2, C3, D, E]
/-! ### the law -/
theorem fixed (o : O) : (match (C 11).d 12 [] ⟨1, [o]⟩ with | .ok (.bl true) h' => (h'.get 0, Nat.beq h'.os.length h'.n) | _ => (none, false)) = (some o, true) := by
  kernel_rfl
theorem law_ok (ns : List Int) (hl : ns.length ≤ 63) (o : O) (ho : o = .ro (ns.map W.int) ∨ o = .lst (ns.map W.int)) : ∃ h', runDf d_law [.ref 0] (C 11) ⟨1, [o]⟩ = .ok (.bl true) h' := by
  have f := fixed o
  split at f
  · rename_i h1 e1
    simp only [Prod.mk.injEq] at f
    obtain ⟨f1, f2⟩ := f
    have w1 : Wf h1 := Nat.eq_of_beq_eq_true f2
    have hat : h1.lstAt 0 = some (ns.map W.int) := by
      rcases ho with rfl | rfl
      · exact lstAt_ro f1
      · exact lstAt_lst f1
    obtain ⟨_, h2, e2, g2, c, rfl, _, k2⟩ := cup (defs := defs) (sub := sub) (n := 10) (kc := 4) (q := 393) (m := 613) (p := 7015) (b := 421) rfl (by decide) (by decide) rfl w1 hat hl
    obtain ⟨τ', h', e3, x, e4, _, _⟩ := forL_inv (c := C 11) (g := gV 2) (b := sCons (sIf (tNot (tE (eCall 13 (aCons (eV 1) aNil)))) (sCons (sRet (eC (.bl false))) sNil) sNil) sNil)
      (I := fun τ h => ∃ x, τ = [some (.ref 0), some (.ref c), x] ∧ Wf h ∧ CupOk h c) (rangeL 0 20) [some (.ref 0), some (.ref c), none] h2 ⟨_, rfl, g2.wf, k2⟩ (fun y _ τ h ⟨x, e, w, k⟩ => by
        subst e
        obtain ⟨_, h3, e3, g3, rfl, k3⟩ := right (n := 6) w k
        replace e3 : (C 11).d 13 [.ref c] h = .ok (.bl true) h3 := e3
        refine ⟨_, h, [some (.ref 0), some (.ref c), some y], h3, rfl, ?_, _, rfl, g3.wf, k3⟩
        simp [sCons, sIf, tNot, tE, eCall, aCons, aNil, eV, R.bind, e3, truth, R.opt, sNil, F.then])
    subst e4
    refine ⟨h', ?_⟩
    replace e2 : (C 11).d 4 [.ref 0] h1 = .ok (.ref c) h2 := e2
    have hr : smallR 20 = true := rfl
    unfold runDf
    simp [d_law, start, sCons, sIf, tNot, tE, eCall0, R.nox, e1, R.bind, truth, R.opt, sNil, F.then, sAsg, eCall, aCons, aNil, eV, e2, R.f, gV, sFor, iRange1, eC, hr, R.w] at e3 ⊢
    rw [e3]
    simp [sRet, eC, R.f]
  · simp at f
end Mk64

set_option Elab.async false
set_option linter.all false
set_option autoImplicit false
set_option maxRecDepth 100000
set_option maxHeartbeats 2000000
/-! Snd1: how the machine's values and heap stand to the hand layer's. -/
namespace PV
open PySem
abbrev V := L2.V
abbrev Hp := L2.Hp
abbrev Fg := PySem.W.Frag

/-! ### lists in pairs -/
def A2 {α β : Type} (R : α → β → Prop) : List α → List β → Prop
  | [], [] => True
  | x :: xs, y :: ys => R x y ∧ A2 R xs ys
  | _, _ => False
section
variable {α β : Type} {R R' : α → β → Prop}
theorem A2.nil_iff {ys : List β} : A2 R [] ys ↔ ys = [] := by cases ys <;> simp [A2]
theorem A2.nil_iff' {xs : List α} : A2 R xs [] ↔ xs = [] := by cases xs <;> simp [A2]
theorem A2.cons_iff {x : α} {xs : List α} {ys : List β} : A2 R (x :: xs) ys ↔ ∃ y r, ys = y :: r ∧ R x y ∧ A2 R xs r := by
  cases ys with
  | nil => simp [A2]
  | cons y r =>
    constructor
    · rintro ⟨h, t⟩; exact ⟨y, r, rfl, h, t⟩
    · rintro ⟨_, _, e, h, t⟩; cases e; exact ⟨h, t⟩
theorem A2.imp : ∀ {xs : List α} {ys : List β}, A2 R xs ys → (∀ x y, R x y → R' x y) → A2 R' xs ys
  | [], [], _, _ => trivial
  | _ :: _, _ :: _, ⟨h, t⟩, f => ⟨f _ _ h, A2.imp t f⟩
  | [], _ :: _, h, _ => h.elim
  | _ :: _, [], h, _ => h.elim
theorem A2.len : ∀ {xs : List α} {ys : List β}, A2 R xs ys → xs.length = ys.length
  | [], [], _ => rfl
  | _ :: _, _ :: _, ⟨_, t⟩ => by simp [A2.len t]
  | [], _ :: _, h => h.elim
  | _ :: _, [], h => h.elim
theorem A2.get : ∀ {xs : List α} {ys : List β} {i : Nat} {x : α}, A2 R xs ys → xs[i]? = some x → ∃ y, ys[i]? = some y ∧ R x y
  | [], _, i, x, _, e => by simp at e
  | a :: xs, b :: ys, 0, x, ⟨h, _⟩, e => by simp at e; subst e; exact ⟨b, rfl, h⟩
  | a :: xs, b :: ys, i + 1, x, ⟨_, t⟩, e => by
    obtain ⟨y, h1, h2⟩ := A2.get (i := i) t (by simpa using e)
    exact ⟨y, by simpa using h1, h2⟩
  | _ :: _, [], _, _, h, _ => h.elim
theorem A2.get' : ∀ {xs : List α} {ys : List β} {i : Nat} {y : β}, A2 R xs ys → ys[i]? = some y → ∃ x, xs[i]? = some x ∧ R x y
  | _, [], i, x, _, e => by simp at e
  | a :: xs, b :: ys, 0, x, ⟨h, _⟩, e => by simp at e; subst e; exact ⟨a, rfl, h⟩
  | a :: xs, b :: ys, i + 1, x, ⟨_, t⟩, e => by
    obtain ⟨y, h1, h2⟩ := A2.get' (i := i) t (by simpa using e)
    exact ⟨y, by simpa using h1, h2⟩
  | [], _ :: _, _, _, h, _ => h.elim
theorem A2.app : ∀ {xs xs' : List α} {ys ys' : List β}, A2 R xs ys → A2 R xs' ys' → A2 R (xs ++ xs') (ys ++ ys')
  | [], _, [], _, _, h => h
  | _ :: _, _, _ :: _, _, ⟨h, t⟩, h' => ⟨h, A2.app t h'⟩
  | [], _, _ :: _, _, h, _ => h.elim
  | _ :: _, _, [], _, h, _ => h.elim
theorem A2.take : ∀ {xs : List α} {ys : List β} (n : Nat), A2 R xs ys → A2 R (xs.take n) (ys.take n)
  | _, _, 0, _ => by simp [A2]
  | [], [], _ + 1, _ => trivial
  | _ :: _, _ :: _, n + 1, ⟨h, t⟩ => ⟨h, A2.take n t⟩
  | [], _ :: _, _ + 1, h => h.elim
  | _ :: _, [], _ + 1, h => h.elim
theorem A2.drop : ∀ {xs : List α} {ys : List β} (n : Nat), A2 R xs ys → A2 R (xs.drop n) (ys.drop n)
  | _, _, 0, h => by simpa using h
  | [], [], _ + 1, _ => trivial
  | _ :: _, _ :: _, n + 1, ⟨h, t⟩ => by simpa using A2.drop n t
  | [], _ :: _, _ + 1, h => h.elim
  | _ :: _, [], _ + 1, h => h.elim
theorem A2.set {x : α} {y : β} (h : R x y) : ∀ {xs : List α} {ys : List β} (i : Nat), A2 R xs ys → A2 R (xs.set i x) (ys.set i y)
  | [], [], _, _ => trivial
  | _ :: _, _ :: _, 0, ⟨_, t⟩ => ⟨h, t⟩
  | _ :: _, _ :: _, i + 1, ⟨h', t⟩ => ⟨h', A2.set h i t⟩
  | [], _ :: _, _, h => h.elim
  | _ :: _, [], _, h => h.elim
theorem A2.rev {xs : List α} {ys : List β} (h : A2 R xs ys) : A2 R xs.reverse ys.reverse := by
  induction xs generalizing ys with
  | nil => cases ys with
    | nil => exact trivial
    | cons => exact h.elim
  | cons x xs ih => cases ys with
    | nil => exact h.elim
    | cons y ys => rw [List.reverse_cons, List.reverse_cons]; exact (ih h.2).app ⟨h.1, trivial⟩
theorem A2.rep {xs : List α} {ys : List β} (h : A2 R xs ys) : ∀ k : Nat, A2 R (List.replicate k xs).flatten (List.replicate k ys).flatten
  | 0 => trivial
  | k + 1 => by rw [List.replicate_succ, List.replicate_succ, List.flatten_cons, List.flatten_cons]; exact h.app (A2.rep h k)
theorem A2.isEmpty {xs : List α} {ys : List β} (h : A2 R xs ys) : ys.isEmpty = xs.isEmpty := by
  cases xs <;> cases ys <;> simp_all [A2]
theorem A2.dropLast {xs : List α} {ys : List β} (h : A2 R xs ys) : A2 R xs.dropLast ys.dropLast := by
  rw [List.dropLast_eq_take, List.dropLast_eq_take, h.len]; exact h.take _
theorem A2.map {γ : Type} {f : γ → α} {g : γ → β} (h : ∀ c, R (f c) (g c)) : ∀ l : List γ, A2 R (l.map f) (l.map g)
  | [] => trivial
  | c :: l => ⟨h c, A2.map h l⟩
end

/-! ### the relation -/
/-- what the top has made: the defs, the error classes; the lambda at hand; the error at hand with its class and its own dict; the tables of code objects -/
structure Gam where
  nf : Nat
  nc : Nat
  fa : Nat → Addr
  ca : Nat → Addr
  fld : Str
  lam : Option (Nat × Addr)
  exn : Option (Nat × Addr × Nat × Option Addr)
  T : List (Addr × Str)
  bs : List (Nat × (Nat → Addr) × Hp)

mutual
def RV (Γ : Gam) (K : Fg) (n : Nat) (ρ : Nat → Addr) (H : Hp) : W → V → Prop
  | .non, v => v = .non
  | .bl b, v => v = .bl b
  | .int i, v => v = .int i
  | .str s, v => v = .str (SX.S s)
  | .tup xs, v => ∃ a vs, v = .ref a ∧ H a = some (.tup vs) ∧ RVs Γ K n ρ H xs vs
  | .ref a, v => a < n ∧ v = .ref (ρ a)
  | .fn k, v => k < Γ.nf ∧ v = .ref (Γ.fa k)
def RVs (Γ : Gam) (K : Fg) (n : Nat) (ρ : Nat → Addr) (H : Hp) : List W → List V → Prop
  | [], vs => vs = []
  | x :: xs, vs => ∃ v r, vs = v :: r ∧ RV Γ K n ρ H x v ∧ RVs Γ K n ρ H xs r
end
section
variable {Γ : Gam} {K : Fg} {n n' : Nat} {ρ ρ' : Nat → Addr} {H H' : Hp}
theorem RVs_iff : ∀ {xs : List W} {vs : List V}, RVs Γ K n ρ H xs vs ↔ A2 (RV Γ K n ρ H) xs vs
  | [], vs => by unfold RVs; exact A2.nil_iff.symm
  | x :: xs, vs => by
    unfold RVs
    rw [A2.cons_iff]
    constructor
    · rintro ⟨v, r, e, h, t⟩; exact ⟨v, r, e, h, RVs_iff.mp t⟩
    · rintro ⟨v, r, e, h, t⟩; exact ⟨v, r, e, h, RVs_iff.mpr t⟩

/-- what never changes -/
def Stb : L2.HO → Bool
  | .tup _ => true
  | .frz _ _ => true
  | .xd _ => true
  | .ext _ => true
  | _ => false
/-- later -/
structure Ext (n : Nat) (ρ : Nat → Addr) (H : Hp) (n' : Nat) (ρ' : Nat → Addr) (H' : Hp) : Prop where
  le : n ≤ n'
  at_ : ∀ a, a < n → ρ' a = ρ a
  stb : ∀ a o, H a = some o → Stb o = true → H' a = some o
theorem Ext.refl : Ext n ρ H n ρ H := ⟨Nat.le_refl _, fun _ _ => rfl, fun _ _ h _ => h⟩
theorem Ext.trans {n2 : Nat} {ρ2 : Nat → Addr} {H2 : Hp} (a : Ext n ρ H n' ρ' H') (b : Ext n' ρ' H' n2 ρ2 H2) : Ext n ρ H n2 ρ2 H2 :=
  ⟨Nat.le_trans a.le b.le, fun c hc => (b.at_ c (Nat.lt_of_lt_of_le hc a.le)).trans (a.at_ c hc), fun c o h s => b.stb c o (a.stb c o h s) s⟩
theorem Rd_mono {a : Addr} {u : L2.HO} (e : Ext n ρ H n' ρ' H') (hu : Stb u = true) (h : L2.Rd H a u) : L2.Rd H' a u := by
  rcases h with h | ⟨o, h⟩
  · exact .inl (e.stb _ _ h hu)
  · exact .inr ⟨o, e.stb _ _ h rfl⟩
theorem SqT_mono {a : Addr} {xs : List V} (e : Ext n ρ H n' ρ' H') (h : L2.SqT K H a xs) : L2.SqT K H' a xs := by
  rcases h with h | h
  · exact .inl (Rd_mono e rfl h)
  · exact .inr h
mutual
theorem RV.mono (e : Ext n ρ H n' ρ' H') : ∀ {w : W} {v : V}, RV Γ K n ρ H w v → RV Γ K n' ρ' H' w v
  | .non, v, h => by unfold RV at h ⊢; exact h
  | .bl b, v, h => by unfold RV at h ⊢; exact h
  | .int i, v, h => by unfold RV at h ⊢; exact h
  | .str s, v, h => by unfold RV at h ⊢; exact h
  | .tup xs, v, h => by
    unfold RV at h ⊢
    obtain ⟨a, vs, h1, h2, h3⟩ := h
    exact ⟨a, vs, h1, e.stb _ _ h2 rfl, RVs.mono e h3⟩
  | .ref a, v, h => by unfold RV at h ⊢; exact ⟨Nat.lt_of_lt_of_le h.1 e.le, by rw [e.at_ a h.1]; exact h.2⟩
  | .fn k, v, h => by unfold RV at h ⊢; exact h
theorem RVs.mono (e : Ext n ρ H n' ρ' H') : ∀ {ws : List W} {vs : List V}, RVs Γ K n ρ H ws vs → RVs Γ K n' ρ' H' ws vs
  | [], vs, h => by unfold RVs at h ⊢; exact h
  | x :: xs, vs, h => by
    unfold RVs at h ⊢
    obtain ⟨v, r, h1, h2, h3⟩ := h
    exact ⟨v, r, h1, RV.mono e h2, RVs.mono e h3⟩
end
end

/-! ### heaps -/
def keyV : W → Option L2.Key
  | .int i => some (.inl i)
  | .str s => some (.inr (SX.S s))
  | _ => none
def keyVs : W → Option (List L2.Key)
  | .tup xs => mapO keyV xs
  | _ => none
/-- tracked by the hand layer -/
def O.tr : O → Bool
  | .exc _ _ => false
  | .lam => false
  | .ro _ => false
  | _ => true
/-- a list that is only read -/
def Ro (K : Fg) (H : Hp) (p : Addr) (vs : List V) : Prop :=
  (∃ o, H p = some (.frz o (.lst vs))) ∨
    ∃ (o : Obj) (its : Array Value) (n : Nat), K.lookup p = some o ∧ o.cls = .type "list" ∧ o.dict = none ∧ o.data = .seq its n ∧ its.size ≤ sizeLine ∧ L2.Vals vs its.toList
/-- an object stands for the one at p -/
def OR (Γ : Gam) (K : Fg) (n : Nat) (ρ : Nat → Addr) (H : Hp) : O → Addr → Prop
  | .lst ws, p => ∃ vs, H p = some (.lst vs) ∧ A2 (RV Γ K n ρ H) ws vs
  | .ro ws, p => ∃ vs, Ro K H p vs ∧ A2 (RV Γ K n ρ H) ws vs
  | .dk kvs, p => ∃ ks, H p = some (.dK ks) ∧ A2 (fun (p : W × W) (q : L2.Key × V) => keyV p.1 = some q.1 ∧ RV Γ K n ρ H p.2 q.2) kvs ks
  | .dt kvs, p => ∃ ks, H p = some (.dT ks) ∧ A2 (fun (p : W × W) (q : List L2.Key × V) => keyVs p.1 = some q.1 ∧ RV Γ K n ρ H p.2 q.2) kvs ks
  | .exc _ _, _ => True
  | .lam, _ => True
/-- the payload of an error: its own dict holds it -/
def XR (Γ : Gam) (K : Fg) (n : Nat) (ρ : Nat → Addr) (H : Hp) (k : Nat) (p : W) (d : Option Addr) : Prop := k < Γ.nc ∧ (
  (p = .non ∧ d = none) ∨ ∃ dd u, d = some dd ∧ H dd = some (.xd [(Γ.fld, u)]) ∧ RV Γ K n ρ H p u ∧ p ≠ .non)
structure Sim (Γ : Gam) (K : Fg) (h : Hh) (ρ : Nat → Addr) (H : Hp) : Prop where
  len : h.os.length = h.n
  obj : ∀ a o, h.get a = some o → OR Γ K h.n ρ H o (ρ a)
  inj : ∀ a b o o', h.get a = some o → h.get b = some o' → o.tr = true → o'.tr = true → ρ a = ρ b → a = b
  tab : LamX.Tabs Γ.T H
  exn : ∀ i a c d, Γ.exn = some (i, a, c, d) → ρ i = a ∧ ∃ p, h.get i = some (.exc c p) ∧ XR Γ K h.n ρ H c p d
  lam : ∀ i a, Γ.lam = some (i, a) → ρ i = a ∧ h.get i = some .lam
  bs : ∀ b ∈ Γ.bs, Ext b.1 b.2.1 b.2.2 h.n ρ H
/-- the slots -/
def StR (Γ : Gam) (K : Fg) (n : Nat) (ρ : Nat → Addr) (H : Hp) (τ : St) (σ : L2.St) : Prop :=
  τ.length = σ.length ∧ ∀ (i : Nat) (w : W), τ[i]? = some (some w) → ∃ v, σ[i]? = some (some v) ∧ RV Γ K n ρ H w v

/-! ### the machine's own heap -/
theorem getA_none : ∀ (os : List O) (n a : Nat), os.length = n → n ≤ a → getA n os a = none
  | [], _, _, _, _ => by unfold getA; rfl
  | o :: os, n, a, hl, ha => by
    have hn : os.length = n - 1 := by simp at hl; omega
    unfold getA
    have : Nat.beq (a + 1) n = false := by
      cases e : Nat.beq (a + 1) n with
      | false => rfl
      | true => have := Nat.eq_of_beq_eq_true e; omega
    rw [this]
    exact getA_none os (n - 1) a hn (by omega)
theorem getA_some : ∀ (os : List O) (n a : Nat), os.length = n → a < n → ∃ o, getA n os a = some o
  | [], n, a, hl, ha => by simp at hl; omega
  | o :: os, n, a, hl, ha => by
    have hn : os.length = n - 1 := by simp at hl; omega
    unfold getA
    cases e : Nat.beq (a + 1) n with
    | true => exact ⟨o, by simp⟩
    | false =>
      have : a + 1 ≠ n := fun z => by rw [z] at e; simp at e
      obtain ⟨o', h'⟩ := getA_some os (n - 1) a hn (by omega)
      exact ⟨o', by simpa using h'⟩
theorem setA_len : ∀ (os : List O) (n a : Nat) (x : O), (setA n os a x).length = os.length
  | [], _, _, _ => by unfold setA; rfl
  | o :: os, n, a, x => by
    unfold setA
    cases Nat.beq (a + 1) n with
    | true => simp
    | false => simp [setA_len os (n - 1) a x]
theorem getA_setA : ∀ (os : List O) (n a b : Nat) (x : O), os.length = n → b < n → getA n (setA n os b x) a = if a = b then some x else getA n os a
  | [], n, a, b, x, hl, hb => by simp at hl; omega
  | o :: os, n, a, b, x, hl, hb => by
    have hn : os.length = n - 1 := by simp at hl; omega
    unfold setA
    cases e : Nat.beq (b + 1) n with
    | true =>
      have e' := Nat.eq_of_beq_eq_true e
      simp only [if_true]
      unfold getA
      by_cases hab : a = b
      · subst hab; simp [e]
      · have : Nat.beq (a + 1) n = false := by
          cases q : Nat.beq (a + 1) n with
          | false => rfl
          | true => have := Nat.eq_of_beq_eq_true q; omega
        simp [this, hab]
    | false =>
      have hbn : b + 1 ≠ n := fun z => by rw [z] at e; simp at e
      simp only [Bool.false_eq_true, if_false]
      unfold getA
      cases q : Nat.beq (a + 1) n with
      | true =>
        have := Nat.eq_of_beq_eq_true q
        have hab : a ≠ b := by omega
        simp [hab]
      | false =>
        simp only [Bool.false_eq_true, if_false]
        exact getA_setA os (n - 1) a b x hn (by omega)
section
variable {h : Hh}
theorem Hh.get_lt (hl : h.os.length = h.n) {a : Nat} {o : O} (e : h.get a = some o) : a < h.n := by
  by_cases q : a < h.n
  · exact q
  · rw [show h.get a = none from getA_none _ _ _ hl (by omega)] at e; cases e
theorem Hh.get_push (o : O) (a : Nat) : (h.push o).get a = if a = h.n then some o else h.get a := by
  unfold Hh.push Hh.get
  show getA (h.n + 1) (o :: h.os) a = _
  rw [getA]
  by_cases e : a = h.n
  · subst e; simp
  · have : Nat.beq (a + 1) (h.n + 1) = false := by
      cases q : Nat.beq (a + 1) (h.n + 1) with
      | false => rfl
      | true => have := Nat.eq_of_beq_eq_true q; omega
    simp [this, e]
theorem Hh.get_set (hl : h.os.length = h.n) {a b : Nat} {o : O} (hb : b < h.n) : (h.set b o).get a = if a = b then some o else h.get a := getA_setA _ _ _ _ _ hl hb
theorem Hh.set_n {b : Nat} {o : O} : (h.set b o).n = h.n := rfl
theorem Hh.push_n {o : O} : (h.push o).n = h.n + 1 := rfl
theorem Hh.set_len {b : Nat} {o : O} (hl : h.os.length = h.n) : (h.set b o).os.length = (h.set b o).n := (setA_len _ _ _ _).trans hl
theorem Hh.push_len {o : O} (hl : h.os.length = h.n) : (h.push o).os.length = (h.push o).n := by unfold Hh.push; simp [hl]
end

section
variable {Γ : Gam} {K : Fg} {h h' : Hh} {n n' : Nat} {ρ ρ' : Nat → Addr} {H H' : Hp}
theorem Ro.mono (e : Ext n ρ H n' ρ' H') {p : Addr} {vs : List V} (x : Ro K H p vs) : Ro K H' p vs := by
  rcases x with ⟨o, x⟩ | x
  · exact .inl ⟨o, e.stb _ _ x rfl⟩
  · exact .inr x
theorem Ro.sq {p : Addr} {vs : List V} (x : Ro K H p vs) : L2.SqL K H p vs := by
  rcases x with ⟨o, x⟩ | x
  · exact .inl (.inr ⟨o, x⟩)
  · exact .inr x
theorem OR.mono (e : Ext n ρ H n' ρ' H') {o : O} {p : Addr} (hk : o.tr = true → H' p = H p) (x : OR Γ K n ρ H o p) : OR Γ K n' ρ' H' o p := by
  cases o with
  | lst ws => obtain ⟨vs, h1, h2⟩ := x; exact ⟨vs, (hk rfl).trans h1, h2.imp fun _ _ r => r.mono e⟩
  | ro ws => obtain ⟨vs, h1, h2⟩ := x; exact ⟨vs, h1.mono e, h2.imp fun _ _ r => r.mono e⟩
  | dk kvs => obtain ⟨ks, h1, h2⟩ := x; exact ⟨ks, (hk rfl).trans h1, h2.imp fun _ _ r => ⟨r.1, r.2.mono e⟩⟩
  | dt kvs => obtain ⟨ks, h1, h2⟩ := x; exact ⟨ks, (hk rfl).trans h1, h2.imp fun _ _ r => ⟨r.1, r.2.mono e⟩⟩
  | exc c p => trivial
  | lam => trivial
theorem XR.mono (e : Ext n ρ H n' ρ' H') {k : Nat} {p : W} {d : Option Addr} (x : XR Γ K n ρ H k p d) : XR Γ K n' ρ' H' k p d := by
  rcases x with ⟨hk, x | ⟨dd, u, e1, e2, e3, e4⟩⟩
  · exact ⟨hk, .inl x⟩
  · exact ⟨hk, .inr ⟨dd, u, e1, e.stb _ _ e2 rfl, e3.mono e, e4⟩⟩
theorem OR.there {o : O} {p : Addr} (x : OR Γ K n ρ H o p) (ht : o.tr = true) : ∃ u, H p = some u := by
  cases o with
  | lst ws => obtain ⟨vs, h1, _⟩ := x; exact ⟨_, h1⟩
  | dk kvs => obtain ⟨ks, h1, _⟩ := x; exact ⟨_, h1⟩
  | dt kvs => obtain ⟨ks, h1, _⟩ := x; exact ⟨_, h1⟩
  | _ => cases ht
theorem Sim.there (S : Sim Γ K h ρ H) {a : Nat} {o : O} (e : h.get a = some o) (ht : o.tr = true) : ∃ u, H (ρ a) = some u := (S.obj a o e).there ht
theorem Sim.tr_ne (S : Sim Γ K h ρ H) {a : Nat} {o : O} {p : Addr} (e : h.get a = some o) (ht : o.tr = true) (hp : H p = none) : ρ a ≠ p := fun z => by
  obtain ⟨u, hu⟩ := S.there e ht
  rw [z, hp] at hu; cases hu
theorem StR.mono (e : Ext n ρ H n' ρ' H') {τ : St} {σ : L2.St} (x : StR Γ K n ρ H τ σ) : StR Γ K n' ρ' H' τ σ :=
  ⟨x.1, fun i w hw => let ⟨v, h1, h2⟩ := x.2 i w hw; ⟨v, h1, h2.mono e⟩⟩
/-- the tables stand while they and the code objects stand -/
theorem tabs_keep {T : List (Addr × Str)} (t : LamX.Tabs T H) (k : ∀ a o, H a = some o → (Stb o = true ∨ ∃ ps, o = .tbl ps) → H' a = some o) : LamX.Tabs T H' := fun p hp => by
  obtain ⟨ps, h1, h2, h3⟩ := t p hp
  refine ⟨ps, k _ _ h1 (.inr ⟨ps, rfl⟩), h2, fun pos cv e => ?_⟩
  obtain ⟨c, e1, e2⟩ := h3 pos cv e
  exact ⟨c, e1, k _ _ e2 (.inl rfl)⟩
/-- a new object -/
def ext (ρ : Nat → Addr) (n : Nat) (p : Addr) : Nat → Addr := fun a => if a = n then p else ρ a
theorem ext_same {p : Addr} : ext ρ n p n = p := by unfold ext; simp
theorem ext_ne {a n : Nat} {p : Addr} (h : a ≠ n) : ext ρ n p a = ρ a := by unfold ext; simp [h]
theorem ext_new {p : Addr} {u : L2.HO} (hp : H p = none) : Ext n ρ H (n + 1) (ext ρ n p) (L2.upd H p u) :=
  ⟨Nat.le_succ _, fun a ha => ext_ne (Nat.ne_of_lt ha), fun a o e _ => by rw [L2.upd_ne (L2.ne_of_none e hp)]; exact e⟩
/-- a new object that the machine does not see -/
theorem ext_tup {p : Addr} {u : L2.HO} (hp : H p = none) : Ext n ρ H n ρ (L2.upd H p u) :=
  ⟨Nat.le_refl _, fun a ha => rfl, fun a o e _ => by rw [L2.upd_ne (L2.ne_of_none e hp)]; exact e⟩
theorem OR.move {a : Nat} {p : Addr} {u : L2.HO} {o : O} (S : Sim Γ K h ρ H) (e : h.get a = some o) (hp : H p = none) (x : Ext h.n ρ H n' ρ' (L2.upd H p u)) : OR Γ K n' ρ' (L2.upd H p u) o (ρ a) :=
  (S.obj a o e).mono x fun ht => by rw [L2.upd_ne (S.tr_ne e ht hp)]
theorem Sim.tup (S : Sim Γ K h ρ H) {p : Addr} {u : L2.HO} (hp : H p = none) : Sim Γ K h ρ (L2.upd H p u) :=
  ⟨S.len, fun a o e => OR.move S e hp (ext_tup hp), S.inj, tabs_keep S.tab fun a o e _ => by rw [L2.upd_ne (L2.ne_of_none e hp)]; exact e,
    fun i a c d e => let ⟨h1, p', h2, h3⟩ := S.exn i a c d e; ⟨h1, p', h2, h3.mono (ext_tup hp)⟩, S.lam, fun b hb => (S.bs b hb).trans (ext_tup hp)⟩
theorem Sim.new (S : Sim Γ K h ρ H) {p : Addr} {o : O} {u : L2.HO} (hp : H p = none) (x : OR Γ K (h.n + 1) (ext ρ h.n p) (L2.upd H p u) o p) : Sim Γ K (h.push o) (ext ρ h.n p) (L2.upd H p u) := by
  have he : Ext h.n ρ H (h.n + 1) (ext ρ h.n p) (L2.upd H p u) := ext_new hp
  refine ⟨Hh.push_len S.len, fun a o' e => ?_, fun a b oa ob ea eb ta tb e => ?_, tabs_keep S.tab fun a o e _ => by rw [L2.upd_ne (L2.ne_of_none e hp)]; exact e, fun i a c d e => ?_, fun i a e => ?_, fun b hb => (S.bs b hb).trans he⟩
  · rw [Hh.get_push] at e
    by_cases q : a = h.n
    · rw [if_pos q] at e
      cases e
      subst q
      rw [ext_same]
      exact x
    · rw [if_neg q] at e
      rw [ext_ne q]
      exact OR.move S e hp he
  · rw [Hh.get_push] at ea eb
    by_cases qa : a = h.n <;> by_cases qb : b = h.n
    · exact qa.trans qb.symm
    · rw [if_neg qb] at eb
      subst qa
      rw [ext_same, ext_ne qb] at e
      exact absurd e.symm (S.tr_ne eb tb hp)
    · rw [if_neg qa] at ea
      subst qb
      rw [ext_same, ext_ne qa] at e
      exact absurd e (S.tr_ne ea ta hp)
    · rw [if_neg qa] at ea
      rw [if_neg qb] at eb
      rw [ext_ne qa, ext_ne qb] at e
      exact S.inj a b oa ob ea eb ta tb e
  · obtain ⟨h1, p', h2, h3⟩ := S.exn i a c d e
    have hi := Hh.get_lt S.len h2
    have ne : i ≠ h.n := Nat.ne_of_lt hi
    exact ⟨by rw [ext_ne ne]; exact h1, p', by rw [Hh.get_push, if_neg ne]; exact h2, h3.mono he⟩
  · obtain ⟨h1, h2⟩ := S.lam i a e
    have ne : i ≠ h.n := Nat.ne_of_lt (Hh.get_lt S.len h2)
    exact ⟨by rw [ext_ne ne]; exact h1, by rw [Hh.get_push, if_neg ne]; exact h2⟩
/-- a new thing that the hand layer does not track, at any address -/
theorem ext_any {p : Addr} : Ext n ρ H (n + 1) (ext ρ n p) H := ⟨Nat.le_succ _, fun a ha => ext_ne (Nat.ne_of_lt ha), fun a o e _ => e⟩
theorem Sim.newX (S : Sim Γ K h ρ H) {p : Addr} {o : O} (ht : o.tr = false) (ho : OR Γ K (h.n + 1) (ext ρ h.n p) H o (ext ρ h.n p h.n)) : Sim Γ K (h.push o) (ext ρ h.n p) H := by
  have he : Ext h.n ρ H (h.n + 1) (ext ρ h.n p) H := ext_any
  refine ⟨Hh.push_len S.len, fun a o' e => ?_, fun a b oa ob ea eb ta tb e => ?_, S.tab, fun i a c d e => ?_, fun i a e => ?_, fun b hb => (S.bs b hb).trans he⟩
  · rw [Hh.get_push] at e
    by_cases q : a = h.n
    · rw [if_pos q] at e
      cases e
      subst q
      exact ho
    · rw [if_neg q] at e
      rw [ext_ne q]
      exact (S.obj a o' e).mono he fun _ => rfl
  · rw [Hh.get_push] at ea eb
    by_cases qa : a = h.n
    · rw [if_pos qa] at ea; cases ea; rw [ht] at ta; cases ta
    · by_cases qb : b = h.n
      · rw [if_pos qb] at eb; cases eb; rw [ht] at tb; cases tb
      · rw [if_neg qa] at ea
        rw [if_neg qb] at eb
        rw [ext_ne qa, ext_ne qb] at e
        exact S.inj a b oa ob ea eb ta tb e
  · obtain ⟨h1, p', h2, h3⟩ := S.exn i a c d e
    have ne : i ≠ h.n := Nat.ne_of_lt (Hh.get_lt S.len h2)
    exact ⟨by rw [ext_ne ne]; exact h1, p', by rw [Hh.get_push, if_neg ne]; exact h2, h3.mono he⟩
  · obtain ⟨h1, h2⟩ := S.lam i a e
    have ne : i ≠ h.n := Nat.ne_of_lt (Hh.get_lt S.len h2)
    exact ⟨by rw [ext_ne ne]; exact h1, by rw [Hh.get_push, if_neg ne]; exact h2⟩
/-- an object changed -/
theorem ext_upd {p : Addr} {u u0 : L2.HO} (hp : H p = some u0) (hs : Stb u0 = false) : Ext n ρ H n ρ (L2.upd H p u) :=
  ⟨Nat.le_refl _, fun a ha => rfl, fun a o e s => by
    rw [L2.upd_ne]; exact e
    rintro rfl
    rw [hp] at e; cases e; rw [hs] at s; cases s⟩
theorem Sim.upd (S : Sim Γ K h ρ H) {a : Nat} {o o0 : O} {u u0 : L2.HO} (h0 : h.get a = some o0) (t0 : o0.tr = true) (t1 : o.tr = true) (hp : H (ρ a) = some u0) (hs : Stb u0 = false) (ht : ∀ ps, u0 ≠ .tbl ps) (x : OR Γ K h.n ρ (L2.upd H (ρ a) u) o (ρ a)) : Sim Γ K (h.set a o) ρ (L2.upd H (ρ a) u) := by
  have ha : a < h.n := Hh.get_lt S.len h0
  have he : Ext h.n ρ H h.n ρ (L2.upd H (ρ a) u) := ext_upd hp hs
  have keep : ∀ {b : Nat} {o' : O}, h.get b = some o' → o'.tr = false → (h.set a o).get b = some o' := by
    intro b o' e q
    rw [Hh.get_set S.len ha, if_neg]
    · exact e
    · rintro rfl
      rw [h0] at e; cases e; rw [t0] at q; cases q
  refine ⟨Hh.set_len S.len, fun b o' e => ?_, fun b c ob oc eb ec tb tc e => ?_, tabs_keep S.tab fun b o' e q => ?_, fun i b c d e => ?_, fun i b e => ?_, fun b hb => (S.bs b hb).trans he⟩
  · rw [Hh.get_set S.len ha] at e
    by_cases q : b = a
    · rw [if_pos q] at e
      cases e
      rw [q]
      exact x
    · rw [if_neg q] at e
      exact (S.obj b o' e).mono he fun ht' => by rw [L2.upd_ne (fun z => q (S.inj b a o' o0 e h0 ht' t0 z))]
  · rw [Hh.get_set S.len ha] at eb ec
    have back : ∀ {d : Nat} {od : O}, (if d = a then some o else h.get d) = some od → od.tr = true → ∃ o', h.get d = some o' ∧ o'.tr = true := by
      intro d od e t
      by_cases q : d = a
      · subst q; exact ⟨o0, h0, t0⟩
      · rw [if_neg q] at e; exact ⟨od, e, t⟩
    obtain ⟨o1, e1, t1'⟩ := back eb tb
    obtain ⟨o2, e2, t2'⟩ := back ec tc
    exact S.inj b c o1 o2 e1 e2 t1' t2' e
  · rw [L2.upd_ne]
    · exact e
    · rintro rfl
      rw [hp] at e
      cases e
      rcases q with q | ⟨ps, q⟩
      · rw [hs] at q; cases q
      · exact ht ps q
  · obtain ⟨h1, p', h2, h3⟩ := S.exn i b c d e
    exact ⟨h1, p', keep h2 rfl, h3.mono he⟩
  · obtain ⟨h1, h2⟩ := S.lam i b e
    exact ⟨h1, keep h2 rfl⟩
/-- .. by what stands for it ahead -/
theorem A2.up {ws : List W} {vs : List V} (r : A2 (RV Γ K n ρ H) ws vs) (e : Ext n ρ H n' ρ' H') : A2 (RV Γ K n' ρ' H') ws vs := r.imp fun _ _ q => q.mono e
/-! the values do not hang on the error and the lambda at hand -/
mutual
theorem RV.gam {Γ' : Gam} (h1 : Γ'.nf = Γ.nf) (h2 : Γ'.fa = Γ.fa) : ∀ {w : W} {v : V}, RV Γ K n ρ H w v → RV Γ' K n ρ H w v
  | .non, v, h => by unfold RV at h ⊢; exact h
  | .bl b, v, h => by unfold RV at h ⊢; exact h
  | .int i, v, h => by unfold RV at h ⊢; exact h
  | .str s, v, h => by unfold RV at h ⊢; exact h
  | .tup xs, v, h => by
    unfold RV at h ⊢
    obtain ⟨a, vs, h3, h4, h5⟩ := h
    exact ⟨a, vs, h3, h4, RVs.gam h1 h2 h5⟩
  | .ref a, v, h => by unfold RV at h ⊢; exact h
  | .fn k, v, h => by unfold RV at h ⊢; rw [h1, h2]; exact h
theorem RVs.gam {Γ' : Gam} (h1 : Γ'.nf = Γ.nf) (h2 : Γ'.fa = Γ.fa) : ∀ {ws : List W} {vs : List V}, RVs Γ K n ρ H ws vs → RVs Γ' K n ρ H ws vs
  | [], vs, h => by unfold RVs at h ⊢; exact h
  | x :: xs, vs, h => by
    unfold RVs at h ⊢
    obtain ⟨v, r, h3, h4, h5⟩ := h
    exact ⟨v, r, h3, RV.gam h1 h2 h4, RVs.gam h1 h2 h5⟩
end
theorem OR.gam {Γ' : Gam} (h1 : Γ'.nf = Γ.nf) (h2 : Γ'.fa = Γ.fa) {o : O} {p : Addr} (x : OR Γ K n ρ H o p) : OR Γ' K n ρ H o p := by
  cases o with
  | lst ws => obtain ⟨vs, h3, h4⟩ := x; exact ⟨vs, h3, h4.imp fun _ _ r => r.gam h1 h2⟩
  | ro ws => obtain ⟨vs, h3, h4⟩ := x; exact ⟨vs, h3, h4.imp fun _ _ r => r.gam h1 h2⟩
  | dk kvs => obtain ⟨ks, h3, h4⟩ := x; exact ⟨ks, h3, h4.imp fun _ _ r => ⟨r.1, r.2.gam h1 h2⟩⟩
  | dt kvs => obtain ⟨ks, h3, h4⟩ := x; exact ⟨ks, h3, h4.imp fun _ _ r => ⟨r.1, r.2.gam h1 h2⟩⟩
  | exc c p => trivial
  | lam => trivial
theorem XR.gam {Γ' : Gam} (h1 : Γ'.nf = Γ.nf) (h2 : Γ'.fa = Γ.fa) (h3 : Γ'.fld = Γ.fld) (h4 : Γ'.nc = Γ.nc) {k : Nat} {p : W} {d : Option Addr} (x : XR Γ K n ρ H k p d) : XR Γ' K n ρ H k p d := by
  rcases x with ⟨hk, x | ⟨dd, u, e1, e2, e3, e4⟩⟩
  · exact ⟨by rw [h4]; exact hk, .inl x⟩
  · exact ⟨by rw [h4]; exact hk, .inr ⟨dd, u, e1, by rw [h3]; exact e2, e3.gam h1 h2, e4⟩⟩
theorem StR.gam {Γ' : Gam} (h1 : Γ'.nf = Γ.nf) (h2 : Γ'.fa = Γ.fa) {τ : St} {σ : L2.St} (x : StR Γ K n ρ H τ σ) : StR Γ' K n ρ H τ σ :=
  ⟨x.1, fun i w hw => let ⟨v, h3, h4⟩ := x.2 i w hw; ⟨v, h3, h4.gam h1 h2⟩⟩
end
end PV

set_option Elab.async false
set_option linter.all false
set_option autoImplicit false
set_option maxRecDepth 100000
set_option maxHeartbeats 2000000
/-! Snd2: the machine's expressions against the hand layer's readings: names, constants, operators, comparisons, tests. -/
namespace PV
open PySem

/-- what a body knows -/
structure Yv where
  Γ : Gam
  K : Fg
  W : L2.WX
  c : Cx
abbrev Rt (α β : Type) := Nat → (Nat → Addr) → Hp → α → β → Prop
/-- what is due behind a result -/
def Post {α β : Type} (Y : Yv) (RA : Rt α β) (σ : L2.St) (n : Nat) (ρ : Nat → Addr) (H : Hp) (r : R α) (Q : β → Hp → Prop) : Prop :=
  match r with
  | .ok a h' => ∀ ρ' H' v, Ext n ρ H h'.n ρ' H' → Sim Y.Γ Y.K h' ρ' H' → RA h'.n ρ' H' a v → Q v H'
  | .er k p h' => ∀ ρ' H' d, Ext n ρ H h'.n ρ' H' → Sim Y.Γ Y.K h' ρ' H' → XR Y.Γ Y.K h'.n ρ' H' k p d → Y.W (.ref (Y.Γ.ca k)) d σ H'
  | .bad => False
section
variable {α β γ δ : Type} {Y : Yv} {RA : Rt α β} {RB : Rt γ δ} {σ : L2.St} {n n1 : Nat} {ρ ρ1 : Nat → Addr} {H H1 : Hp}
theorem Post.mono {r : R α} {Q Q' : β → Hp → Prop} (h : Post Y RA σ n ρ H r Q) (i : ∀ v H', Q v H' → Q' v H') : Post Y RA σ n ρ H r Q' := by
  cases r with
  | ok a h' => exact fun ρ' H' v e s r => i v H' (h ρ' H' v e s r)
  | er k p h' => exact h
  | bad => exact h
theorem Post.rebase {r : R α} {Q : β → Hp → Prop} (h : Post Y RA σ n ρ H r Q) (e : Ext n ρ H n1 ρ1 H1) : Post Y RA σ n1 ρ1 H1 r Q := by
  cases r with
  | ok a h' => exact fun ρ' H' v e' s r => h ρ' H' v (e.trans e') s r
  | er k p h' => exact fun ρ' H' d e' s r => h ρ' H' d (e.trans e') s r
  | bad => exact h
theorem Post.bind {r : R α} {f : α → Hh → R γ} {Q : δ → Hp → Prop} (h : Post Y RB σ n ρ H (r.bind f) Q) :
    Post Y RA σ n ρ H r (fun v H1 => ∃ a h1 ρ1, Ext n ρ H h1.n ρ1 H1 ∧ Sim Y.Γ Y.K h1 ρ1 H1 ∧ RA h1.n ρ1 H1 a v ∧ r = .ok a h1 ∧ Post Y RB σ h1.n ρ1 H1 (f a h1) Q) := by
  cases r with
  | ok a h' => exact fun ρ' H' v e s r => ⟨a, h', ρ', e, s, r, rfl, Post.rebase h e⟩
  | er k p h' => exact h
  | bad => exact h
theorem Post.ok {a : α} {h : Hh} {Q : β → Hp → Prop} {v : β} (p : Post Y RA σ h.n ρ H (.ok a h) Q) (S : Sim Y.Γ Y.K h ρ H) (r : RA h.n ρ H a v) : Q v H := p ρ H v .refl S r
end

/-- the reading of a piece of the machine -/
def TR {α β : Type} (Y : Yv) (RA : Rt α β) (m : Cx → St → Hh → R α) : L2.St → Hp → (β → Hp → Prop) → Prop := fun σ H Q =>
  ∃ τ h ρ, Sim Y.Γ Y.K h ρ H ∧ StR Y.Γ Y.K h.n ρ H τ σ ∧ Post Y RA σ h.n ρ H (m Y.c τ h) Q
abbrev RW (Y : Yv) : Rt W V := fun n ρ H => RV Y.Γ Y.K n ρ H
abbrev RWs (Y : Yv) : Rt (List W) (List V) := fun n ρ H => A2 (RV Y.Γ Y.K n ρ H)
abbrev RB : Rt Bool Bool := fun _ _ _ a b => a = b
abbrev RO : Rt (Option Int) (Option Int) := fun _ _ _ a b => a = b
abbrev rE (Y : Yv) (m : E) : L2.TE := TR Y (RW Y) m
abbrev rT (Y : Yv) (m : T) : L2.TT := TR Y RB m
abbrev rA (Y : Yv) (m : Es) : L2.TA := TR Y (RWs Y) m

section
variable {X : L2.Cx} {Y : Yv}
theorem pe_imp {e : Expr} {t t' : L2.TE} (h : L2.PE X e t) (i : ∀ σ H Q, t' σ H Q → t σ H Q) : L2.PE X e t' := ⟨fun pins s σ H Q I q => h.run pins s σ H Q I (i σ H Q q)⟩
theorem pt_imp {e : Expr} {t t' : L2.TT} (h : L2.PT X e t) (i : ∀ σ H Q, t' σ H Q → t σ H Q) : L2.PT X e t' := ⟨fun pins s σ H Q I q => h.run pins s σ H Q I (i σ H Q q)⟩
theorem pw_imp {e : Expr} {t t' : L2.TT} (h : L2.PW X e t) (i : ∀ σ H Q, t' σ H Q → t σ H Q) : L2.PW X e t' := ⟨fun wh pins s σ H Q I q => h.run wh pins s σ H Q I (i σ H Q q)⟩
theorem pa_imp {e : List Expr} {t t' : L2.TA} (h : L2.PA X e t) (i : ∀ σ H Q, t' σ H Q → t σ H Q) : L2.PA X e t' := ⟨fun pos pins s σ H Q I q => h.run pos pins s σ H Q I (i σ H Q q)⟩
theorem opR_imp {f : Value → Value → Sem Value} {r r' : L2.R2} (h : L2.OpR X f r) (i : ∀ x y H Q, r' x y H Q → r x y H Q) : L2.OpR X f r' := fun pins s σ H x y v u Q I rx ry q => h pins s σ H x y v u Q I rx ry (i x y H Q q)

/-! ### names, constants -/
theorem r_var {i : Nat} {x : Str} {pos : Pos} (hN : X.N[i]? = some x) (hv : L2.Vis X.env.scope x) (hd : (x == ("__debug__" : Str)) = false := by decide) (hcd : (x == ("__classdict__" : Str)) = false := by decide) :
    L2.PE X (.Name x pos) (rE Y (eV i)) := by
  refine pe_imp (L2.pe_var hN hv hd hcd) fun σ H Q q => ?_
  obtain ⟨τ, h, ρ, S, st, p⟩ := q
  unfold eV at p
  cases e : τ[i]? with
  | none => rw [e] at p; exact p.elim
  | some o => cases o with
    | none => rw [e] at p; exact p.elim
    | some w =>
      rw [e] at p
      obtain ⟨v, h1, h2⟩ := st.2 i w e
      exact ⟨v, h1, p.ok S h2⟩
theorem r_const {e : Expr} {w : W} {v : V} (h : L2.PE X e (L2.tC v)) (r : ∀ n ρ H, RV Y.Γ Y.K n ρ H w v) : L2.PE X e (rE Y (eC w)) :=
  pe_imp h fun σ H Q ⟨τ, h, ρ, S, st, p⟩ => Post.ok p S (r _ _ _)
theorem r_int {i : Int} {j pos} : L2.PE X (.Constant (.int i) j pos) (rE Y (eC (.int i))) := r_const L2.pe_int fun _ _ _ => by unfold RV; rfl
theorem r_bl {b : Bool} {j pos} : L2.PE X (.Constant (.bool b) j pos) (rE Y (eC (.bl b))) := r_const L2.pe_bl fun _ _ _ => by unfold RV; rfl
theorem r_non {j pos} : L2.PE X (.Constant .none j pos) (rE Y (eC .non)) := r_const L2.pe_non fun _ _ _ => by unfold RV; rfl
theorem r_str {x : Str} {s : List Nat} {j pos} (e : x = SX.S s) : L2.PE X (.Constant (.str x) j pos) (rE Y (eC (.str s))) := r_const L2.pe_str fun _ _ _ => by unfold RV; rw [e]
theorem r_fn {x : Str} {k : Nat} {pos : Pos} (hg : L2.Gl X x) (hm : X.mg x = some (.ref (Y.Γ.fa k))) (hk : k < Y.Γ.nf) (hd : (x == ("__debug__" : Str)) = false := by decide) : L2.PE X (.Name x pos) (rE Y (eC (.fn k))) :=
  r_const (L2.pe_glob (v := .ref (Y.Γ.fa k)) hg hm rfl hd) fun _ _ _ => by unfold RV; exact ⟨hk, rfl⟩

/-! ### what a value is -/
section
variable {Γ : Gam} {K : Fg} {n : Nat} {ρ : Nat → Addr} {H : Hp} {v : V}
theorem RV.non_ (h : RV Γ K n ρ H .non v) : v = .non := by unfold RV at h; exact h
theorem RV.bl_ {b : Bool} (h : RV Γ K n ρ H (.bl b) v) : v = .bl b := by unfold RV at h; exact h
theorem RV.int_ {i : Int} (h : RV Γ K n ρ H (.int i) v) : v = .int i := by unfold RV at h; exact h
theorem RV.str_ {s : List Nat} (h : RV Γ K n ρ H (.str s) v) : v = .str (SX.S s) := by unfold RV at h; exact h
theorem RV.tup_ {xs : List W} (h : RV Γ K n ρ H (.tup xs) v) : ∃ a vs, v = .ref a ∧ H a = some (.tup vs) ∧ A2 (RV Γ K n ρ H) xs vs := by
  unfold RV at h; obtain ⟨a, vs, h1, h2, h3⟩ := h; exact ⟨a, vs, h1, h2, RVs_iff.mp h3⟩
theorem RV.ref_ {a : Nat} (h : RV Γ K n ρ H (.ref a) v) : a < n ∧ v = .ref (ρ a) := by unfold RV at h; exact h
theorem RV.mkNon : RV Γ K n ρ H .non .non := by unfold RV; rfl
theorem RV.mkBl {b : Bool} : RV Γ K n ρ H (.bl b) (.bl b) := by unfold RV; rfl
theorem RV.mkInt {i : Int} : RV Γ K n ρ H (.int i) (.int i) := by unfold RV; rfl
theorem RV.mkStr {s : List Nat} : RV Γ K n ρ H (.str s) (.str (SX.S s)) := by unfold RV; rfl
theorem RV.mkTup {xs : List W} {a : Addr} {vs : List V} (h : H a = some (.tup vs)) (r : A2 (RV Γ K n ρ H) xs vs) : RV Γ K n ρ H (.tup xs) (.ref a) := by
  unfold RV; exact ⟨a, vs, rfl, h, RVs_iff.mpr r⟩
theorem RV.mkRef {a : Nat} (h : a < n) : RV Γ K n ρ H (.ref a) (.ref (ρ a)) := by unfold RV; exact ⟨h, rfl⟩
end
theorem fits_iff {α : Type} {xs : List α} : fits xs = true ↔ xs.length ≤ sizeLine := by
  unfold fits line; rw [sizeLine_eq, Nat.ble_eq]
theorem fitsS_iff {α : Type} {xs : List α} : fitsS xs = true ↔ xs.length < sizeLine := by
  unfold fitsS line; rw [sizeLine_eq, Nat.blt_eq]
theorem ble_line {n : Nat} : Nat.ble n line = true ↔ n ≤ sizeLine := by
  unfold line; rw [sizeLine_eq, Nat.ble_eq]
/-- a new list at the machine's next address -/
theorem Post.list {σ : L2.St} {h : Hh} {ρ : Nat → Addr} {H : Hp} {ws : List W} {vs : List V} {Q : V → Hp → Prop} (p : Post Y (RW Y) σ h.n ρ H (.ok (.ref h.n) (h.push (.lst ws))) Q) (S : Sim Y.Γ Y.K h ρ H) (r : A2 (RV Y.Γ Y.K h.n ρ H) ws vs) :
    ∀ a, H a = none → Q (.ref a) (L2.upd H a (.lst vs)) := fun a ha => by
  have e := p (ext ρ h.n a) (L2.upd H a (.lst vs)) (.ref (ext ρ h.n a h.n)) (ext_new ha) (S.new ha ⟨vs, L2.upd_same, r.up (ext_new ha)⟩) (RV.mkRef (Nat.lt_succ_self _))
  rw [ext_same] at e
  exact e
/-- a new tuple -/
theorem Post.tuple {σ : L2.St} {h : Hh} {ρ : Nat → Addr} {H : Hp} {ws : List W} {vs : List V} {Q : V → Hp → Prop} (p : Post Y (RW Y) σ h.n ρ H (.ok (.tup ws) h) Q) (S : Sim Y.Γ Y.K h ρ H) (r : A2 (RV Y.Γ Y.K h.n ρ H) ws vs) :
    ∀ a, H a = none → Q (.ref a) (L2.upd H a (.tup vs)) := fun a ha =>
  p ρ (L2.upd H a (.tup vs)) (.ref a) (ext_tup ha) (S.tup ha) (RV.mkTup L2.upd_same (r.imp fun _ _ q => q.mono (ext_tup ha)))
theorem Sim.lstOf {h : Hh} {ρ : Nat → Addr} {H : Hp} {Γ : Gam} {K : Fg} {a : Nat} {xs : List W} (S : Sim Γ K h ρ H) (e : h.get a = some (.lst xs)) : ∃ vs, H (ρ a) = some (.lst vs) ∧ A2 (RV Γ K h.n ρ H) xs vs := S.obj a _ e
theorem Sim.seqOf {h : Hh} {ρ : Nat → Addr} {H : Hp} {Γ : Gam} {K : Fg} {a : Nat} {xs : List W} (S : Sim Γ K h ρ H) (e : h.lstAt a = some xs) : ∃ vs, L2.SqL K H (ρ a) vs ∧ A2 (RV Γ K h.n ρ H) xs vs := by
  unfold Hh.lstAt at e
  cases g : h.get a with
  | none => rw [g] at e; cases e
  | some o =>
    rw [g] at e
    cases o with
    | lst ys => cases e; obtain ⟨vs, h1, h2⟩ := S.obj a _ g; exact ⟨vs, .inl (.inl h1), h2⟩
    | ro ys => cases e; obtain ⟨vs, h1, h2⟩ := S.obj a _ g; exact ⟨vs, h1.sq, h2⟩
    | _ => cases e

/-! ### operators -/
/-- a two-place operation of the machine -/
def Bi (Y : Yv) (m : W → W → Hh → R W) (r : L2.R2) : Prop :=
  ∀ (σ : L2.St) (h : Hh) (ρ : Nat → Addr) (H : Hp) (a b : W) (x y : V) (Q : L2.VK), Sim Y.Γ Y.K h ρ H → RV Y.Γ Y.K h.n ρ H a x → RV Y.Γ Y.K h.n ρ H b y → Post Y (RW Y) σ h.n ρ H (m a b h) Q → r x y H Q
theorem tOp_of {a b : E} {m : W → W → Hh → R W} {r : L2.R2} (hm : Bi Y m r) (σ : L2.St) (H : Hp) (Q : L2.VK)
    (q : rE Y (fun c τ h => (a c τ h).bind fun x h => (b c τ h).bind fun y h => m x y h) σ H Q) : L2.tOp r (rE Y a) (rE Y b) σ H Q := by
  obtain ⟨τ, h, ρ, S, st, p⟩ := q
  refine ⟨τ, h, ρ, S, st, p.bind.mono ?_⟩
  rintro x H1 ⟨w1, h1, ρ1, e1, S1, r1, _, p1⟩
  refine ⟨τ, h1, ρ1, S1, st.mono e1, p1.bind.mono ?_⟩
  rintro y H2 ⟨w2, h2, ρ2, e2, S2, r2, _, p2⟩
  exact hm σ h2 ρ2 H2 w1 w2 x y Q S2 (r1.mono e2) r2 p2
def opOf : Op → Operator
  | .add => .Add
  | .sub => .Sub
  | .mul => .Mult
  | .fdiv => .FloorDiv
  | .mod => .Mod
  | .pow => .Pow
def rBin (K : Fg) : Op → L2.R2
  | .add => fun x y H Q => L2.rI0 (fun i j => .int (i + j)) x y H Q ∨ (∃ i j, x = .str i ∧ y = .str j ∧ i.length + j.length ≤ sizeLine ∧ Q (.str (i ++ j)) H) ∨ L2.rCat x y H Q ∨ L2.rCatT K x y H Q
  | .sub => L2.rI0 fun i j => .int (i - j)
  | .mul => fun x y H Q => L2.rI L2.CMul (fun i j => .int (i * j)) x y H Q ∨ L2.rI L2.CMulW (fun i j => .int (i * j)) x y H Q ∨ L2.rRep x y H Q ∨ (∃ z k, x = .str z ∧ y = .int k ∧ MulOk z k ∧ Q (.str (Txt.mul z k)) H)
  | .fdiv => L2.rI L2.CDivW fun i j => .int (i / j)
  | .mod => L2.rI (fun _ j => 0 < j) fun i j => .int (i % j)
  | .pow => L2.rI L2.CPow fun i j => .int (i ^ j.toNat)
theorem op_mul_str : L2.OpR X (binaryOp .Mult) (fun x y H Q => ∃ z k, x = .str z ∧ y = .int k ∧ MulOk z k ∧ Q (.str (Txt.mul z k)) H) := by
  intro pins s σ H x y v u Q I rx ry h
  obtain ⟨z, k, rfl, rfl, ok, q⟩ := h
  obtain ⟨t, rfl⟩ := rx
  obtain ⟨t', rfl⟩ := ry
  exact SB.mul ok fun t' k' => ⟨.str (Txt.mul z k), H, I.tok _, ⟨_, rfl⟩, q⟩
theorem op_bin (o : Op) : L2.OpR X (binaryOp (opOf o)) (rBin X.K o) := by
  cases o with
  | add => exact L2.op_add.or (L2.op_add_str.or (L2.op_cat.or L2.op_catT))
  | sub => exact L2.op_sub
  | mul => exact L2.op_mul.or (L2.op_mulW.or (L2.op_rep.or op_mul_str))
  | fdiv => exact L2.op_fdivW
  | mod => exact L2.op_mod
  | pow => exact L2.op_pow
theorem foldl_app (x : Array Nat) : ∀ (k : Nat) (acc : Array Nat), (List.replicate k x).foldl (· ++ ·) acc = (acc.toList ++ (List.replicate k x.toList).flatten).toArray
  | 0, acc => by simp
  | k + 1, acc => by
    rw [List.replicate_succ, List.foldl_cons, foldl_app x k]
    simp [List.replicate_succ]
theorem mul_S (s : List Nat) {k : Int} (h : 0 ≤ k) : Txt.mul (SX.S s) k = SX.S (List.replicate k.toNat s).flatten := by
  unfold Txt.mul
  by_cases h1 : k < 1
  · have : k = 0 := by omega
    subst this
    simp [SX.S, Str.empty]
  · rw [if_neg h1]
    have hk : 0 < k.toNat := by omega
    by_cases h2 : (k == 1 || (SX.S s).length == 0) = true
    · rw [if_pos h2]
      rw [SX.S_len] at h2
      simp only [Bool.or_eq_true, beq_iff_eq] at h2
      rcases h2 with rfl | h2
      · simp
      · have : s = [] := List.eq_nil_of_length_eq_zero h2
        subst this
        simp
    · rw [if_neg h2, foldl_app]
      simp [SX.S]
theorem mulOk_S {s : List Nat} {k : Int} (h0 : 0 ≤ k) (h1 : k < 4294967296) (h2 : s.length * k.toNat ≤ sizeLine) : MulOk (SX.S s) k := by
  refine ⟨?_, fun a b c => ?_, fun a b => ?_⟩
  · simp only [Bool.or_eq_false_iff, decide_eq_false_iff_not]
    omega
  · rw [SX.S_len] at c
    have hk : 0 < k := by omega
    have h3 : (s.length : Int) * k ≤ 16777216 := by
      have : ((s.length * k.toNat : Nat) : Int) ≤ (sizeLine : Nat) := Int.ofNat_le.mpr h2
      rw [sizeLine_eq] at this
      rw [Int.natCast_mul, Int.toNat_of_nonneg h0] at this
      exact this
    have h4 : (2 ^ 63 - 1) / k * k > (2 ^ 63 - 1) - k := by
      have := Int.emod_add_mul_ediv (2 ^ 63 - 1) k
      have h5 := Int.emod_lt_of_pos (2 ^ 63 - 1) hk
      rw [Int.mul_comm] at this
      omega
    have h5 : (s.length : Int) * k > (2 ^ 63 - 1) / k * k := Int.mul_lt_mul_of_pos_right c hk
    omega
  · rw [SX.S_len]
    unfold Builtin.Str.tooLong
    simp only [decide_eq_false_iff_not]
    rw [sizeLine_eq] at h2
    first | omega | (rw [sizeLine_eq]; omega)
theorem small_iff {i : Int} (h : small i = true) : -(2 ^ 64) < i ∧ i < 2 ^ 64 := by
  unfold small at h
  simp only [Bool.and_eq_true, decide_eq_true_eq] at h
  omega
theorem bi_bin (o : Op) : Bi Y (bin o) (rBin Y.K o) := by
  intro σ h ρ H a b x y Q S ra rb p
  cases o with
  | add =>
    cases a with
    | int i => cases b with
      | int j => exact .inl ⟨i, j, ra.int_, rb.int_, Post.ok p S RV.mkInt⟩
      | _ => exact p.elim
    | str s => cases b with
      | str t =>
        simp only [bin] at p
        split at p
        · rename_i hl
          refine .inr (.inl ⟨_, _, ra.str_, rb.str_, ?_, ?_⟩)
          · rw [SX.S_len, SX.S_len]; exact ble_line.mp hl
          · rw [SX.S_cat]; exact Post.ok p S RV.mkStr
        · exact p.elim
      | _ => exact p.elim
    | ref m => cases b with
      | ref k =>
        simp only [bin] at p
        split at p
        · rename_i xs ys e1 e2
          split at p
          · rename_i hl
            obtain ⟨vs, h1, h2⟩ := S.lstOf e1
            obtain ⟨us, h3, h4⟩ := S.lstOf e2
            refine .inr (.inr (.inl ⟨_, _, vs, us, ra.ref_.2, rb.ref_.2, h1, h3, ?_, Post.list p S (h2.app h4)⟩))
            rw [← h2.len, ← h4.len]; exact ble_line.mp hl
          · exact p.elim
        · exact p.elim
      | _ => exact p.elim
    | tup xs => cases b with
      | tup ys => cases xs with
        | nil => exact p.elim
        | cons x xs =>
          simp only [bin] at p
          split at p
          · rename_i hl
            obtain ⟨a1, vs, h1, h2, h3⟩ := ra.tup_
            obtain ⟨a2, us, h4, h5, h6⟩ := rb.tup_
            have hne : vs ≠ [] := by rintro rfl; exact h3.elim
            refine .inr (.inr (.inr ⟨a1, a2, vs, us, h1, h4, .of h2, .of h5, hne, ?_, fun e => ?_, fun _ => Post.tuple p S (h3.app h6)⟩))
            · rw [← h3.len, ← h6.len]; exact ble_line.mp hl
            · subst e
              rw [A2.nil_iff'] at h6
              subst h6
              have e2 : x :: (xs ++ []) = x :: xs := by rw [List.append_nil]
              rw [e2] at p
              exact Post.ok p S (h1 ▸ ra)
          · exact p.elim
      | _ => cases xs <;> exact p.elim
    | _ => exact p.elim
  | sub =>
    cases a with
    | int i => cases b with
      | int j => exact ⟨i, j, ra.int_, rb.int_, Post.ok p S RV.mkInt⟩
      | _ => exact p.elim
    | _ => exact p.elim
  | mul =>
    cases a with
    | int i => cases b with
      | int j =>
        simp only [bin] at p
        split at p
        · rename_i hc
          have q := Post.ok p S (RV.mkInt (i := i * j))
          simp only [Bool.or_eq_true] at hc
          rcases hc with (hc | hc) | hc
          · exact .inl ⟨i, j, ra.int_, rb.int_, .inl (small_iff hc), q⟩
          · exact .inl ⟨i, j, ra.int_, rb.int_, .inr (small_iff hc), q⟩
          · refine .inr (.inl ⟨i, j, ra.int_, rb.int_, ?_, q⟩)
            unfold wide at hc
            rw [Nat.blt_eq] at hc
            show _ < _
            omega
        · exact p.elim
      | _ => exact p.elim
    | str s => cases b with
      | int k =>
        simp only [bin] at p
        split at p
        · rename_i hc
          simp only [Bool.and_eq_true, decide_eq_true_eq, ble_line] at hc
          refine .inr (.inr (.inr ⟨_, _, ra.str_, rb.int_, mulOk_S hc.1.1 hc.1.2 hc.2, ?_⟩))
          rw [mul_S s hc.1.1]
          exact Post.ok p S RV.mkStr
        · exact p.elim
      | _ => exact p.elim
    | ref m => cases b with
      | int k =>
        simp only [bin] at p
        split at p
        · rename_i xs e1
          split at p
          · rename_i hc
            simp only [Bool.and_eq_true, decide_eq_true_eq, ble_line] at hc
            obtain ⟨vs, h1, h2⟩ := S.lstOf e1
            refine .inr (.inr (.inl ⟨_, _, vs, ra.ref_.2, rb.int_, h1, by omega, by omega, ?_, Post.list p S (h2.rep _)⟩))
            rw [← h2.len]; exact hc.2
          · exact p.elim
        · exact p.elim
      | _ => exact p.elim
    | _ => exact p.elim
  | fdiv =>
    cases a with
    | int i => cases b with
      | int j =>
        simp only [bin] at p
        split at p
        · rename_i hc
          simp only [Bool.and_eq_true, decide_eq_true_eq, Nat.blt_eq] at hc
          exact ⟨i, j, ra.int_, rb.int_, hc, Post.ok p S RV.mkInt⟩
        · exact p.elim
      | _ => exact p.elim
    | _ => exact p.elim
  | mod =>
    cases a with
    | int i => cases b with
      | int j =>
        simp only [bin] at p
        split at p
        · rename_i hc
          exact ⟨i, j, ra.int_, rb.int_, of_decide_eq_true hc, Post.ok p S RV.mkInt⟩
        · exact p.elim
      | _ => exact p.elim
    | _ => exact p.elim
  | pow =>
    cases a with
    | int i => cases b with
      | int j =>
        simp only [bin] at p
        split at p
        · rename_i hc
          simp only [Bool.and_eq_true, decide_eq_true_eq] at hc
          have := small_iff hc.2
          exact ⟨i, j, ra.int_, rb.int_, ⟨hc.1.1, hc.1.2, by omega⟩, Post.ok p S RV.mkInt⟩
        · exact p.elim
      | _ => exact p.elim
    | _ => exact p.elim
theorem r_bin (hK : X.K = Y.K) {o : Op} {a b : Expr} {ma mb : E} {pos : Pos} (ha : L2.PE X a (rE Y ma)) (hb : L2.PE X b (rE Y mb)) : L2.PE X (.BinOp a (opOf o) b pos) (rE Y (eBin o ma mb)) :=
  pe_imp (L2.pe_op (op_bin o) ha hb) (hK ▸ tOp_of (bi_bin o))
theorem r_neg {a : Expr} {ma : E} {pos : Pos} (ha : L2.PE X a (rE Y ma)) : L2.PE X (.UnaryOp .USub a pos) (rE Y (eNeg ma)) := by
  refine pe_imp (L2.pe_un L2.un_neg ha) fun σ H Q q => ?_
  obtain ⟨τ, h, ρ, S, st, p⟩ := q
  refine ⟨τ, h, ρ, S, st, p.bind.mono ?_⟩
  rintro x H1 ⟨w1, h1, ρ1, e1, S1, r1, _, p1⟩
  cases w1 with
  | int i => exact ⟨i, r1.int_, Post.ok p1 S1 RV.mkInt⟩
  | _ => exact p1.elim
end
end PV

set_option Elab.async false
set_option linter.all false
set_option autoImplicit false
set_option maxRecDepth 100000
set_option maxHeartbeats 2000000
/-! Snd3: comparisons, tests, displays, places, slices. -/
namespace PV
open PySem

/-! ### data -/
mutual
def toPy : Dt → PyData
  | .non => .none
  | .bl b => .bool b
  | .int i => .int i
  | .str s => .str (SX.S s)
  | .lst xs => .list (toPys xs)
  | .tup xs => .tuple (toPys xs)
def toPys : List Dt → List PyData
  | [] => []
  | x :: xs => toPy x :: toPys xs
end
mutual
theorem eqv_py : ∀ d e : Dt, Dt.eqv d e = PyData.eqv (toPy d) (toPy e)
  | .non, e => by cases e <;> simp [Dt.eqv, toPy, PyData.eqv]
  | .bl b, e => by cases e <;> simp [Dt.eqv, toPy, PyData.eqv]
  | .int i, e => by cases e <;> simp [Dt.eqv, toPy, PyData.eqv]
  | .str s, e => by cases e <;> simp [Dt.eqv, toPy, PyData.eqv, SX.S_beq]
  | .lst xs, e => by
    cases e with
    | lst ys => simp only [Dt.eqv, toPy, PyData.eqv]; exact eqvs_py xs ys
    | _ => simp [Dt.eqv, toPy, PyData.eqv]
  | .tup xs, e => by
    cases e with
    | tup ys => simp only [Dt.eqv, toPy, PyData.eqv]; exact eqvs_py xs ys
    | _ => simp [Dt.eqv, toPy, PyData.eqv]
theorem eqvs_py : ∀ d e : List Dt, Dt.eqvs d e = PyData.eqvAll (toPys d) (toPys e)
  | [], [] => by simp [Dt.eqvs, toPys, PyData.eqvAll]
  | [], _ :: _ => by simp [Dt.eqvs, toPys, PyData.eqvAll]
  | _ :: _, [] => by simp [Dt.eqvs, toPys, PyData.eqvAll]
  | x :: xs, y :: ys => by simp only [Dt.eqvs, toPys, PyData.eqvAll]; rw [eqv_py x y, eqvs_py xs ys]
end
theorem toPys_map : ∀ ds : List Dt, toPys ds = ds.map toPy
  | [] => by simp [toPys]
  | d :: ds => by simp [toPys, toPys_map ds]
theorem mapO_some {α β : Type} {f : α → Option β} : ∀ {xs : List α} {ys : List β}, mapO f xs = some ys → A2 (fun x y => f x = some y) xs ys
  | [], ys, h => by simp only [mapO, Option.some.injEq] at h; subst h; trivial
  | x :: xs, ys, h => by
    unfold mapO at h
    cases e : f x with
    | none => rw [e] at h; cases h
    | some d =>
      rw [e] at h
      simp only at h
      cases e2 : mapO f xs with
      | none => rw [e2] at h; cases h
      | some ds => rw [e2] at h; cases h; exact ⟨e, mapO_some e2⟩
theorem strOk_S {s : List Nat} (h : (s.all fun c => Nat.blt c 1114112) = true) : PyData.strOk (SX.S s) = true := by
  unfold PyData.strOk SX.S
  simp only [List.all_toArray] 
  rw [List.all_eq_true] at h ⊢
  intro c hc
  have := h c hc
  rw [Nat.blt_eq] at this
  exact decide_eq_true this
section
variable {Γ : Gam} {K : Fg} {h : Hh} {ρ : Nat → Addr} {H : Hp}
theorem dp_of (S : Sim Γ K h ρ H) : ∀ (n : Nat) (w : W) (d : Dt) (v : V), toD h n w = some d → RV Γ K h.n ρ H w v → L2.Dp K H v (toPy d) ∧ (toPy d).canLay0 = true ∧ (toPy d).depth ≤ n
  | 0, w, d, v, e, r => by unfold toD at e; cases e
  | n + 1, w, d, v, e, r => by
    have many : ∀ {ws : List W} {ds : List Dt} {vs : List V}, A2 (fun x y => toD h n x = some y) ws ds → A2 (RV Γ K h.n ρ H) ws vs → L2.DpAll K H vs (toPys ds) ∧ PyData.canLayAll0 (toPys ds) = true ∧ PyData.depthAll (toPys ds) ≤ n := by
      intro ws
      induction ws with
      | nil =>
        intro ds vs a b
        rw [A2.nil_iff] at a b
        subst a; subst b
        simp only [toPys, PyData.canLayAll0, PyData.depthAll]
        exact ⟨.nil, trivial, Nat.zero_le _⟩
      | cons x xs ih =>
        intro ds vs a b
        rw [A2.cons_iff] at a b
        obtain ⟨y, ys, rfl, a1, a2⟩ := a
        obtain ⟨v, us, rfl, b1, b2⟩ := b
        obtain ⟨i1, i2, i3⟩ := ih a2 b2
        obtain ⟨j1, j2, j3⟩ := dp_of S n x y v a1 b1
        simp only [toPys, PyData.canLayAll0, PyData.depthAll]
        exact ⟨.cons j1 i1, by rw [j2, i2]; rfl, Nat.max_le.mpr ⟨j3, i3⟩⟩
    unfold toD at e
    cases w with
    | non => cases e; rw [r.non_]; unfold toPy; exact ⟨.non, by simp [PyData.canLay0], by simp [PyData.depth]⟩
    | bl b => cases e; rw [r.bl_]; unfold toPy; exact ⟨.bl b, by simp [PyData.canLay0], by simp [PyData.depth]⟩
    | int i => cases e; rw [r.int_]; unfold toPy; exact ⟨.int i, by simp [PyData.canLay0], by simp [PyData.depth]⟩
    | str s =>
      simp only at e
      split at e
      · rename_i hs
        cases e
        rw [r.str_]; unfold toPy
        exact ⟨.str _, by simp only [PyData.canLay0]; exact strOk_S hs, by simp [PyData.depth]⟩
      · cases e
    | tup xs =>
      simp only at e
      cases e2 : mapO (toD h n) xs with
      | none => rw [e2] at e; cases e
      | some ds =>
        rw [e2] at e; cases e
        obtain ⟨a, vs, rfl, h2, h3⟩ := r.tup_
        obtain ⟨i1, i2, i3⟩ := many (mapO_some e2) h3
        unfold toPy
        refine ⟨.tup (.of h2) i1, by simp only [PyData.canLay0]; exact i2, by simp only [PyData.depth]; omega⟩
    | ref a =>
      simp only at e
      cases e1 : h.lstAt a with
      | none => rw [e1] at e; cases e
      | some xs =>
        rw [e1] at e
        simp only at e
        cases e2 : mapO (toD h n) xs with
        | none => rw [e2] at e; cases e
        | some ds =>
          rw [e2] at e; cases e
          obtain ⟨vs, h2, h3⟩ := S.seqOf e1
          obtain ⟨i1, i2, i3⟩ := many (mapO_some e2) h3
          rw [r.ref_.2]
          unfold toPy
          refine ⟨.lst h2 i1, by simp only [PyData.canLay0]; exact i2, by simp only [PyData.depth]; omega⟩
    | _ => cases e
theorem shaped_of {d : Dt} (h1 : (toPy d).canLay0 = true) (h2 : (toPy d).depth ≤ 60) : SeqAt.shaped (toPy d) = true := by
  unfold SeqAt.shaped
  rw [h1, decide_eq_true (by omega)]
  rfl
/-- == as the hand layer reads it -/
theorem eqW_of (S : Sim Γ K h ρ H) {a b : W} {x y : V} {r : Bool} (ra : RV Γ K h.n ρ H a x) (rb : RV Γ K h.n ρ H b y) (e : eqW h a b = some r) :
    (L2.scal x y = true ∧ decide (x = y) = r) ∨ ∃ d e, L2.Dp K H x d ∧ L2.Dp K H y e ∧ SeqAt.shaped d = true ∧ SeqAt.shaped e = true ∧ PyData.eqv d e = r := by
  have deep : eqD h a b = some r → ∃ d e, L2.Dp K H x d ∧ L2.Dp K H y e ∧ SeqAt.shaped d = true ∧ SeqAt.shaped e = true ∧ PyData.eqv d e = r := by
    intro e
    unfold eqD at e
    cases e1 : toD h 60 a with
    | none => rw [e1] at e; cases e
    | some d =>
      cases e2 : toD h 60 b with
      | none => rw [e1, e2] at e; cases e
      | some d' =>
        rw [e1, e2] at e
        cases e
        obtain ⟨i1, i2, i3⟩ := dp_of S 60 a d x e1 ra
        obtain ⟨j1, j2, j3⟩ := dp_of S 60 b d' y e2 rb
        exact ⟨_, _, i1, j1, shaped_of i2 i3, shaped_of j2 j3, (eqv_py d d').symm⟩
  unfold eqW at e
  split at e
  · cases e
    rw [ra.int_, rb.int_]
    exact .inl ⟨rfl, L2.dec_int⟩
  · cases e
    rw [ra.non_, rb.non_]
    exact .inl ⟨rfl, by simp⟩
  · cases e
    rw [ra.bl_, rb.bl_]
    exact .inl ⟨rfl, L2.dec_bl⟩
  · cases e
    rw [ra.str_, rb.str_]
    exact .inl ⟨rfl, by rw [L2.dec_str, SX.S_beq]⟩
  · exact .inr (deep e)
end

theorem ltS_iff : ∀ a b : List Nat, ltS a b = decide (a < b)
  | [], [] => by simp [ltS]
  | [], b :: bs => by simp [ltS]
  | a :: as, [] => by simp [ltS]
  | a :: as, b :: bs => by
    unfold ltS
    simp only [List.cons_lt_cons_iff]
    by_cases e : a = b
    · subst e
      simp [ltS_iff as bs]
    · have : Nat.beq a b = false := by
        cases q : Nat.beq a b with
        | false => rfl
        | true => exact absurd (Nat.eq_of_beq_eq_true q) e
      rw [this]
      simp only [Bool.false_eq_true, if_false, e, false_and, or_false]
      cases q : Nat.blt a b with
      | true => rw [Nat.blt_eq] at q; exact (decide_eq_true q).symm
      | false =>
        have : ¬ a < b := fun z => by rw [← Nat.blt_eq] at z; rw [z] at q; cases q
        exact (decide_eq_false this).symm

section
variable {X : L2.Cx} {Y : Yv}
theorem isE_iff {s : List Nat} : ((s.length : Int) != 0) = !s.isEmpty := by
  cases s with
  | nil => rfl
  | cons a s =>
    simp only [List.length_cons, List.isEmpty_cons, Bool.not_false, bne_iff_ne, ne_eq]
    omega

/-! ### comparisons -/
def coOf : Co → CmpOp
  | .eq => .Eq
  | .ne => .NotEq
  | .lt => .Lt
  | .le => .LtE
  | .gt => .Gt
  | .ge => .GtE
  | .inn => .In
  | .nin => .NotIn
  | .isn => .Is
  | .nisn => .IsNot
def rDin : L2.R2 := fun y x H Q => ∃ a o, x = .ref a ∧ L2.DGet H a y o ∧ Q (.bl o.isSome) H
def rDnin : L2.R2 := fun y x H Q => ∃ a o, x = .ref a ∧ L2.DGet H a y o ∧ Q (.bl (!o.isSome)) H
theorem op_din (hu : X.A.units + 1 < cLine) : L2.OpR X (compareOp .In) rDin := by
  intro pins s σ H y x u v Q I ry rx h
  obtain ⟨a, o, rfl, g, q⟩ := h
  obtain rfl : v = Value.ref a := rx
  exact L2.d_in hu I g ry fun s' I' => ⟨.bl o.isSome, H, I', rfl, q⟩
theorem op_dnin (hu : X.A.units + 1 < cLine) : L2.OpR X (compareOp .NotIn) rDnin := by
  intro pins s σ H y x u v Q I ry rx h
  obtain ⟨a, o, rfl, g, q⟩ := h
  obtain rfl : v = Value.ref a := rx
  exact L2.d_notIn hu I g ry fun s' I' => ⟨.bl (!o.isSome), H, I', rfl, q⟩
def rCo (K : Fg) : Co → L2.R2
  | .eq => fun x y H Q => L2.rEq x y H Q ∨ L2.rEqD K x y H Q
  | .ne => fun x y H Q => L2.rNe x y H Q ∨ L2.rNeD K x y H Q
  | .lt => fun x y H Q => L2.rI0 (fun i j => .bl (decide (i < j))) x y H Q ∨ ∃ i j, x = .str i ∧ y = .str j ∧ Q (.bl (decide (i.cps.toList < j.cps.toList))) H
  | .le => fun x y H Q => L2.rI0 (fun i j => .bl (decide (i ≤ j))) x y H Q ∨ ∃ i j, x = .str i ∧ y = .str j ∧ Q (.bl (!decide (j.cps.toList < i.cps.toList))) H
  | .gt => fun x y H Q => L2.rI0 (fun i j => .bl (decide (j < i))) x y H Q ∨ ∃ i j, x = .str i ∧ y = .str j ∧ Q (.bl (decide (j.cps.toList < i.cps.toList))) H
  | .ge => fun x y H Q => L2.rI0 (fun i j => .bl (decide (j ≤ i))) x y H Q ∨ ∃ i j, x = .str i ∧ y = .str j ∧ Q (.bl (!decide (i.cps.toList < j.cps.toList))) H
  | .inn => fun x y H Q => (∃ (c : Nat) (z : Str), x = .str ⟨#[c]⟩ ∧ y = .str z ∧ Q (.bl (decide (c ∈ z.cps.toList))) H) ∨ L2.rIn K false x y H Q ∨ L2.rInD K x y H Q ∨ rDin x y H Q
  | .nin => fun x y H Q => (∃ (c : Nat) (z : Str), x = .str ⟨#[c]⟩ ∧ y = .str z ∧ Q (.bl (!decide (c ∈ z.cps.toList))) H) ∨ L2.rIn K true x y H Q ∨ L2.rNotInD K x y H Q ∨ rDnin x y H Q
  | .isn => fun x y H Q => y = .non ∧ Q (.bl (decide (x = .non))) H
  | .nisn => fun x y H Q => y = .non ∧ Q (.bl (!decide (x = .non))) H
theorem op_co (hu : X.A.units + 65 < cLine) (o : Co) : L2.OpR X (compareOp (coOf o)) (rCo X.K o) := by
  cases o with
  | eq => exact L2.op_eq.or (L2.op_eqD (by omega))
  | ne => exact L2.op_ne.or (L2.op_neD (by omega))
  | lt => exact L2.op_lt.or L2.op_lt_str
  | le => exact L2.op_le.or L2.op_le_str
  | gt => exact L2.op_gt.or L2.op_gt_str
  | ge => exact L2.op_ge.or L2.op_ge_str
  | inn => exact L2.op_in_sign.or (L2.op_in_seq.or ((L2.op_inD hu).or (op_din (by omega))))
  | nin => exact L2.op_notIn_sign.or (L2.op_notIn_seq.or ((L2.op_notInD hu).or (op_dnin (by omega))))
  | isn => exact L2.op_isN
  | nisn => exact L2.op_notN

section
variable {Γ : Gam} {K : Fg} {h : Hh} {n : Nat} {ρ : Nat → Addr} {H : Hp}
theorem flat_of {w : W} {v : V} (r : RV Γ K n ρ H w v) (f : flat w = true) : L2.flatV v = true := by
  cases w with
  | non => rw [r.non_]; rfl
  | bl b => rw [r.bl_]; rfl
  | int i => rw [r.int_]; rfl
  | str s => rw [r.str_]; rfl
  | _ => cases f
theorem eqFlat_of {w u : W} {v x : V} (r : RV Γ K n ρ H w v) (q : RV Γ K n ρ H u x) (f : flat w = true) (g : flat u = true) : L2.eqV v x = eqFlat w u := by
  cases w <;> first
    | (cases f; done)
    | (cases u <;> first
        | (cases g; done)
        | (first | rw [r.non_] | rw [r.bl_] | rw [r.int_] | rw [r.str_]) <;> (first | rw [q.non_] | rw [q.bl_] | rw [q.int_] | rw [q.str_]) <;> first | rfl | exact SX.S_beq _ _)
theorem allFlat_of : ∀ {ws : List W} {vs : List V}, A2 (RV Γ K n ρ H) ws vs → ws.all flat = true → vs.all L2.flatV = true
  | [], vs, r, _ => by rw [A2.nil_iff] at r; subst r; rfl
  | w :: ws, vs, r, f => by
    rw [A2.cons_iff] at r
    obtain ⟨v, us, rfl, r1, r2⟩ := r
    simp only [List.all_cons, Bool.and_eq_true] at f ⊢
    exact ⟨flat_of r1 f.1, allFlat_of r2 f.2⟩
theorem inV_of {w : W} {x : V} (rx : RV Γ K n ρ H w x) (fx : flat w = true) : ∀ {ws : List W} {vs : List V}, A2 (RV Γ K n ρ H) ws vs → ws.all flat = true → L2.inV x vs = ws.any fun y => eqFlat y w
  | [], vs, r, _ => by rw [A2.nil_iff] at r; subst r; rfl
  | u :: ws, vs, r, f => by
    rw [A2.cons_iff] at r
    obtain ⟨v, us, rfl, r1, r2⟩ := r
    simp only [List.all_cons, Bool.and_eq_true] at f
    have ih := inV_of rx fx r2 f.2
    unfold L2.inV at ih ⊢
    simp only [List.any_cons]
    rw [ih, eqFlat_of r1 rx f.1 fx]
/-- keys -/
theorem kV_of {w : W} {v : V} (r : RV Γ K n ρ H w v) (k : isKey w = true) : ∃ q, keyV w = some q ∧ v = L2.kV q := by
  cases w with
  | int i => exact ⟨.inl i, rfl, r.int_⟩
  | str s => exact ⟨.inr (SX.S s), rfl, r.str_⟩
  | _ => cases k
theorem kVs_of {w : W} {v : V} (r : RV Γ K n ρ H w v) (k : isKeyT w = true) : ∃ q b, keyVs w = some q ∧ v = .ref b ∧ H b = some (.tup (q.map L2.kV)) := by
  cases w with
  | tup xs =>
    obtain ⟨a, vs, rfl, h2, h3⟩ := r.tup_
    have hk : xs.all isKey = true := k
    have main : ∀ {xs : List W} {vs : List V}, A2 (RV Γ K n ρ H) xs vs → xs.all isKey = true → ∃ q, mapO keyV xs = some q ∧ vs = q.map L2.kV := by
      intro xs
      induction xs with
      | nil => intro vs r _; rw [A2.nil_iff] at r; subst r; exact ⟨[], rfl, rfl⟩
      | cons x xs ih =>
        intro vs r k
        rw [A2.cons_iff] at r
        obtain ⟨v, us, rfl, r1, r2⟩ := r
        simp only [List.all_cons, Bool.and_eq_true] at k
        obtain ⟨q, e1, e2⟩ := ih r2 k.2
        obtain ⟨p, e3, e4⟩ := kV_of r1 k.1
        refine ⟨p :: q, ?_, by rw [e4, e2]; rfl⟩
        unfold mapO
        rw [e3]; simp only; rw [e1]
    obtain ⟨q, e1, e2⟩ := main h3 hk
    exact ⟨q, a, e1, rfl, by rw [h2, e2]⟩
  | _ => cases k
theorem keyV_inj {a b : W} {q : L2.Key} (h1 : keyV a = some q) (h2 : keyV b = some q) : a = b := by
  cases a <;> simp only [keyV] at h1 <;> first | (cases h1; done) | (cases b <;> simp only [keyV] at h2 <;> first | (cases h2; done) | skip)
  · cases h1; cases h2; rfl
  · cases h1; cases h2
  · cases h1; cases h2
  · cases h1
    have := Option.some.inj h2
    have := SX.S_inj (Sum.inr.inj this)
    rw [this]
theorem keyVs_inj {a b : W} {q : List L2.Key} (h1 : keyVs a = some q) (h2 : keyVs b = some q) : a = b := by
  have main : ∀ {xs ys : List W} {q : List L2.Key}, mapO keyV xs = some q → mapO keyV ys = some q → xs = ys := by
    intro xs
    induction xs with
    | nil =>
      intro ys q h1 h2
      cases h1
      have := mapO_some h2
      rw [A2.nil_iff'] at this
      exact this.symm
    | cons x xs ih =>
      intro ys q h1 h2
      have a1 := mapO_some h1
      have a2 := mapO_some h2
      rw [A2.cons_iff] at a1
      obtain ⟨k, r, rfl, e1, e2⟩ := a1
      cases ys with
      | nil => exact a2.elim
      | cons y ys =>
        have e3 : keyV y = some k := a2.1
        rw [keyV_inj e1 e3]
        unfold mapO at h1 h2
        rw [e1] at h1
        rw [e3] at h2
        simp only at h1 h2
        cases f1 : mapO keyV xs with
        | none => rw [f1] at h1; cases h1
        | some q1 => cases f2 : mapO keyV ys with
          | none => rw [f2] at h2; cases h2
          | some q2 =>
            rw [f1] at h1
            rw [f2] at h2
            have g1 : q1 = r := by simpa using h1
            have g2 : q2 = r := by simpa using h2
            rw [ih f1 (by rw [f2, g1, g2])]
  cases a with
  | tup xs => cases b with
    | tup ys => rw [main h1 h2]
    | _ => cases h2
  | _ => cases h1
/-- what a dict holds -/
theorem look_of {κ : Type} [DecidableEq κ] {kf : W → Option κ} (inj : ∀ {a b : W} {q : κ}, kf a = some q → kf b = some q → a = b) {k : W} {q : κ} (hk : kf k = some q) :
    ∀ {kvs : List (W × W)} {ks : List (κ × V)}, A2 (fun (p : W × W) (r : κ × V) => kf p.1 = some r.1 ∧ RV Γ K n ρ H p.2 r.2) kvs ks →
      (look k kvs = none ∧ L2.valV ks q = none) ∨ ∃ w v, look k kvs = some w ∧ L2.valV ks q = some v ∧ RV Γ K n ρ H w v
  | [], ks, r => by rw [A2.nil_iff] at r; subst r; exact .inl ⟨rfl, rfl⟩
  | (k', w) :: kvs, ks, r => by
    rw [A2.cons_iff] at r
    obtain ⟨⟨q', v⟩, us, rfl, ⟨r1, r2⟩, r3⟩ := r
    unfold look
    by_cases e : q' = q
    · subst e
      have : k' = k := inj r1 hk
      subst this
      rw [W.beq_refl, L2.valV_pos (p := (q', v)) rfl]
      exact .inr ⟨w, v, rfl, rfl, r2⟩
    · have hb : W.beq k' k = false := by
        cases z : W.beq k' k with
        | false => rfl
        | true =>
          rw [W.beq_eq z] at r1
          rw [hk] at r1
          exact absurd (Option.some.inj r1).symm e
      rw [hb, L2.valV_neg (p := (q', v)) e]
      exact look_of inj hk r3
theorem put_of {κ : Type} [DecidableEq κ] {kf : W → Option κ} (inj : ∀ {a b : W} {q : κ}, kf a = some q → kf b = some q → a = b) {k x : W} {q : κ} {v : V} (hk : kf k = some q) (hv : RV Γ K n ρ H x v)
    {kvs : List (W × W)} {ks : List (κ × V)} (r : A2 (fun (p : W × W) (r : κ × V) => kf p.1 = some r.1 ∧ RV Γ K n ρ H p.2 r.2) kvs ks) :
    A2 (fun (p : W × W) (r : κ × V) => kf p.1 = some r.1 ∧ RV Γ K n ρ H p.2 r.2) (put k x kvs) (L2.putK ks q v) := by
  have beq : ∀ {k' : W} {q' : κ}, kf k' = some q' → W.beq k' k = decide (q' = q) := by
    intro k' q' e
    by_cases z : q' = q
    · subst z; rw [inj e hk, W.beq_refl, decide_eq_true rfl]
    · rw [decide_eq_false z]
      cases y : W.beq k' k with
      | false => rfl
      | true =>
        rw [W.beq_eq y] at e
        rw [hk] at e
        exact absurd (Option.some.inj e).symm z
  have hany : ∀ {kvs : List (W × W)} {ks : List (κ × V)}, A2 (fun (p : W × W) (r : κ × V) => kf p.1 = some r.1 ∧ RV Γ K n ρ H p.2 r.2) kvs ks → (kvs.any fun kv => W.beq kv.1 k) = ks.any fun kv => decide (kv.1 = q) := by
    intro kvs
    induction kvs with
    | nil => intro ks r; rw [A2.nil_iff] at r; subst r; rfl
    | cons p kvs ih =>
      intro ks r
      rw [A2.cons_iff] at r
      obtain ⟨p', us, rfl, r1, r3⟩ := r
      simp only [List.any_cons, ih r3, beq r1.1]
  have hmap : ∀ {kvs : List (W × W)} {ks : List (κ × V)}, A2 (fun (p : W × W) (r : κ × V) => kf p.1 = some r.1 ∧ RV Γ K n ρ H p.2 r.2) kvs ks →
      A2 (fun (p : W × W) (r : κ × V) => kf p.1 = some r.1 ∧ RV Γ K n ρ H p.2 r.2) (kvs.map fun kv => if W.beq kv.1 k then (kv.1, x) else kv) (ks.map fun kv => if kv.1 = q then (kv.1, v) else kv) := by
    intro kvs
    induction kvs with
    | nil => intro ks r; rw [A2.nil_iff] at r; subst r; trivial
    | cons p kvs ih =>
      intro ks r
      rw [A2.cons_iff] at r
      obtain ⟨p', us, rfl, r1, r3⟩ := r
      refine ⟨?_, ih r3⟩
      dsimp only
      rw [beq r1.1]
      by_cases z : p'.1 = q
      · simp only [z, decide_true, if_true]
        exact ⟨by rw [← z]; exact r1.1, hv⟩
      · simp only [z, decide_false, if_false]
        exact r1
  unfold put L2.putK
  rw [hany r]
  split
  · exact hmap r
  · exact r.app ⟨⟨hk, hv⟩, trivial⟩
theorem mem_any {c : Nat} {s : List Nat} : (s.any fun d => Nat.beq d c) = decide (c ∈ s) := by
  induction s with
  | nil => simp
  | cons d s ih =>
    rw [List.any_cons, ih]
    by_cases e : d = c
    · subst e; simp
    · have : Nat.beq d c = false := by
        cases q : Nat.beq d c with
        | false => rfl
        | true => exact absurd (Nat.eq_of_beq_eq_true q) e
      simp [this, Ne.symm e]
/-- in -/
theorem inW_of (S : Sim Γ K h ρ H) {a b : W} {x y : V} {r : Bool} (ra : RV Γ K h.n ρ H a x) (rb : RV Γ K h.n ρ H b y) (e : inW a b h = some r) {Q : L2.VK} (q : Q (.bl r) H) :
    (∃ (c : Nat) (z : Str), x = .str ⟨#[c]⟩ ∧ y = .str z ∧ Q (.bl (decide (c ∈ z.cps.toList))) H) ∨ L2.rIn K false x y H Q ∨ L2.rInD K x y H Q ∨ rDin x y H Q := by
  have seq : ∀ {p : Addr} {xs : List W} {vs : List V}, y = .ref p → (L2.SqL K H p vs ∨ L2.SqT K H p vs) → A2 (RV Γ K h.n ρ H) xs vs → inFlat a xs = some r → L2.rIn K false x y H Q := by
    intro p xs vs e1 e2 e3 e4
    unfold inFlat at e4
    split at e4
    · rename_i hf
      simp only [Bool.and_eq_true] at hf
      cases e4
      refine ⟨p, vs, e1, e2, flat_of ra hf.1, allFlat_of e3 hf.2, ?_⟩
      rw [inV_of ra hf.1 e3 hf.2]
      exact q
    · cases e4
  have seqL : ∀ {p : Addr} {xs : List W} {vs : List V}, y = .ref p → L2.SqL K H p vs → A2 (RV Γ K h.n ρ H) xs vs → inL h a xs = some r → L2.rIn K false x y H Q ∨ L2.rInD K x y H Q := by
    intro p xs vs e1 e2 e3 e4
    unfold inL at e4
    split at e4
    · rename_i hf
      exact .inl (seq e1 (.inl e2) e3 (by unfold inFlat; rw [if_pos hf]; exact e4))
    · unfold inDeep at e4
      cases f1 : toD h 60 a with
      | none => rw [f1] at e4; cases e4
      | some d => cases f2 : mapO (toD h 60) xs with
        | none => rw [f1, f2] at e4; cases e4
        | some ds =>
          rw [f1, f2] at e4
          cases e4
          obtain ⟨i1, i2, i3⟩ := dp_of S 60 a d x f1 ra
          have many : ∀ {ws : List W} {ds : List Dt} {vs : List V}, A2 (fun x y => toD h 60 x = some y) ws ds → A2 (RV Γ K h.n ρ H) ws vs → L2.DpAll K H vs (toPys ds) ∧ PyData.canLayAll0 (toPys ds) = true ∧ PyData.depthAll (toPys ds) ≤ 60 := by
            intro ws
            induction ws with
            | nil =>
              intro ds vs a b
              rw [A2.nil_iff] at a b
              subst a; subst b
              simp only [toPys, PyData.canLayAll0, PyData.depthAll]
              exact ⟨.nil, trivial, Nat.zero_le _⟩
            | cons x xs ih =>
              intro ds vs a b
              rw [A2.cons_iff] at a b
              obtain ⟨y, ys, rfl, a1, a2⟩ := a
              obtain ⟨v, us, rfl, b1, b2⟩ := b
              obtain ⟨i1, i2, i3⟩ := ih a2 b2
              obtain ⟨j1, j2, j3⟩ := dp_of S 60 x y v a1 b1
              simp only [toPys, PyData.canLayAll0, PyData.depthAll]
              exact ⟨.cons j1 i1, by rw [j2, i2]; rfl, Nat.max_le.mpr ⟨j3, i3⟩⟩
          obtain ⟨j1, j2, j3⟩ := many (mapO_some f2) e3
          refine .inr ⟨toPy d, toPys ds, i1, by rw [e1]; exact .lst e2 j1, shaped_of i2 i3, ?_, ?_⟩
          · unfold SeqAt.shaped
            simp only [PyData.canLay0, PyData.depth, j2, Bool.true_and]
            exact decide_eq_true (by omega)
          · have : (toPys ds).any (fun z => PyData.eqv z (toPy d)) = ds.any fun z => Dt.eqv z d := by
              rw [toPys_map, List.any_map]
              congr 1
              funext z
              exact (eqv_py z d).symm
            rw [this]
            exact q
  unfold inW at e
  cases b with
  | str s =>
    simp only at e
    split at e
    · cases e
      rename_i c
      refine .inl ⟨c, SX.S s, ra.str_, rb.str_, ?_⟩
      have : decide (c ∈ (SX.S s).cps.toList) = (s.any fun d => Nat.beq d c) := mem_any.symm
      rw [this]; exact q
    · cases e
  | tup xs =>
    obtain ⟨p, vs, h1, h2, h3⟩ := rb.tup_
    exact .inr (.inl (seq h1 (.inr (.of h2)) h3 e))
  | ref p =>
    simp only at e
    cases g : h.get p with
    | none => rw [g] at e; cases e
    | some o =>
      rw [g] at e
      cases o with
      | lst xs =>
        obtain ⟨vs, h1, h2⟩ := S.obj p _ g
        rcases seqL rb.ref_.2 (.inl (.inl h1)) h2 e with z | z
        · exact .inr (.inl z)
        · exact .inr (.inr (.inl z))
      | ro xs =>
        obtain ⟨vs, h1, h2⟩ := S.obj p _ g
        rcases seqL rb.ref_.2 h1.sq h2 e with z | z
        · exact .inr (.inl z)
        · exact .inr (.inr (.inl z))
      | dk kvs =>
        simp only at e
        split at e
        · rename_i hk
          cases e
          obtain ⟨ks, h1, h2⟩ := S.obj p _ g
          obtain ⟨qk, e1, e2⟩ := kV_of ra hk
          refine .inr (.inr (.inr ⟨ρ p, L2.valV ks qk, rb.ref_.2, by rw [e2]; exact .k h1, ?_⟩))
          rcases look_of keyV_inj e1 h2 with ⟨l1, l2⟩ | ⟨w, v, l1, l2, _⟩
          · rw [l1] at q; rw [l2]; exact q
          · rw [l1] at q; rw [l2]; exact q
        · cases e
      | dt kvs =>
        simp only at e
        split at e
        · rename_i hk
          cases e
          obtain ⟨ks, h1, h2⟩ := S.obj p _ g
          obtain ⟨qk, b, e1, e2, e3⟩ := kVs_of ra hk
          refine .inr (.inr (.inr ⟨ρ p, L2.valV ks qk, rb.ref_.2, by rw [e2]; exact .t h1 e3, ?_⟩))
          rcases look_of keyVs_inj e1 h2 with ⟨l1, l2⟩ | ⟨w, v, l1, l2, _⟩
          · rw [l1] at q; rw [l2]; exact q
          · rw [l1] at q; rw [l2]; exact q
        · cases e
      | _ => cases e
  | _ => cases e
end
end
end PV

set_option Elab.async false
set_option linter.all false
set_option autoImplicit false
set_option maxRecDepth 100000
set_option maxHeartbeats 2000000
/-! Snd4: comparisons, tests, displays, places, slices: the rules. -/
namespace PV
open PySem
section
variable {X : L2.Cx} {Y : Yv}
theorem isN_of {Γ : Gam} {K : Fg} {n : Nat} {ρ : Nat → Addr} {H : Hp} {w : W} {v : V} (r : RV Γ K n ρ H w v) : decide (v = .non) = isNonW w := by
  cases w with
  | non => rw [r.non_]; rfl
  | bl b => rw [r.bl_]; rfl
  | int i => rw [r.int_]; rfl
  | str s => rw [r.str_]; rfl
  | tup xs => obtain ⟨a, vs, rfl, _⟩ := r.tup_; rfl
  | ref a => rw [r.ref_.2]; rfl
  | fn k => unfold RV at r; rw [r.2]; rfl
/-- a comparison, by what the machine says -/
theorem co_of (o : Co) {h : Hh} {ρ : Nat → Addr} {H : Hp} {a b : W} {x y : V} {r : Bool} {Q : L2.VK} (S : Sim Y.Γ Y.K h ρ H) (ra : RV Y.Γ Y.K h.n ρ H a x) (rb : RV Y.Γ Y.K h.n ρ H b y) (e : cmp o a b h = some r) (q : Q (.bl r) H) : rCo Y.K o x y H Q := by
  have ordI : ∀ {i j : Int}, a = .int i → b = .int j → x = .int i ∧ y = .int j := by
    rintro i j rfl rfl; exact ⟨ra.int_, rb.int_⟩
  have ordS : ∀ {s t : List Nat}, a = .str s → b = .str t → x = .str (SX.S s) ∧ y = .str (SX.S t) := by
    rintro s t rfl rfl; exact ⟨ra.str_, rb.str_⟩
  cases o with
  | eq =>
    rcases eqW_of S ra rb e with ⟨h1, h2⟩ | ⟨d, d', h1, h2, h3, h4, h5⟩
    · exact .inl ⟨h1, by rw [h2]; exact q⟩
    · exact .inr ⟨d, d', h1, h2, h3, h4, by rw [h5]; exact q⟩
  | ne =>
    simp only [cmp] at e
    cases e1 : eqW h a b with
    | none => rw [e1] at e; cases e
    | some k =>
      rw [e1] at e
      cases e
      rcases eqW_of S ra rb e1 with ⟨h1, h2⟩ | ⟨d, d', h1, h2, h3, h4, h5⟩
      · exact .inl ⟨h1, by rw [h2]; exact q⟩
      · exact .inr ⟨d, d', h1, h2, h3, h4, by rw [h5]; exact q⟩
  | lt =>
    simp only [cmp] at e
    split at e
    · cases e; obtain ⟨h1, h2⟩ := ordI rfl rfl; exact .inl ⟨_, _, h1, h2, q⟩
    · cases e; obtain ⟨h1, h2⟩ := ordS rfl rfl; refine .inr ⟨_, _, h1, h2, ?_⟩; rw [ltS_iff] at q; exact q
    · cases e
  | le =>
    simp only [cmp] at e
    split at e
    · cases e; obtain ⟨h1, h2⟩ := ordI rfl rfl; exact .inl ⟨_, _, h1, h2, q⟩
    · cases e; obtain ⟨h1, h2⟩ := ordS rfl rfl; refine .inr ⟨_, _, h1, h2, ?_⟩; rw [ltS_iff] at q; exact q
    · cases e
  | gt =>
    simp only [cmp] at e
    split at e
    · cases e; obtain ⟨h1, h2⟩ := ordI rfl rfl; exact .inl ⟨_, _, h1, h2, q⟩
    · cases e; obtain ⟨h1, h2⟩ := ordS rfl rfl; refine .inr ⟨_, _, h1, h2, ?_⟩; rw [ltS_iff] at q; exact q
    · cases e
  | ge =>
    simp only [cmp] at e
    split at e
    · cases e; obtain ⟨h1, h2⟩ := ordI rfl rfl; exact .inl ⟨_, _, h1, h2, q⟩
    · cases e; obtain ⟨h1, h2⟩ := ordS rfl rfl; refine .inr ⟨_, _, h1, h2, ?_⟩; rw [ltS_iff] at q; exact q
    · cases e
  | inn => exact inW_of S ra rb e q
  | nin =>
    simp only [cmp] at e
    cases e1 : inW a b h with
    | none => rw [e1] at e; cases e
    | some k =>
      rw [e1] at e
      cases e
      have q' : (fun (v : V) (H' : Hp) => ∃ r, v = .bl r ∧ Q (.bl (!r)) H') (.bl k) H := ⟨k, rfl, q⟩
      rcases inW_of (Q := fun (v : V) (H' : Hp) => ∃ r, v = .bl r ∧ Q (.bl (!r)) H') S ra rb e1 q' with ⟨c, z, h1, h2, r, h3, h4⟩ | ⟨p, xs, h1, h2, h3, h4, r, h5, h6⟩ | ⟨d, ds, h1, h2, h3, h4, r, h5, h6⟩ | ⟨p, o, h1, h2, r, h3, h4⟩
      · cases h3; exact .inl ⟨c, z, h1, h2, h4⟩
      · cases h5; exact .inr (.inl ⟨p, xs, h1, h2, h3, h4, h6⟩)
      · cases h5; exact .inr (.inr (.inl ⟨d, ds, h1, h2, h3, h4, h6⟩))
      · cases h3; exact .inr (.inr (.inr ⟨p, o, h1, h2, h4⟩))
  | isn =>
    cases b with
    | non =>
      simp only [cmp] at e
      refine ⟨rb.non_, ?_⟩
      rw [isN_of ra]
      cases e; exact q
    | _ => cases e
  | nisn =>
    cases b with
    | non =>
      simp only [cmp] at e
      refine ⟨rb.non_, ?_⟩
      rw [isN_of ra]
      cases e; exact q
    | _ => cases e
theorem bi_cmp (o : Co) : Bi Y (cmpR o) (rCo Y.K o) := by
  intro σ h ρ H a b x y Q S ra rb p
  unfold cmpR at p
  cases e : cmp o a b h with
  | none => rw [e] at p; exact p.elim
  | some r => rw [e] at p; exact co_of o S ra rb e (Post.ok p S RV.mkBl)
theorem r_cmp (hK : X.K = Y.K) (hu : X.A.units + 65 < cLine) {o : Co} {a b : Expr} {ma mb : E} {pos : Pos} (ha : L2.PE X a (rE Y ma)) (hb : L2.PE X b (rE Y mb)) (hm : behindInMarks (coOf o) b = false) :
    L2.PE X (.Compare a [coOf o] [b] pos) (rE Y (eCmp o ma mb)) :=
  pe_imp (L2.pe_cmpR (op_co hu o) ha hb hm) (hK ▸ tOp_of (bi_cmp o))
theorem r_chain (hK : X.K = Y.K) (hu : X.A.units + 65 < cLine) {o o' : Co} {a b d : Expr} {ma mb md : E} {pos : Pos} (ha : L2.PE X a (rE Y ma)) (hb : L2.PE X b (rE Y mb)) (hd : L2.PE X d (rE Y md))
    (hm : lastMarks [coOf o, coOf o'] [b, d] = false) : L2.PE X (.Compare a [coOf o, coOf o'] [b, d] pos) (rE Y (eChain o o' ma mb md)) := by
  refine pe_imp (L2.pe_chain (op_co hu o) (op_co hu o') ha hb hd hm) fun σ H Q q => ?_
  rw [hK]
  obtain ⟨τ, h, ρ, S, st, p⟩ := q
  refine ⟨τ, h, ρ, S, st, p.bind.mono ?_⟩
  rintro x H1 ⟨w1, h1, ρ1, e1, S1, r1, _, p1⟩
  refine ⟨τ, h1, ρ1, S1, st.mono e1, p1.bind.mono ?_⟩
  rintro y H2 ⟨w2, h2, ρ2, e2, S2, r2, _, p2⟩
  cases e : cmp o w1 w2 h2 with
  | none => rw [e] at p2; exact p2.elim
  | some k =>
    rw [e] at p2
    refine co_of o S2 (r1.mono e2) r2 e ⟨k, rfl, ?_⟩
    cases k with
    | false => exact Post.ok p2 S2 RV.mkBl
    | true =>
      refine ⟨τ, h2, ρ2, S2, (st.mono e1).mono e2, p2.bind.mono ?_⟩
      rintro z H3 ⟨w3, h3, ρ3, e3, S3, r3, _, p3⟩
      exact bi_cmp o' σ h3 ρ3 H3 w2 w3 y z Q S3 (r2.mono e3) r3 p3

/-! ### and, or, not -/
theorem r_eone {op : BoolOp} {a : Expr} {pos : Pos} {m : E} (h : L2.PE X a (rE Y m)) : L2.PE X (.BoolOp op [a] pos) (rE Y m) := L2.pe_one h
theorem r_eand {a b : Expr} {rest : List Expr} {ma mb : E} {pos : Pos} (ha : L2.PE X a (rE Y ma)) (hb : L2.PE X (.BoolOp .And (b :: rest) pos) (rE Y mb)) : L2.PE X (.BoolOp .And (a :: b :: rest) pos) (rE Y (eAnd ma mb)) := by
  refine pe_imp (L2.pe_and ha hb) fun σ H Q q => ?_
  obtain ⟨τ, h, ρ, S, st, p⟩ := q
  refine ⟨τ, h, ρ, S, st, p.bind.mono ?_⟩
  rintro x H1 ⟨w1, h1, ρ1, e1, S1, r1, _, p1⟩
  cases w1 with
  | bl k => cases k with
    | true => exact ⟨true, r1.bl_, ⟨τ, h1, ρ1, S1, st.mono e1, p1⟩⟩
    | false => exact ⟨false, r1.bl_, Post.ok p1 S1 RV.mkBl⟩
  | _ => exact p1.elim
theorem r_eor {a b : Expr} {rest : List Expr} {ma mb : E} {pos : Pos} (ha : L2.PE X a (rE Y ma)) (hb : L2.PE X (.BoolOp .Or (b :: rest) pos) (rE Y mb)) : L2.PE X (.BoolOp .Or (a :: b :: rest) pos) (rE Y (eOr ma mb)) := by
  refine pe_imp (L2.pe_or ha hb) fun σ H Q q => ?_
  obtain ⟨τ, h, ρ, S, st, p⟩ := q
  refine ⟨τ, h, ρ, S, st, p.bind.mono ?_⟩
  rintro x H1 ⟨w1, h1, ρ1, e1, S1, r1, _, p1⟩
  cases w1 with
  | bl k => cases k with
    | false => exact ⟨false, r1.bl_, ⟨τ, h1, ρ1, S1, st.mono e1, p1⟩⟩
    | true => exact ⟨true, r1.bl_, Post.ok p1 S1 RV.mkBl⟩
  | _ => exact p1.elim
theorem truth_of {h : Hh} {ρ : Nat → Addr} {H : Hp} {w : W} {v : V} {k : Bool} (S : Sim Y.Γ Y.K h ρ H) (r : RV Y.Γ Y.K h.n ρ H w v) (e : truth w h = some k) : L2.TruV Y.K v H k := by
  cases w with
  | non => rw [r.non_]; cases e; rfl
  | bl b => rw [r.bl_]; cases e; rfl
  | int i => rw [r.int_]; cases e; rfl
  | str s =>
    rw [r.str_]
    unfold truth at e
    simp only at e
    split at e
    · rename_i hf
      cases e
      exact ⟨by rw [SX.S_len]; exact fits_iff.mp hf, by rw [SX.S_len]; exact isE_iff.symm⟩
    · cases e
  | tup xs =>
    obtain ⟨a, vs, rfl, h2, h3⟩ := r.tup_
    cases e
    exact .inr (.inl ⟨vs, .of h2, by rw [h3.isEmpty]⟩)
  | ref a =>
    unfold truth at e
    simp only at e
    cases e1 : h.lstAt a with
    | none => rw [e1] at e; cases e
    | some xs =>
      rw [e1] at e
      cases e
      obtain ⟨vs, h1, h2⟩ := S.seqOf e1
      rw [r.ref_.2]
      exact .inl ⟨vs, h1, by rw [h2.isEmpty]⟩
  | _ => cases e
/-- a test by a value's truth, as a reading of the value -/
theorem tE_of {m : E} {σ : L2.St} {H : Hp} {Q : Bool → Hp → Prop} (q : rT Y (tE m) σ H Q) : rE Y m σ H fun x H' => ∃ k, L2.TruV Y.K x H' k ∧ Q k H' := by
  obtain ⟨τ, h, ρ, S, st, p⟩ := q
  refine ⟨τ, h, ρ, S, st, p.bind.mono ?_⟩
  rintro x H1 ⟨w1, h1, ρ1, e1, S1, r1, _, p1⟩
  cases e : truth w1 h1 with
  | none => rw [e] at p1; exact p1.elim
  | some k => rw [e] at p1; exact ⟨k, truth_of S1 r1 e, Post.ok p1 S1 rfl⟩
theorem r_tru (hK : X.K = Y.K) {a : Expr} {m : E} (ha : L2.PE X a (rE Y m)) (he : ∀ whole, isTrue a X.env whole = (do let v ← whole; standAt a.pos; holding [v] (truthy v))) : L2.PT X a (rT Y (tE m)) :=
  pt_imp (L2.pt_truth ha he) fun σ H Q q => by rw [hK]; exact tE_of q
theorem r_tcmp (hK : X.K = Y.K) (hu : X.A.units + 65 < cLine) {o : Co} {a b : Expr} {ma mb : E} {pos : Pos} (ha : L2.PE X a (rE Y ma)) (hb : L2.PE X b (rE Y mb)) (hm : behindInMarks (coOf o) b = false) :
    L2.PT X (.Compare a [coOf o] [b] pos) (rT Y (tE (eCmp o ma mb))) := by
  refine pt_imp (L2.pt_cmpR (op_co hu o) ha hb hm) fun σ H Q q => ?_
  rw [hK]
  obtain ⟨τ, h, ρ, S, st, p⟩ := q
  refine tOp_of (bi_cmp o) σ H _ ⟨τ, h, ρ, S, st, ?_⟩
  have p' := Post.bind (RA := RW Y) p
  unfold eCmp at p'
  refine p'.mono ?_
  rintro x H1 ⟨w1, h1, ρ1, e1, S1, r1, e0, p1⟩
  have hb : ∃ k, w1 = .bl k := by
    have hh : ∀ {w2 : W} {h2 : Hh}, ((ma Y.c τ h).bind fun x h => (mb Y.c τ h).bind fun y h => cmpR o x y h) = .ok w2 h2 → ∃ k, w2 = .bl k := by
      intro w2 h2 e
      cases f1 : ma Y.c τ h with
      | ok v1 g1 =>
        rw [f1] at e
        simp only [R.bind] at e
        cases f2 : mb Y.c τ g1 with
        | ok v2 g2 =>
          rw [f2] at e
          simp only [cmpR] at e
          split at e
          · cases e; exact ⟨_, rfl⟩
          · cases e
        | er _ _ _ => rw [f2] at e; cases e
        | bad => rw [f2] at e; cases e
      | er _ _ _ => rw [f1] at e; cases e
      | bad => rw [f1] at e; cases e
    exact hh e0
  obtain ⟨k, rfl⟩ := hb
  exact ⟨k, r1.bl_, Post.ok p1 S1 rfl⟩
theorem r_tchain (hK : X.K = Y.K) (hu : X.A.units + 65 < cLine) {o o' : Co} {a b d : Expr} {ma mb md : E} {pos : Pos} (ha : L2.PE X a (rE Y ma)) (hb : L2.PE X b (rE Y mb)) (hd : L2.PE X d (rE Y md))
    (hm : lastMarks [coOf o, coOf o'] [b, d] = false) : L2.PT X (.Compare a [coOf o, coOf o'] [b, d] pos) (rT Y (tE (eChain o o' ma mb md))) := by
  refine pt_imp (L2.pt_chain (op_co hu o) (op_co hu o') ha hb hd hm) fun σ H Q q => ?_
  rw [hK]
  obtain ⟨τ, h, ρ, S, st, p⟩ := q
  unfold tE eChain at p
  show L2.tChain _ _ _ _ _ σ H _
  have bnd : ∀ {r : R W} {f : W → Hh → R W} {g : W → Hh → R Bool}, (r.bind f).bind g = r.bind fun x h => (f x h).bind g := by
    intro r f g; cases r <;> rfl
  rw [bnd] at p
  refine ⟨τ, h, ρ, S, st, p.bind.mono ?_⟩
  rintro x H1 ⟨w1, h1, ρ1, e1, S1, r1, _, p1⟩
  rw [bnd] at p1
  refine ⟨τ, h1, ρ1, S1, st.mono e1, p1.bind.mono ?_⟩
  rintro y H2 ⟨w2, h2, ρ2, e2, S2, r2, _, p2⟩
  cases e : cmp o w1 w2 h2 with
  | none => rw [e] at p2; exact p2.elim
  | some k =>
    rw [e] at p2
    refine co_of o S2 (r1.mono e2) r2 e ⟨k, rfl, ?_⟩
    cases k with
    | false => exact ⟨false, rfl, Post.ok p2 S2 rfl⟩
    | true =>
      simp only at p2
      rw [bnd] at p2
      refine ⟨τ, h2, ρ2, S2, (st.mono e1).mono e2, p2.bind.mono ?_⟩
      rintro z H3 ⟨w3, h3, ρ3, e3, S3, r3, _, p3⟩
      unfold cmpR at p3
      cases e' : cmp o' w2 w3 h3 with
      | none => rw [e'] at p3; exact p3.elim
      | some k' =>
        rw [e'] at p3
        exact co_of o' S3 (r2.mono e3) r3 e' ⟨k', rfl, Post.ok p3 S3 rfl⟩
theorem r_wand1 {a : Expr} {m : T} {pos : Pos} (h : L2.PT X a (rT Y m)) : L2.PW X (.BoolOp .And [a] pos) (rT Y m) := L2.pw_and1 h
theorem r_wor1 {a : Expr} {m : T} {pos : Pos} (h : L2.PT X a (rT Y m)) : L2.PW X (.BoolOp .Or [a] pos) (rT Y m) := L2.pw_or1 h
theorem r_wand {a b : Expr} {rest : List Expr} {ma mb : T} {pos : Pos} (ha : L2.PT X a (rT Y ma)) (hb : L2.PW X (.BoolOp .And (b :: rest) pos) (rT Y mb)) : L2.PW X (.BoolOp .And (a :: b :: rest) pos) (rT Y (tAnd ma mb)) := by
  refine pw_imp (L2.pw_and ha hb) fun σ H Q q => ?_
  obtain ⟨τ, h, ρ, S, st, p⟩ := q
  refine ⟨τ, h, ρ, S, st, p.bind.mono ?_⟩
  rintro x H1 ⟨k, h1, ρ1, e1, S1, rfl, _, p1⟩
  cases k with
  | true => exact ⟨τ, h1, ρ1, S1, st.mono e1, p1⟩
  | false => exact Post.ok p1 S1 rfl
theorem r_wor {a b : Expr} {rest : List Expr} {ma mb : T} {pos : Pos} (ha : L2.PT X a (rT Y ma)) (hb : L2.PW X (.BoolOp .Or (b :: rest) pos) (rT Y mb)) : L2.PW X (.BoolOp .Or (a :: b :: rest) pos) (rT Y (tOr ma mb)) := by
  refine pw_imp (L2.pw_or ha hb) fun σ H Q q => ?_
  obtain ⟨τ, h, ρ, S, st, p⟩ := q
  refine ⟨τ, h, ρ, S, st, p.bind.mono ?_⟩
  rintro x H1 ⟨k, h1, ρ1, e1, S1, rfl, _, p1⟩
  cases k with
  | false => exact ⟨τ, h1, ρ1, S1, st.mono e1, p1⟩
  | true => exact Post.ok p1 S1 rfl
theorem r_tnot {a : Expr} {m : T} {pos : Pos} (h : L2.PT X a (rT Y m)) : L2.PT X (.UnaryOp .Not a pos) (rT Y (tNot m)) := by
  refine pt_imp (L2.pt_not h) fun σ H Q q => ?_
  obtain ⟨τ, h, ρ, S, st, p⟩ := q
  refine ⟨τ, h, ρ, S, st, p.bind.mono ?_⟩
  rintro x H1 ⟨k, h1, ρ1, e1, S1, rfl, _, p1⟩
  exact Post.ok p1 S1 rfl
theorem r_enot (hK : X.K = Y.K) {a : Expr} {m : E} {pos : Pos} (h : L2.PE X a (rE Y m)) : L2.PE X (.UnaryOp .Not a pos) (rE Y (eNotV m)) := by
  refine pe_imp (L2.pe_notT h) fun σ H Q q => ?_
  rw [hK]
  obtain ⟨τ, h, ρ, S, st, p⟩ := q
  refine ⟨τ, h, ρ, S, st, p.bind.mono ?_⟩
  rintro x H1 ⟨w1, h1, ρ1, e1, S1, r1, _, p1⟩
  cases e : truth w1 h1 with
  | none => rw [e] at p1; exact p1.elim
  | some k => rw [e] at p1; exact ⟨k, truth_of S1 r1 e, Post.ok p1 S1 RV.mkBl⟩
theorem r_if {c a b : Expr} {mc : T} {ma mb : E} {pos : Pos} (hc : L2.PT X c (rT Y mc)) (ha : L2.PE X a (rE Y ma)) (hb : L2.PE X b (rE Y mb)) : L2.PE X (.IfExp c a b pos) (rE Y (eIf mc ma mb)) := by
  refine pe_imp (L2.pe_ifExp hc ha hb) fun σ H Q q => ?_
  obtain ⟨τ, h, ρ, S, st, p⟩ := q
  refine ⟨τ, h, ρ, S, st, p.bind.mono ?_⟩
  rintro x H1 ⟨k, h1, ρ1, e1, S1, rfl, _, p1⟩
  cases k with
  | true => exact ⟨τ, h1, ρ1, S1, st.mono e1, p1⟩
  | false => exact ⟨τ, h1, ρ1, S1, st.mono e1, p1⟩

/-! ### arguments, displays -/
theorem ra_nil : L2.PA X [] (rA Y aNil) := pa_imp L2.pa_nil fun σ H Q ⟨τ, h, ρ, S, st, p⟩ => Post.ok p S trivial
theorem ra_cons {e : Expr} {es : List Expr} {m : E} {r : Es} (ha : L2.PE X e (rE Y m)) (hr : L2.PA X es (rA Y r)) (hs : starEach (e :: es) X.env = (false, eval e X.env) :: starEach es X.env := by rfl) : L2.PA X (e :: es) (rA Y (aCons m r)) := by
  refine pa_imp (L2.pa_cons ha hr hs) fun σ H Q q => ?_
  obtain ⟨τ, h, ρ, S, st, p⟩ := q
  refine ⟨τ, h, ρ, S, st, p.bind.mono ?_⟩
  rintro x H1 ⟨w1, h1, ρ1, e1, S1, r1, _, p1⟩
  refine ⟨τ, h1, ρ1, S1, st.mono e1, (Post.bind (RA := RWs Y) p1).mono ?_⟩
  rintro xs H2 ⟨ws, h2, ρ2, e2, S2, r2, _, p2⟩
  exact Post.ok p2 S2 ⟨r1.mono e2, r2⟩
theorem r_tup {es : List Expr} {m : Es} {k : Nat} {pos : Pos} (h : L2.PA X es (rA Y m)) : L2.PE X (.Tuple es k pos) (rE Y (eTup m)) := by
  refine pe_imp (L2.pe_tup h) fun σ H Q q => ?_
  obtain ⟨τ, h, ρ, S, st, p⟩ := q
  refine ⟨τ, h, ρ, S, st, (Post.bind (RA := RWs Y) p).mono ?_⟩
  rintro xs H1 ⟨ws, h1, ρ1, e1, S1, r1, _, p1⟩
  split at p1
  · rename_i hf
    exact ⟨by rw [← r1.len]; exact fits_iff.mp hf, Post.tuple p1 S1 r1⟩
  · exact p1.elim
theorem r_lst {es : List Expr} {m : Es} {pos : Pos} (h : L2.PA X es (rA Y m)) : L2.PE X (.List es pos) (rE Y (eLst m)) := by
  refine pe_imp (L2.pe_lst h) fun σ H Q q => ?_
  obtain ⟨τ, h, ρ, S, st, p⟩ := q
  refine ⟨τ, h, ρ, S, st, (Post.bind (RA := RWs Y) p).mono ?_⟩
  rintro xs H1 ⟨ws, h1, ρ1, e1, S1, r1, _, p1⟩
  split at p1
  · rename_i hf
    exact ⟨by rw [← r1.len]; exact fits_iff.mp hf, Post.list p1 S1 r1⟩
  · exact p1.elim

/-! ### places, slices -/
theorem ixN_eq (n : Nat) (i : Int) : ixN n i = L2.ixN n i := rfl
theorem atI_of {α β : Type} {R : α → β → Prop} {xs : List α} {ys : List β} (r : A2 R xs ys) {i : Int} {x : α} (e : atI xs i = some x) : ∃ y, L2.atI ys i = some y ∧ R x y := by
  unfold atI at e
  unfold L2.atI
  rw [← r.len, ← ixN_eq]
  cases q : ixN xs.length i with
  | none => rw [q] at e; cases e
  | some j =>
    rw [q] at e
    obtain ⟨y, h1, h2⟩ := r.get (i := j) e
    exact ⟨y, h1, h2⟩
theorem ix_dict (hu : X.A.units + 1 < cLine) : L2.IxR X (fun x y H Q => ∃ a v, x = .ref a ∧ L2.DGet H a y (some v) ∧ Q v H) := by
  intro value slice pins s σ H x y v u Q I rx ry h hs
  obtain ⟨a, z, rfl, g, q⟩ := h
  obtain rfl : v = Value.ref a := rx
  exact PyProof.Rows.tail_any (L2.dict_typeIs I g) PySem.F.slot_dict_getitem.lookup (L2.d_getItem hu I g ry fun w' s' I' r' => ⟨z, H, I', r', q⟩) hs
def rIdx (K : Fg) : L2.R2 := fun x y H Q => L2.rIx K x y H Q ∨ ∃ a v, x = .ref a ∧ L2.DGet H a y (some v) ∧ Q v H
theorem bi_idx : Bi Y idx (rIdx Y.K) := by
  intro σ h ρ H a b x y Q S ra rb p
  have seq : ∀ {xs : List W} {vs : List V} {i : Int} {pa : Addr}, x = .ref pa → b = .int i → (L2.SqL Y.K H pa vs ∨ L2.SqT Y.K H pa vs) → A2 (RV Y.Γ Y.K h.n ρ H) xs vs → Post Y (RW Y) σ h.n ρ H (R.opt (atI xs i) h) Q → rIdx Y.K x y H Q := by
    intro xs vs i pa e1 e2 e3 e4 e5
    subst e2
    cases f : atI xs i with
    | none => rw [f] at e5; exact e5.elim
    | some w =>
      rw [f] at e5
      obtain ⟨v, h1, h2⟩ := atI_of e4 f
      rcases e3 with e3 | e3
      · exact .inl (.inl ⟨pa, vs, i, v, e1, rb.int_, e3, h1, Post.ok e5 S h2⟩)
      · exact .inl (.inr (.inl ⟨pa, vs, i, v, e1, rb.int_, e3, h1, Post.ok e5 S h2⟩))
  unfold idx at p
  cases a with
  | str s => cases b with
    | int i =>
      simp only at p
      split at p
      · rename_i hf
        split at p
        · rename_i c e
          refine .inl (.inr (.inr ⟨SX.S s, i, c, ra.str_, rb.int_, by rw [SX.S_len]; exact fits_iff.mp hf, e, Post.ok p S RV.mkStr⟩))
        · exact p.elim
      · exact p.elim
    | _ => exact p.elim
  | tup xs => cases b with
    | int i =>
      obtain ⟨pa, vs, e1, e2, e3⟩ := ra.tup_
      exact seq e1 rfl (.inr (.of e2)) e3 p
    | _ => exact p.elim
  | ref m =>
    simp only at p
    cases g : h.get m with
    | none => rw [g] at p; exact p.elim
    | some o =>
      rw [g] at p
      cases o with
      | lst xs =>
        obtain ⟨vs, h1, h2⟩ := S.obj m _ g
        cases b with
        | int i => exact seq ra.ref_.2 rfl (.inl (.inl (.inl h1))) h2 p
        | _ => exact p.elim
      | ro xs =>
        obtain ⟨vs, h1, h2⟩ := S.obj m _ g
        cases b with
        | int i => exact seq ra.ref_.2 rfl (.inl h1.sq) h2 p
        | _ => exact p.elim
      | dk kvs =>
        obtain ⟨ks, h1, h2⟩ := S.obj m _ g
        simp only at p
        split at p
        · rename_i hk
          obtain ⟨qk, e1, e2⟩ := kV_of rb hk
          rcases look_of keyV_inj e1 h2 with ⟨l1, l2⟩ | ⟨w, v, l1, l2, l3⟩
          · rw [l1] at p; exact p.elim
          · rw [l1] at p
            exact .inr ⟨ρ m, v, ra.ref_.2, by rw [e2, ← l2]; exact .k h1, Post.ok p S l3⟩
        · exact p.elim
      | dt kvs =>
        obtain ⟨ks, h1, h2⟩ := S.obj m _ g
        simp only at p
        split at p
        · rename_i hk
          obtain ⟨qk, c, e1, e2, e3⟩ := kVs_of rb hk
          rcases look_of keyVs_inj e1 h2 with ⟨l1, l2⟩ | ⟨w, v, l1, l2, l3⟩
          · rw [l1] at p; exact p.elim
          · rw [l1] at p
            exact .inr ⟨ρ m, v, ra.ref_.2, by rw [e2, ← l2]; exact .t h1 e3, Post.ok p S l3⟩
        · exact p.elim
      | _ => exact p.elim
  | _ => cases b <;> exact p.elim
theorem r_ix (hK : X.K = Y.K) (hu : X.A.units + 65 < cLine) {a b : Expr} {ma mb : E} {pos : Pos} (ha : L2.PE X a (rE Y ma)) (hb : L2.PE X b (rE Y mb)) (hs : L2.PlainIx b) : L2.PE X (.Subscript a b pos) (rE Y (eIx ma mb)) :=
  pe_imp (L2.pe_ix (L2.ix_seq.or (ix_dict (by omega))) ha hb hs) (fun σ H Q q => by have := tOp_of bi_idx σ H Q q; rw [← hK] at this; exact this)
abbrev rP (Y : Yv) (m : P) : L2.TO := TR Y RO m
theorem po_imp {e : Option Expr} {t t' : L2.TO} (h : L2.PO X e t) (i : ∀ σ H Q, t' σ H Q → t σ H Q) : L2.PO X e t' := ⟨fun pins s σ H Q I q => h.run pins s σ H Q I (i σ H Q q)⟩
theorem rp_none : L2.PO X none (rP Y pN) := po_imp L2.po_none fun σ H Q ⟨τ, h, ρ, S, st, p⟩ => Post.ok p S rfl
theorem rp_some {e : Expr} {m : E} (h : L2.PE X e (rE Y m)) : L2.PO X (some e) (rP Y (pS m)) := by
  refine po_imp (L2.po_some h) fun σ H Q q => ?_
  obtain ⟨τ, h, ρ, S, st, p⟩ := q
  refine ⟨τ, h, ρ, S, st, p.bind.mono ?_⟩
  rintro x H1 ⟨w1, h1, ρ1, e1, S1, r1, _, p1⟩
  cases w1 with
  | int i => exact ⟨i, r1.int_, Post.ok p1 S1 rfl⟩
  | _ => exact p1.elim
theorem clip_eq (n d : Nat) (o : Option Int) : clip n d o = HT.sIx n d o := by cases o <;> rfl
theorem cut_of {xs : List W} {vs : List V} {R : W → V → Prop} (r : A2 R xs vs) (lo hi : Option Int) : A2 R (cut xs lo hi) (L2.cutV vs lo hi) := by
  unfold cut L2.cutV
  rw [clip_eq, clip_eq, r.len]
  exact (r.drop _).take _
theorem cutS_of (s : List Nat) (lo hi : Option Int) : L2.cutS (SX.S s) lo hi = SX.S (cut s lo hi) := by
  unfold L2.cutS cut
  rw [clip_eq, clip_eq, SX.S_len]
def rSli (K : Fg) : V → Option Int → Option Int → Hp → L2.VK → Prop := fun x lo hi H Q => L2.rSlS x lo hi H Q ∨ L2.rSlT K x lo hi H Q ∨ L2.rSlL K x lo hi H Q
theorem slice_of {σ : L2.St} {h : Hh} {ρ : Nat → Addr} {H : Hp} {w : W} {x : V} {lo hi : Option Int} {Q : L2.VK} (S : Sim Y.Γ Y.K h ρ H) (r : RV Y.Γ Y.K h.n ρ H w x) (p : Post Y (RW Y) σ h.n ρ H (slice w lo hi h) Q) : rSli Y.K x lo hi H Q := by
  unfold slice at p
  cases w with
  | str s =>
    simp only at p
    split at p
    · rename_i hf
      refine .inl ⟨SX.S s, r.str_, by rw [SX.S_len]; exact fits_iff.mp hf, ?_⟩
      rw [cutS_of]
      exact Post.ok p S RV.mkStr
    · exact p.elim
  | tup xs =>
    obtain ⟨a, vs, e1, e2, e3⟩ := r.tup_
    simp only at p
    split at p
    · exact p.elim
    · rename_i hw
      refine .inr (.inl ⟨a, vs, e1, .of e2, fun z => hw ?_, Post.tuple p S (cut_of e3 lo hi)⟩)
      unfold cutWhole
      rw [clip_eq, clip_eq, e3.len, z.1, z.2]
      simp
  | ref a =>
    simp only at p
    cases e1 : h.lstAt a with
    | none => rw [e1] at p; exact p.elim
    | some xs =>
      rw [e1] at p
      obtain ⟨vs, h1, h2⟩ := S.seqOf e1
      exact .inr (.inr ⟨ρ a, vs, r.ref_.2, h1, Post.list p S (cut_of h2 lo hi)⟩)
  | _ => exact p.elim
theorem r_sl (hK : X.K = Y.K) {e : Expr} {lo hi : Option Expr} {m : E} {ml mh : P} {p2 pos : Pos} (he : L2.PE X e (rE Y m)) (hl : L2.PO X lo (rP Y ml)) (hh : L2.PO X hi (rP Y mh)) : L2.PE X (.Subscript e (.Slice lo hi none p2) pos) (rE Y (eSl m ml mh)) := by
  refine pe_imp (L2.pe_slice (L2.sl_str.or (L2.sl_tup.or L2.sl_list)) he hl hh) fun σ H Q q => ?_
  rw [hK]
  obtain ⟨τ, h, ρ, S, st, p⟩ := q
  refine ⟨τ, h, ρ, S, st, p.bind.mono ?_⟩
  rintro x H1 ⟨w1, h1, ρ1, e1, S1, r1, _, p1⟩
  refine ⟨τ, h1, ρ1, S1, st.mono e1, p1.bind.mono ?_⟩
  rintro l H2 ⟨l', h2, ρ2, e2, S2, rfl, _, p2⟩
  refine ⟨τ, h2, ρ2, S2, (st.mono e1).mono e2, p2.bind.mono ?_⟩
  rintro u H3 ⟨u', h3, ρ3, e3, S3, rfl, _, p3⟩
  exact slice_of S3 ((r1.mono e2).mono e3) p3
end
end PV

set_option Elab.async false
set_option linter.all false
set_option autoImplicit false
set_option maxRecDepth 100000
set_option maxHeartbeats 2000000
/-! Snd5: statements, targets, loops. -/
namespace PV
open PySem
/-- what is due behind a statement -/
def PostS (Y : Yv) (n : Nat) (ρ : Nat → Addr) (H : Hp) (f : F) (D : L2.Ends) : Prop :=
  match f with
  | .nx τ' h' => ∀ ρ' H' σ', Ext n ρ H h'.n ρ' H' → Sim Y.Γ Y.K h' ρ' H' → StR Y.Γ Y.K h'.n ρ' H' τ' σ' → D.nx σ' H'
  | .bk τ' h' => ∀ ρ' H' σ', Ext n ρ H h'.n ρ' H' → Sim Y.Γ Y.K h' ρ' H' → StR Y.Γ Y.K h'.n ρ' H' τ' σ' → D.bk σ' H'
  | .ct τ' h' => ∀ ρ' H' σ', Ext n ρ H h'.n ρ' H' → Sim Y.Γ Y.K h' ρ' H' → StR Y.Γ Y.K h'.n ρ' H' τ' σ' → D.ct σ' H'
  | .rt w h' => ∀ ρ' H' v, Ext n ρ H h'.n ρ' H' → Sim Y.Γ Y.K h' ρ' H' → RV Y.Γ Y.K h'.n ρ' H' w v → D.rt v H'
  | .er k p τ' h' => ∀ ρ' H' σ' d, Ext n ρ H h'.n ρ' H' → Sim Y.Γ Y.K h' ρ' H' → StR Y.Γ Y.K h'.n ρ' H' τ' σ' → XR Y.Γ Y.K h'.n ρ' H' k p d → Y.W (.ref (Y.Γ.ca k)) d σ' H'
  | .bad => False
def TS (Y : Yv) (m : S) : L2.TS := fun D σ H => ∃ τ h ρ, Sim Y.Γ Y.K h ρ H ∧ StR Y.Γ Y.K h.n ρ H τ σ ∧ PostS Y h.n ρ H (m Y.c τ h) D
/-- a target's: it goes on, or an error -/
def PostG (Y : Yv) (n : Nat) (ρ : Nat → Addr) (H : Hp) (f : GR) (Q : L2.St → Hp → Prop) : Prop :=
  match f with
  | .go τ' h' => ∀ ρ' H' σ', Ext n ρ H h'.n ρ' H' → Sim Y.Γ Y.K h' ρ' H' → StR Y.Γ Y.K h'.n ρ' H' τ' σ' → Q σ' H'
  | .bad => False
def TGm (Y : Yv) (g : G) : L2.TG := fun v σ H Q => ∃ w τ h ρ, Sim Y.Γ Y.K h ρ H ∧ StR Y.Γ Y.K h.n ρ H τ σ ∧ RV Y.Γ Y.K h.n ρ H w v ∧ PostG Y h.n ρ H (g w Y.c τ h) Q
def TGms (Y : Yv) (g : Gs) : L2.TGs := fun vs σ H Q => ∃ ws τ h ρ, Sim Y.Γ Y.K h ρ H ∧ StR Y.Γ Y.K h.n ρ H τ σ ∧ A2 (RV Y.Γ Y.K h.n ρ H) ws vs ∧ PostG Y h.n ρ H (g ws Y.c τ h) Q
section
variable {Y : Yv} {n n1 : Nat} {ρ ρ1 : Nat → Addr} {H H1 : Hp}
theorem PostS.rebase {f : F} {D : L2.Ends} (p : PostS Y n ρ H f D) (e : Ext n ρ H n1 ρ1 H1) : PostS Y n1 ρ1 H1 f D := by
  cases f with
  | nx τ h => exact fun ρ' H' σ' e' => p ρ' H' σ' (e.trans e')
  | bk τ h => exact fun ρ' H' σ' e' => p ρ' H' σ' (e.trans e')
  | ct τ h => exact fun ρ' H' σ' e' => p ρ' H' σ' (e.trans e')
  | rt w h => exact fun ρ' H' v e' => p ρ' H' v (e.trans e')
  | er k q τ h => exact fun ρ' H' σ' d e' => p ρ' H' σ' d (e.trans e')
  | bad => exact p
theorem PostG.rebase {f : GR} {Q : L2.St → Hp → Prop} (p : PostG Y n ρ H f Q) (e : Ext n ρ H n1 ρ1 H1) : PostG Y n1 ρ1 H1 f Q := by
  cases f with
  | go τ h => exact fun ρ' H' σ' e' => p ρ' H' σ' (e.trans e')
  | bad => exact p
/-- an expression ahead of a statement's rest -/
theorem PostS.ofE {σ : L2.St} {r : R W} {τ : St} {k : W → Hh → F} {D : L2.Ends} {h : Hh} (st : StR Y.Γ Y.K n ρ H τ σ) (p : PostS Y n ρ H (r.f τ k) D) :
    Post Y (RW Y) σ n ρ H r (fun v H1 => ∃ w h1 ρ1, Ext n ρ H h1.n ρ1 H1 ∧ Sim Y.Γ Y.K h1 ρ1 H1 ∧ RV Y.Γ Y.K h1.n ρ1 H1 w v ∧ r = .ok w h1 ∧ PostS Y h1.n ρ1 H1 (k w h1) D) := by
  cases r with
  | ok a h' => exact fun ρ' H' v e s r => ⟨a, h', ρ', e, s, r, rfl, PostS.rebase p e⟩
  | er k p' h' => exact fun ρ' H' d e s x => p ρ' H' σ d e s (st.mono e) x
  | bad => exact p
theorem PostS.nx {τ : St} {σ : L2.St} {h : Hh} {D : L2.Ends} (p : PostS Y h.n ρ H (.nx τ h) D) (S : Sim Y.Γ Y.K h ρ H) (st : StR Y.Γ Y.K h.n ρ H τ σ) : D.nx σ H := p ρ H σ .refl S st
theorem StR.set {τ : St} {σ : L2.St} {w : W} {v : V} {Γ : Gam} {K : Fg} (st : StR Γ K n ρ H τ σ) (i : Nat) (r : RV Γ K n ρ H w v) : StR Γ K n ρ H (τ.set i (some w)) (σ.set i (some v)) := by
  refine ⟨by simp [st.1], fun j u hj => ?_⟩
  by_cases e : i = j
  · subst e
    by_cases hl : i < τ.length
    · rw [List.getElem?_set_self hl] at hj
      cases hj
      exact ⟨v, by rw [List.getElem?_set_self (by rw [← st.1]; exact hl)], r⟩
    · rw [List.getElem?_eq_none (by simp; omega)] at hj; cases hj
  · rw [List.getElem?_set_ne e] at hj ⊢
    exact st.2 j u hj
theorem StR.unset {τ : St} {σ : L2.St} {o : Option V} {Γ : Gam} {K : Fg} (st : StR Γ K n ρ H τ σ) (i : Nat) : StR Γ K n ρ H (τ.set i none) (σ.set i o) := by
  refine ⟨by simp [st.1], fun j u hj => ?_⟩
  by_cases e : i = j
  · subst e
    by_cases hl : i < τ.length
    · rw [List.getElem?_set_self hl] at hj; cases hj
    · rw [List.getElem?_eq_none (by simp; omega)] at hj; cases hj
  · rw [List.getElem?_set_ne e] at hj ⊢
    exact st.2 j u hj
end
section
variable {X : L2.Cx} {Y : Yv}
theorem ps_imp {e : Stmt} {t t' : L2.TS} (h : L2.PS X e t) (i : ∀ D σ H, t' D σ H → t D σ H) : L2.PS X e t' := ⟨fun pins s σ H D I q => h.run pins s σ H D I (i D σ H q)⟩
theorem pss_imp {e : List Stmt} {t t' : L2.TS} (h : L2.PSs X e t) (i : ∀ D σ H, t' D σ H → t D σ H) : L2.PSs X e t' := ⟨fun pins s σ H D I q => h.run pins s σ H D I (i D σ H q)⟩
theorem pg_imp {e : Expr} {t t' : L2.TG} (h : L2.PG X e t) (i : ∀ v σ H Q, t' v σ H Q → t v σ H Q) : L2.PG X e t' := ⟨fun pins s σ H v u Q I r q => h.run pins s σ H v u Q I r (i v σ H Q q)⟩
theorem pgs_imp {e : List Expr} {t t' : L2.TGs} (h : L2.PGs X e t) (i : ∀ v σ H Q, t' v σ H Q → t v σ H Q) : L2.PGs X e t' := ⟨fun pins s σ H v u Q I r q => h.run pins s σ H v u Q I r (i v σ H Q q)⟩

/-! ### blocks -/
theorem r_nil : L2.PSs X [] (TS Y sNil) := pss_imp L2.pss_nil fun D σ H ⟨τ, h, ρ, S, st, p⟩ => PostS.nx p S st
theorem r_pass {pos : Pos} : L2.PS X (.Pass pos) (TS Y sNil) := ps_imp L2.ps_pass fun D σ H ⟨τ, h, ρ, S, st, p⟩ => PostS.nx p S st
theorem r_brk {pos : Pos} : L2.PS X (.Break pos) (TS Y sBrk) := ps_imp L2.ps_break fun D σ H ⟨τ, h, ρ, S, st, p⟩ => p ρ H σ .refl S st
theorem r_cnt {pos : Pos} : L2.PS X (.Continue pos) (TS Y sCnt) := ps_imp L2.ps_continue fun D σ H ⟨τ, h, ρ, S, st, p⟩ => p ρ H σ .refl S st
theorem r_cons {st : Stmt} {rest : List Stmt} {a b : S} (ha : L2.PS X st (TS Y a)) (hb : L2.PSs X rest (TS Y b)) : L2.PSs X (st :: rest) (TS Y (sCons a b)) := by
  refine pss_imp (L2.pss_cons ha hb) fun D σ H q => ?_
  obtain ⟨τ, h, ρ, S, st, p⟩ := q
  refine ⟨τ, h, ρ, S, st, ?_⟩
  unfold sCons F.then at p
  cases e : a Y.c τ h with
  | nx τ' h' => rw [e] at p; exact fun ρ' H' σ' x s t => ⟨τ', h', ρ', s, t, PostS.rebase p x⟩
  | _ => rw [e] at p; exact p
theorem r_expr {e : Expr} {m : E} {pos : Pos} (he : L2.PE X e (rE Y m)) (hs : swapsWith e none pos.line X.env = pure false := by rfl) : L2.PS X (.Expr e pos) (TS Y (sE m)) := by
  refine ps_imp (L2.ps_expr he hs) fun D σ H q => ?_
  obtain ⟨τ, h, ρ, S, st, p⟩ := q
  refine ⟨τ, h, ρ, S, st, (PostS.ofE (h := h) st p).mono ?_⟩
  rintro v H1 ⟨w, h1, ρ1, e1, S1, r1, _, p1⟩
  exact PostS.nx p1 S1 (st.mono e1)
theorem r_ret {e : Expr} {m : E} {pos : Pos} (he : L2.PE X e (rE Y m)) : L2.PS X (.Return (some e) pos) (TS Y (sRet m)) := by
  refine ps_imp (L2.ps_ret he) fun D σ H q => ?_
  obtain ⟨τ, h, ρ, S, st, p⟩ := q
  refine ⟨τ, h, ρ, S, st, (PostS.ofE (h := h) st p).mono ?_⟩
  rintro v H1 ⟨w, h1, ρ1, e1, S1, r1, _, p1⟩
  exact p1 ρ1 H1 v .refl S1 r1
theorem r_retN {pos : Pos} : L2.PS X (.Return none pos) (TS Y sRetN) := ps_imp L2.ps_retN fun D σ H ⟨τ, h, ρ, S, st, p⟩ => p ρ H .non .refl S RV.mkNon
theorem r_sif {c : Expr} {a b : List Stmt} {mc : T} {ma mb : S} {pos : Pos} (hc : L2.PT X c (rT Y mc)) (ha : L2.PSs X a (TS Y ma)) (hb : L2.PSs X b (TS Y mb)) : L2.PS X (.If c a b pos) (TS Y (sIf mc ma mb)) := by
  refine ps_imp (L2.ps_if hc ha hb) fun D σ H q => ?_
  obtain ⟨τ, h, ρ, S, st, p⟩ := q
  refine ⟨τ, h, ρ, S, st, ?_⟩
  unfold sIf at p
  cases e : mc Y.c τ h with
  | ok k h' =>
    rw [e] at p
    intro ρ' H' k' x s r
    subst r
    cases k with
    | true => exact ⟨τ, h', ρ', s, st.mono x, PostS.rebase p x⟩
    | false => exact ⟨τ, h', ρ', s, st.mono x, PostS.rebase p x⟩
  | er k p' h' => rw [e] at p; exact fun ρ' H' d x s r => p ρ' H' σ d x s (st.mono x) r
  | bad => rw [e] at p; exact p

/-! ### targets -/
theorem rg_name {i : Nat} {x : Str} {pos : Pos} (hN : X.N.Nodup) (hi : X.N[i]? = some x) (hx : L2.Loc X.env.scope x) (hf : X.fn x = true ∨ X.env.scope.names.lookup x = some .local) : L2.PG X (.Name x pos) (TGm Y (gV i)) :=
  pg_imp (L2.pg_name hN hi hx hf) fun v σ H Q ⟨w, τ, h, ρ, S, st, r, p⟩ => p ρ H _ .refl S (st.set i r)
theorem rg_nil : L2.PGs X [] (TGms Y gNil) := pgs_imp L2.pgs_nil fun v σ H Q ⟨ws, τ, h, ρ, S, st, r, p⟩ => by
  cases ws with
  | nil => rw [A2.nil_iff] at r; exact ⟨r, p ρ H σ .refl S st⟩
  | cons w ws => exact p.elim
theorem rg_cons {e : Expr} {es : List Expr} {g : G} {r : Gs} (h1 : L2.PG X e (TGm Y g)) (h2 : L2.PGs X es (TGms Y r))
    (hs : (assignEach (e :: es) X.env).map (·.2) = assign e X.env :: (assignEach es X.env).map (·.2) := by rfl) : L2.PGs X (e :: es) (TGms Y (gCons g r)) := by
  refine pgs_imp (L2.pgs_cons h1 h2 hs) fun v σ H Q q => ?_
  obtain ⟨ws, τ, h, ρ, S, st, rr, p⟩ := q
  cases ws with
  | nil => exact p.elim
  | cons w ws =>
    rw [A2.cons_iff] at rr
    obtain ⟨v, vs, rfl, r1, r2⟩ := rr
    refine ⟨v, vs, rfl, w, τ, h, ρ, S, st, r1, ?_⟩
    simp only [gCons] at p
    cases e : g w Y.c τ h with
    | go τ' h' => rw [e] at p; exact fun ρ' H' σ' x s t => ⟨ws, τ', h', ρ', s, t, r2.imp fun _ _ z => z.mono x, PostG.rebase p x⟩
    | bad => rw [e] at p; exact p
theorem rg_tup (hK : X.K = Y.K) {es : List Expr} {k : Nat} {n : Nat} {g : Gs} {pos : Pos} (hc : X.calm = true) (h : L2.PGs X es (TGms Y g))
    (hn : (assignEach es X.env).length = n := by rfl) (hst : (assignEach es X.env).findIdx? (·.1) = none := by rfl) : L2.PG X (.Tuple es k pos) (TGm Y (gTup n g)) := by
  refine pg_imp (L2.pg_tup hc h hn hst) fun v σ H Q q => ?_
  obtain ⟨w, τ, h, ρ, S, st, rr, p⟩ := q
  cases w with
  | tup xs =>
    obtain ⟨a, vs, rfl, h2, h3⟩ := rr.tup_
    simp only [gTup] at p
    split at p
    · rename_i hl
      exact ⟨a, vs, rfl, .of h2, by rw [← h3.len]; exact Nat.eq_of_beq_eq_true hl, xs, τ, h, ρ, S, st, h3, p⟩
    · exact p.elim
  | _ => exact p.elim
def rSetI : L2.TSet := fun o i v H Q => L2.rSetL o i v H Q ∨ ∃ a H', o = .ref a ∧ L2.DPut H a i v H' ∧ Q H'
theorem set_ok (hu : X.A.units + 1 < cLine) : L2.PSet X rSetI := by
  intro pins s σ H o i v ov iv u Q I ro ri rv h
  rcases h with h | ⟨a, H', rfl, g, q⟩
  · exact L2.set_list pins s σ H o i v ov iv u Q I ro ri rv h
  · obtain rfl : ov = Value.ref a := ro
    exact L2.d_setItem hu I g ri rv fun s' I' => ⟨H', I', q⟩
theorem setIx_of {h h' : Hh} {ρ : Nat → Addr} {H : Hp} {o i w : W} {x y v : V} {Q : Hp → Prop} (S : Sim Y.Γ Y.K h ρ H) (ro : RV Y.Γ Y.K h.n ρ H o x) (ri : RV Y.Γ Y.K h.n ρ H i y) (rv : RV Y.Γ Y.K h.n ρ H w v)
    (e : setIx o i w h = some h') (q : ∀ H', Ext h.n ρ H h'.n ρ H' → Sim Y.Γ Y.K h' ρ H' → Q H') : rSetI x y v H Q := by
  unfold setIx at e
  cases o with
  | ref a =>
    simp only at e
    cases g : h.get a with
    | none => rw [g] at e; cases e
    | some ob =>
      rw [g] at e
      have ha : a < h.n := ro.ref_.1
      cases ob with
      | lst xs =>
        obtain ⟨vs, h1, h2⟩ := S.obj a _ g
        cases i with
        | int k =>
          simp only at e
          cases f : ixN xs.length k with
          | none => rw [f] at e; cases e
          | some j =>
            rw [f] at e
            cases e
            refine .inl ⟨ρ a, vs, k, j, ro.ref_.2, ri.int_, h1, by rw [← h2.len, ← ixN_eq]; exact f, q _ (ext_upd h1 rfl) (S.upd g rfl rfl h1 rfl (fun ps z => by cases z) ⟨_, L2.upd_same, (h2.set rv j).up (ext_upd h1 rfl)⟩)⟩
        | _ => cases e
      | dk kvs =>
        obtain ⟨ks, h1, h2⟩ := S.obj a _ g
        simp only at e
        split at e
        · rename_i hk
          simp only [Bool.and_eq_true] at hk
          cases e
          obtain ⟨qk, e1, e2⟩ := kV_of ri hk.1
          refine .inr ⟨ρ a, _, ro.ref_.2, by rw [e2]; exact .k h1 (by rw [← h2.len]; exact fitsS_iff.mp hk.2), q _ (ext_upd h1 rfl) (S.upd g rfl rfl h1 rfl (fun ps z => by cases z) ⟨_, L2.upd_same, (put_of keyV_inj e1 rv h2).imp fun _ _ z => ⟨z.1, z.2.mono (ext_upd h1 rfl)⟩⟩)⟩
        · cases e
      | dt kvs =>
        obtain ⟨ks, h1, h2⟩ := S.obj a _ g
        simp only at e
        split at e
        · rename_i hk
          simp only [Bool.and_eq_true] at hk
          cases e
          obtain ⟨qk, b, e1, e2, e3⟩ := kVs_of ri hk.1
          refine .inr ⟨ρ a, _, ro.ref_.2, by rw [e2]; exact .t h1 e3 (by rw [← h2.len]; exact fitsS_iff.mp hk.2), q _ (ext_upd h1 rfl) (S.upd g rfl rfl h1 rfl (fun ps z => by cases z) ⟨_, L2.upd_same, (put_of keyVs_inj e1 rv h2).imp fun _ _ z => ⟨z.1, z.2.mono (ext_upd h1 rfl)⟩⟩)⟩
        · cases e
      | _ => cases e
  | _ => cases e
theorem rg_ix (hu : X.A.units + 65 < cLine) {o i : Expr} {mo mi : E} {pos : Pos} (ho : L2.PE X o (rE Y mo)) (hi : L2.PE X i (rE Y mi))
    (ha : ∀ v, assign (.Subscript o i pos) X.env v = (do
      let ov ← holding [v] (eval o X.env)
      let iv ← holding [v, ov] (eval i X.env)
      standAt pos
      holding [v, ov, iv] (setItem ov iv v)
      release [v, ov, iv] []) := by intro _; rfl) : L2.PG X (.Subscript o i pos) (TGm Y (gIx mo mi)) := by
  refine pg_imp (L2.pg_sub ho hi (set_ok (by omega)) ha) fun v σ H Q q => ?_
  obtain ⟨w, τ, h, ρ, S, st, r, p⟩ := q
  refine ⟨τ, h, ρ, S, st, ?_⟩
  simp only [gIx] at p
  cases f1 : mo Y.c τ h with
  | er _ _ _ => rw [f1] at p; exact p.elim
  | bad => rw [f1] at p; exact p.elim
  | ok w1 h1 =>
    rw [f1] at p
    simp only at p
    intro ρ1 H1 x e1 S1 r1
    refine ⟨τ, h1, ρ1, S1, st.mono e1, ?_⟩
    cases f2 : mi Y.c τ h1 with
    | er _ _ _ => rw [f2] at p; exact p.elim
    | bad => rw [f2] at p; exact p.elim
    | ok w2 h2 =>
      rw [f2] at p
      simp only at p
      intro ρ2 H2 y e2 S2 r2
      cases e : setIx w1 w2 w h2 with
      | none => rw [e] at p; exact p.elim
      | some h3 =>
        rw [e] at p
        exact setIx_of S2 (r1.mono e2) r2 ((r.mono e1).mono e2) e fun H' x s => p ρ2 H' σ ((e1.trans e2).trans x) s (((st.mono e1).mono e2).mono x)
theorem r_asg {tg e : Expr} {m : E} {g : G} {pos : Pos} (he : L2.PE X e (rE Y m)) (hg : L2.PG X tg (TGm Y g)) (hs : swapsWithSole [tg] e pos.line X.env = pure false := by rfl) (hw : swappedStores [tg] e X.env = pure none := by rfl)
    (h1 : (assignEach [tg] X.env).map (·.2) = [assign tg X.env] := by rfl) : L2.PS X (.Assign [tg] e pos) (TS Y (sAsg g m)) := by
  refine ps_imp (L2.ps_asg he hg hs hw h1) fun D σ H q => ?_
  obtain ⟨τ, h, ρ, S, st, p⟩ := q
  refine ⟨τ, h, ρ, S, st, (PostS.ofE (h := h) st p).mono ?_⟩
  rintro v H1 ⟨w, h1, ρ1, e1, S1, r1, _, p1⟩
  refine ⟨w, τ, h1, ρ1, S1, st.mono e1, r1, ?_⟩
  cases f : g w Y.c τ h1 with
  | go τ' h' => rw [f] at p1; exact p1
  | bad => rw [f] at p1; exact p1
end
end PV

set_option Elab.async false
set_option linter.all false
set_option autoImplicit false
set_option maxRecDepth 100000
set_option maxHeartbeats 2000000
/-! Snd6: what a loop walks; for, while; op=. -/
namespace PV
open PySem
theorem heldOk_at {h : Hh} : ∀ {l : List (Nat × List W)} {a : Nat} {xs : List W}, heldOk h l = true → (a, xs) ∈ l → h.lstAt a = some xs
  | [], _, _, _, m => by cases m
  | (b, ys) :: l, a, xs, e, m => by
    unfold heldOk at e
    simp only [Bool.and_eq_true] at e
    rcases List.mem_cons.mp m with z | m
    · cases z
      obtain ⟨e1, _⟩ := e
      split at e1
      · rename_i zs q; rw [q, W.beqs_eq e1]
      · cases e1
    · exact heldOk_at e.2 m
/-- J walks what w tells, seen from (n, ρ, H) -/
structure Wlk (Y : Yv) (w : Wk) (n : Nat) (ρ : Nat → Addr) (H : Hp) (J : L2.It) : Prop where
  goes : ∀ i h2 ρ2 H2, Ext n ρ H h2.n ρ2 H2 → Sim Y.Γ Y.K h2 ρ2 H2 → heldOk h2 w.held = true → i < w.items.length → J.go i H2
  stops : ∀ h2 ρ2 H2, Ext n ρ H h2.n ρ2 H2 → Sim Y.Γ Y.K h2 ρ2 H2 → heldOk h2 w.held = true → J.stop w.items.length H2
  yields : ∀ i h2 ρ2 H2 x H3, Ext n ρ H h2.n ρ2 H2 → Sim Y.Γ Y.K h2 ρ2 H2 → heldOk h2 w.held = true → i < w.items.length → J.yld i H2 x H3 →
    ∃ u, w.items[i]? = some u ∧ Ext h2.n ρ2 H2 h2.n ρ2 H3 ∧ Sim Y.Γ Y.K h2 ρ2 H3 ∧ RV Y.Γ Y.K h2.n ρ2 H3 u x
def PostI (Y : Yv) (σ : L2.St) (n : Nat) (ρ : Nat → Addr) (H : Hp) (r : R Wk) (Q : L2.It → Hp → Prop) : Prop :=
  match r with
  | .ok w h' => ∀ ρ' H' J, Ext n ρ H h'.n ρ' H' → Sim Y.Γ Y.K h' ρ' H' → Wlk Y w h'.n ρ' H' J → Q J H'
  | .er k p h' => ∀ ρ' H' d, Ext n ρ H h'.n ρ' H' → Sim Y.Γ Y.K h' ρ' H' → XR Y.Γ Y.K h'.n ρ' H' k p d → Y.W (.ref (Y.Γ.ca k)) d σ H'
  | .bad => False
def rI (Y : Yv) (m : I) : L2.TI := fun σ H Q => ∃ τ h ρ, Sim Y.Γ Y.K h ρ H ∧ StR Y.Γ Y.K h.n ρ H τ σ ∧ PostI Y σ h.n ρ H (m Y.c τ h) Q
section
variable {X : L2.Cx} {Y : Yv} {tg : Expr}
theorem pi_imp {e : Expr} {t t' : L2.TI} (h : L2.PI X tg e t) (i : ∀ σ H Q, t' σ H Q → t σ H Q) : L2.PI X tg e t' := ⟨fun pins s σ H Q I q => h.run pins s σ H Q I (i σ H Q q)⟩
theorem pi_or {e : Expr} {t t' : L2.TI} (h : L2.PI X tg e t) (h' : L2.PI X tg e t') : L2.PI X tg e (fun σ H Q => t σ H Q ∨ t' σ H Q) := ⟨fun pins s σ H Q I q => q.elim (h.run pins s σ H Q I) (h'.run pins s σ H Q I)⟩
theorem PostI.bind {σ : L2.St} {n : Nat} {ρ : Nat → Addr} {H : Hp} {r : R W} {f : W → Hh → R Wk} {Q : L2.It → Hp → Prop} (h : PostI Y σ n ρ H (r.bind f) Q) :
    Post Y (RW Y) σ n ρ H r (fun v H1 => ∃ a h1 ρ1, Ext n ρ H h1.n ρ1 H1 ∧ Sim Y.Γ Y.K h1 ρ1 H1 ∧ RV Y.Γ Y.K h1.n ρ1 H1 a v ∧ r = .ok a h1 ∧ PostI Y σ h1.n ρ1 H1 (f a h1) Q) := by
  cases r with
  | ok a h' =>
    intro ρ' H' v e s r
    refine ⟨a, h', ρ', e, s, r, rfl, ?_⟩
    have h : PostI Y σ n ρ H (f a h') Q := h
    cases q : f a h' with
    | ok w h2 => rw [q] at h; exact fun ρ2 H2 J e2 => h ρ2 H2 J (e.trans e2)
    | er k p h2 => rw [q] at h; exact fun ρ2 H2 d e2 => h ρ2 H2 d (e.trans e2)
    | bad => rw [q] at h; exact h
  | er k p h' => exact h
  | bad => exact h
theorem PostI.ok {σ : L2.St} {h : Hh} {ρ : Nat → Addr} {H : Hp} {w : Wk} {Q : L2.It → Hp → Prop} {J : L2.It} (p : PostI Y σ h.n ρ H (.ok w h) Q) (S : Sim Y.Γ Y.K h ρ H) (k : Wlk Y w h.n ρ H J) : Q J H := p ρ H J .refl S k
/-! ### the iterators -/
theorem seq_at {h h2 : Hh} {ρ ρ2 : Nat → Addr} {H H2 : Hp} {a : Nat} {xs : List W} {held : List (Nat × List W)} (ha : a < h.n) (e : Ext h.n ρ H h2.n ρ2 H2) (S : Sim Y.Γ Y.K h2 ρ2 H2) (hh : heldOk h2 held = true) (hm : (a, xs) ∈ held) :
    ∃ vs, L2.SqL Y.K H2 (ρ a) vs ∧ A2 (RV Y.Γ Y.K h2.n ρ2 H2) xs vs := by
  obtain ⟨vs, h1, h2⟩ := S.seqOf (heldOk_at hh hm)
  exact ⟨vs, by rw [← e.at_ a ha]; exact h1, h2⟩
theorem lstAt_lt {Γ : Gam} {K : Fg} {h : Hh} {ρ : Nat → Addr} {H : Hp} {a : Nat} {xs : List W} (S : Sim Γ K h ρ H) (e : h.lstAt a = some xs) : a < h.n := by
  unfold Hh.lstAt at e
  cases g : h.get a with
  | none => rw [g] at e; cases e
  | some o => exact Hh.get_lt S.len g
theorem wlk_list {h : Hh} {ρ : Nat → Addr} {H : Hp} {a : Nat} {xs : List W} (S : Sim Y.Γ Y.K h ρ H) (e : h.lstAt a = some xs) : Wlk Y ⟨xs, [(a, xs)]⟩ h.n ρ H (L2.Itl Y.K (ρ a)) := by
  have ha := lstAt_lt S e
  refine ⟨fun i h2 ρ2 H2 x s hh hi => ?_, fun h2 ρ2 H2 x s hh => ?_, fun i h2 ρ2 H2 v H3 x s hh hi y => ?_⟩
  · obtain ⟨vs, h1, r⟩ := seq_at (xs := xs) (held := [(a, xs)]) ha x s hh (by simp)
    obtain ⟨v, hv, _⟩ := r.get (List.getElem?_eq_getElem hi)
    exact ⟨vs, v, h1, hv⟩
  · obtain ⟨vs, h1, r⟩ := seq_at (xs := xs) (held := [(a, xs)]) ha x s hh (by simp)
    exact ⟨vs, h1, by rw [r.len]; exact Nat.le_refl _⟩
  · obtain ⟨vs, h1, r⟩ := seq_at (xs := xs) (held := [(a, xs)]) ha x s hh (by simp)
    obtain ⟨rfl, hy⟩ := y
    obtain ⟨u, hu, ru⟩ := r.get' (hy vs h1)
    exact ⟨u, hu, .refl, s, ru⟩
theorem wlk_tup {h : Hh} {ρ : Nat → Addr} {H : Hp} {p : Addr} {xs : List W} {vs : List V} (e : H p = some (.tup vs)) (r : A2 (RV Y.Γ Y.K h.n ρ H) xs vs) : Wlk Y ⟨xs, []⟩ h.n ρ H (L2.Itt Y.K p) := by
  refine ⟨fun i h2 ρ2 H2 x s hh hi => ?_, fun h2 ρ2 H2 x s hh => ?_, fun i h2 ρ2 H2 v H3 x s hh hi y => ?_⟩
  · obtain ⟨v, hv, _⟩ := r.get (List.getElem?_eq_getElem hi)
    exact ⟨vs, v, .of (x.stb _ _ e rfl), hv⟩
  · exact ⟨vs, .of (x.stb _ _ e rfl), by rw [r.len]; exact Nat.le_refl _⟩
  · obtain ⟨rfl, hy⟩ := y
    obtain ⟨u, hu, ru⟩ := r.get' (hy vs (.of (x.stb _ _ e rfl)))
    exact ⟨u, hu, .refl, s, ru.mono x⟩
theorem wlk_str {n : Nat} {ρ : Nat → Addr} {H : Hp} {s : List Nat} : Wlk Y ⟨s.map fun c => .str [c], []⟩ n ρ H (L2.Its (SX.S s)) := by
  have hl : (SX.S s).cps.size = s.length := by simp [SX.S]
  refine ⟨fun i h2 ρ2 H2 x s' hh hi => ?_, fun h2 ρ2 H2 x s' hh => ?_, fun i h2 ρ2 H2 v H3 x s' hh hi y => ?_⟩
  · show i < (SX.S s).cps.size
    rw [hl]; simpa using hi
  · show (SX.S s).cps.size ≤ _
    rw [hl]; simp
  · obtain ⟨rfl, c, hc, rfl⟩ := y
    refine ⟨.str [c], ?_, .refl, s', RV.mkStr⟩
    have : s[i]? = some c := by simpa [SX.S] using hc
    rw [List.getElem?_map, this]; rfl
theorem rangeL_get : ∀ (n : Nat) (lo : Int) (i : Nat), i < n → (rangeL lo n)[i]? = some (.int (lo + i))
  | 0, _, _, h => by omega
  | n + 1, lo, 0, _ => by simp [rangeL]
  | n + 1, lo, i + 1, h => by
    unfold rangeL
    rw [List.getElem?_cons_succ, rangeL_get n (lo + 1) i (by omega)]
    have : lo + 1 + (i : Int) = lo + ((i + 1 : Nat) : Int) := by omega
    rw [this]
theorem rangeL_len : ∀ (n : Nat) (lo : Int), (rangeL lo n).length = n
  | 0, _ => rfl
  | n + 1, lo => by unfold rangeL; simp [rangeL_len n]
theorem wlk_range {n : Nat} {ρ : Nat → Addr} {H : Hp} {lo : Int} {m : Nat} : Wlk Y ⟨rangeL lo m, []⟩ n ρ H (L2.Itr lo m) := by
  refine ⟨fun i h2 ρ2 H2 x s hh hi => ?_, fun h2 ρ2 H2 x s hh => ?_, fun i h2 ρ2 H2 v H3 x s hh hi y => ?_⟩
  · show i < m
    rw [rangeL_len] at hi; exact hi
  · show m ≤ _
    rw [rangeL_len]; exact Nat.le_refl _
  · obtain ⟨rfl, rfl⟩ := y
    rw [rangeL_len] at hi
    exact ⟨_, rangeL_get m lo i hi, .refl, s, RV.mkInt⟩
theorem enumL_get : ∀ (xs : List W) (lo : Int) (i : Nat) (x : W), xs[i]? = some x → (enumL lo xs)[i]? = some (.tup [.int (lo + i), x])
  | [], _, i, x, h => by simp at h
  | y :: xs, lo, 0, x, h => by simp at h; subst h; simp [enumL]
  | y :: xs, lo, i + 1, x, h => by
    unfold enumL
    have : lo + 1 + (i : Int) = lo + ((i + 1 : Nat) : Int) := by omega
    rw [List.getElem?_cons_succ, ← this]
    exact enumL_get xs (lo + 1) i x (by simpa using h)
theorem enumL_len : ∀ (xs : List W) (lo : Int), (enumL lo xs).length = xs.length
  | [], _ => rfl
  | y :: xs, lo => by unfold enumL; simp [enumL_len xs]
theorem wlk_enum {h : Hh} {ρ : Nat → Addr} {H : Hp} {a : Nat} {xs : List W} (S : Sim Y.Γ Y.K h ρ H) (e : h.lstAt a = some xs) : Wlk Y ⟨enumL 0 xs, [(a, xs)]⟩ h.n ρ H (L2.Ite Y.K (ρ a)) := by
  have ha := lstAt_lt S e
  refine ⟨fun i h2 ρ2 H2 x s hh hi => ?_, fun h2 ρ2 H2 x s hh => ?_, fun i h2 ρ2 H2 v H3 x s hh hi y => ?_⟩
  · rw [enumL_len] at hi
    obtain ⟨vs, h1, r⟩ := seq_at (xs := xs) (held := [(a, xs)]) ha x s hh (by simp)
    obtain ⟨v, hv, _⟩ := r.get (List.getElem?_eq_getElem hi)
    exact ⟨vs, v, h1, hv⟩
  · obtain ⟨vs, h1, r⟩ := seq_at (xs := xs) (held := [(a, xs)]) ha x s hh (by simp)
    exact ⟨vs, h1, by rw [enumL_len, r.len]; exact Nat.le_refl _⟩
  · obtain ⟨vs, h1, r⟩ := seq_at (xs := xs) (held := [(a, xs)]) ha x s hh (by simp)
    obtain ⟨T, z, rfl, hT, rfl, hy⟩ := y
    obtain ⟨u, hu, ru⟩ := r.get' (hy vs h1)
    have et : Ext h2.n ρ2 H2 h2.n ρ2 (L2.upd H2 T (.tup [.int (i : Nat), z])) := ext_tup hT
    refine ⟨_, enumL_get xs 0 i u hu, et, s.tup hT, RV.mkTup L2.upd_same ⟨?_, ru.mono et, trivial⟩⟩
    rw [Int.zero_add]; exact RV.mkInt
theorem zipL_get : ∀ (xs ys : List W) (i : Nat) (x y : W), xs[i]? = some x → ys[i]? = some y → (zipL xs ys)[i]? = some (.tup [x, y])
  | [], _, i, x, y, h, _ => by simp at h
  | _ :: _, [], i, x, y, _, h => by simp at h
  | a :: xs, b :: ys, 0, x, y, h, h' => by simp at h h'; subst h; subst h'; simp [zipL]
  | a :: xs, b :: ys, i + 1, x, y, h, h' => by
    unfold zipL
    rw [List.getElem?_cons_succ]
    exact zipL_get xs ys i x y (by simpa using h) (by simpa using h')
theorem zipL_len : ∀ (xs ys : List W), (zipL xs ys).length = min xs.length ys.length
  | [], _ => by simp [zipL]
  | _ :: _, [] => by simp [zipL]
  | a :: xs, b :: ys => by unfold zipL; simp [zipL_len xs ys]
theorem wlk_zip {h : Hh} {ρ : Nat → Addr} {H : Hp} {a b : Nat} {xs ys : List W} (S : Sim Y.Γ Y.K h ρ H) (e : h.lstAt a = some xs) (e' : h.lstAt b = some ys) :
    Wlk Y ⟨zipL xs ys, [(a, xs), (b, ys)]⟩ h.n ρ H (L2.Itz Y.K (ρ a) (ρ b)) := by
  have ha := lstAt_lt S e
  have hb := lstAt_lt S e'
  refine ⟨fun i h2 ρ2 H2 x s hh hi => ?_, fun h2 ρ2 H2 x s hh => ?_, fun i h2 ρ2 H2 v H3 x s hh hi y => ?_⟩
  · rw [zipL_len] at hi
    obtain ⟨vs, h1, r⟩ := seq_at (xs := xs) (held := [(a, xs), (b, ys)]) ha x s hh (by simp)
    obtain ⟨us, h3, r'⟩ := seq_at (xs := ys) (held := [(a, xs), (b, ys)]) hb x s hh (by simp)
    obtain ⟨v, hv, _⟩ := r.get (List.getElem?_eq_getElem (show i < xs.length by omega))
    obtain ⟨u, hu, _⟩ := r'.get (List.getElem?_eq_getElem (show i < ys.length by omega))
    exact ⟨vs, us, v, u, h1, h3, hv, hu⟩
  · obtain ⟨vs, h1, r⟩ := seq_at (xs := xs) (held := [(a, xs), (b, ys)]) ha x s hh (by simp)
    obtain ⟨us, h3, r'⟩ := seq_at (xs := ys) (held := [(a, xs), (b, ys)]) hb x s hh (by simp)
    exact ⟨vs, us, h1, h3, by rw [zipL_len, r.len, r'.len]; omega⟩
  · obtain ⟨vs, h1, r⟩ := seq_at (xs := xs) (held := [(a, xs), (b, ys)]) ha x s hh (by simp)
    obtain ⟨us, h3, r'⟩ := seq_at (xs := ys) (held := [(a, xs), (b, ys)]) hb x s hh (by simp)
    obtain ⟨T, z, z', rfl, hT, rfl, hy, hy'⟩ := y
    obtain ⟨u, hu, ru⟩ := r.get' (hy vs h1)
    obtain ⟨u', hu', ru'⟩ := r'.get' (hy' us h3)
    have et : Ext h2.n ρ2 H2 h2.n ρ2 (L2.upd H2 T (.tup [z, z'])) := ext_tup hT
    exact ⟨_, zipL_get xs ys i u u' hu hu', et, s.tup hT, RV.mkTup L2.upd_same ⟨ru.mono et, ru'.mono et, trivial⟩⟩
theorem wlk_zipT {h : Hh} {ρ : Nat → Addr} {H : Hp} {p q : Addr} {xs ys : List W} {vs us : List V} (e : H p = some (.tup vs)) (r : A2 (RV Y.Γ Y.K h.n ρ H) xs vs) (e' : H q = some (.tup us)) (r' : A2 (RV Y.Γ Y.K h.n ρ H) ys us) :
    Wlk Y ⟨zipL xs ys, []⟩ h.n ρ H (RZ.ItzT Y.K p q) := by
  refine ⟨fun i h2 ρ2 H2 x s hh hi => ?_, fun h2 ρ2 H2 x s hh => ?_, fun i h2 ρ2 H2 v H3 x s hh hi y => ?_⟩
  · rw [zipL_len] at hi
    obtain ⟨v, hv, _⟩ := r.get (List.getElem?_eq_getElem (show i < xs.length by omega))
    obtain ⟨u, hu, _⟩ := r'.get (List.getElem?_eq_getElem (show i < ys.length by omega))
    exact ⟨vs, us, v, u, .of (x.stb _ _ e rfl), .of (x.stb _ _ e' rfl), hv, hu⟩
  · exact ⟨vs, us, .of (x.stb _ _ e rfl), .of (x.stb _ _ e' rfl), by rw [zipL_len, r.len, r'.len]; omega⟩
  · obtain ⟨T, z, z', rfl, hT, rfl, hy, hy'⟩ := y
    obtain ⟨u, hu, ru⟩ := r.get' (hy vs (.of (x.stb _ _ e rfl)))
    obtain ⟨u', hu', ru'⟩ := r'.get' (hy' us (.of (x.stb _ _ e' rfl)))
    have et : Ext h2.n ρ2 H2 h2.n ρ2 (L2.upd H2 T (.tup [z, z'])) := ext_tup hT
    exact ⟨_, zipL_get xs ys i u u' hu hu', et, s.tup hT, RV.mkTup L2.upd_same ⟨(ru.mono x).mono et, (ru'.mono x).mono et, trivial⟩⟩
theorem ri_seq (hK : X.K = Y.K) {e : Expr} {m : E} (he : L2.PE X e (rE Y m)) : L2.PI X tg e (rI Y (iSeq m)) := by
  refine pi_imp (pi_or (L2.pi_list he) (pi_or (L2.pi_tup he) (L2.pi_str he))) fun σ H Q q => ?_
  rw [hK]
  obtain ⟨τ, h, ρ, S, st, p⟩ := q
  -- which of the three it is hangs on the value
  have q := PostI.bind p
  cases f : m Y.c τ h with
  | bad => rw [f] at q; exact q.elim
  | er k x h' =>
    rw [f] at q
    exact .inl ⟨τ, h, ρ, S, st, by rw [f]; exact q⟩
  | ok w h1 =>
    cases w with
    | str s =>
      refine .inr (.inr ⟨τ, h, ρ, S, st, q.mono ?_⟩)
      rintro v H1 ⟨a, h2, ρ1, e1, S1, r1, e0, p1⟩
      rw [f] at e0
      cases e0
      exact ⟨_, r1.str_, PostI.ok p1 S1 wlk_str⟩
    | tup xs =>
      refine .inr (.inl ⟨τ, h, ρ, S, st, q.mono ?_⟩)
      rintro v H1 ⟨a, h2, ρ1, e1, S1, r1, e0, p1⟩
      rw [f] at e0
      cases e0
      obtain ⟨a, vs, rfl, h3, h4⟩ := r1.tup_
      exact ⟨a, rfl, ⟨vs, .of h3⟩, PostI.ok p1 S1 (wlk_tup h3 h4)⟩
    | ref b =>
      refine .inl ⟨τ, h, ρ, S, st, q.mono ?_⟩
      rintro v H1 ⟨a, h2, ρ1, e1, S1, r1, e0, p1⟩
      rw [f] at e0
      cases e0
      simp only at p1
      cases g : h1.lstAt b with
      | none => rw [g] at p1; exact p1.elim
      | some xs =>
        rw [g] at p1
        obtain ⟨vs, h3, h4⟩ := S1.seqOf g
        exact ⟨_, r1.ref_.2, ⟨vs, h3⟩, PostI.ok p1 S1 (wlk_list S1 g)⟩
    | _ =>
      refine .inl ⟨τ, h, ρ, S, st, q.mono ?_⟩
      rintro v H1 ⟨a, h2, ρ1, e1, S1, r1, e0, p1⟩
      rw [f] at e0
      cases e0
      exact p1.elim
theorem smallR_iff {i : Int} (h : smallR i = true) : -(2 ^ 62) ≤ i ∧ i < 2 ^ 62 := by
  unfold smallR at h
  simp only [Bool.and_eq_true, decide_eq_true_eq] at h
  omega
theorem ri_range1 {a : Expr} {ma : E} {p pos : Pos} (hg : L2.Gl X "range") (hm : X.mg "range" = none) (ha : L2.PE X a (rE Y ma)) (hs : starEach [a] X.env = [(false, eval a X.env)] := by rfl) :
    L2.PI X tg (.Call (.Name "range" p) [a] [] pos) (rI Y (iRange1 ma)) := by
  refine pi_imp (L2.pi_range1 hg hm (ra_cons (r := aNil) (Y := Y) ha ra_nil (by rw [hs]; rfl)) hs) fun σ H Q q => ?_
  obtain ⟨τ, h, ρ, S, st, p⟩ := q
  have q := PostI.bind p
  refine ⟨τ, h, ρ, S, st, ?_⟩
  unfold aCons
  cases f : ma Y.c τ h with
  | bad => rw [f] at q; exact q.elim
  | er k x h' => rw [f] at q; exact q
  | ok w h1 =>
    rw [f] at q
    show Post Y (RWs Y) σ h.n ρ H (.ok [w] h1) _
    intro ρ1 H1 vs e1 S1 r1
    obtain ⟨v, us, rfl, r1', r2⟩ := A2.cons_iff.mp r1
    replace r1 := r1'
    obtain rfl := A2.nil_iff.mp r2
    obtain ⟨a, h2, ρ2, e2, S2, r3, e0, p1⟩ := q ρ1 H1 v e1 S1 r1
    cases e0
    cases w with
    | int j =>
      simp only at p1
      split at p1
      · rename_i hj
        have := smallR_iff hj
        rw [r1.int_]
        exact ⟨j, rfl, this.1, this.2, PostI.ok p1 S2 wlk_range⟩
      · exact p1.elim
    | _ => exact p1.elim
theorem post2 {σ : L2.St} {τ : St} {ma mb : E} {h : Hh} {ρ : Nat → Addr} {H : Hp} {f : W → W → Hh → R Wk} {Q : L2.It → Hp → Prop} {P' : List V → Hp → Prop} (p : PostI Y σ h.n ρ H ((ma Y.c τ h).bind fun x h => (mb Y.c τ h).bind fun y h => f x y h) Q)
    (k : ∀ w1 w2 h2 ρ2 H2 v1 v2, Ext h.n ρ H h2.n ρ2 H2 → Sim Y.Γ Y.K h2 ρ2 H2 → RV Y.Γ Y.K h2.n ρ2 H2 w1 v1 → RV Y.Γ Y.K h2.n ρ2 H2 w2 v2 → PostI Y σ h2.n ρ2 H2 (f w1 w2 h2) Q → P' [v1, v2] H2) :
    Post Y (RWs Y) σ h.n ρ H (aCons ma (aCons mb aNil) Y.c τ h) P' := by
  have q := PostI.bind p
  unfold aCons
  cases f1 : ma Y.c τ h with
  | bad => rw [f1] at q; exact q.elim
  | er _ x h' => rw [f1] at q; exact q
  | ok w h1 =>
    cases f2 : mb Y.c τ h1 with
    | bad =>
      exfalso
      rw [f1] at p
      simp only [R.bind] at p
      rw [f2] at p
      exact p
    | er _ x h' =>
      rw [f1] at p
      simp only [R.bind] at p
      rw [f2] at p
      simp only [R.bind]
      rw [f2]
      exact p
    | ok w' h2 =>
      rw [f1] at p
      simp only [R.bind] at p
      rw [f2] at p
      simp only [R.bind]
      rw [f2]
      show Post Y (RWs Y) σ h.n ρ H (.ok [w, w'] h2) _
      intro ρ1 H1 vs e1 S1 r1
      obtain ⟨v, us, rfl, r1', r2⟩ := A2.cons_iff.mp r1
      replace r1 := r1'
      obtain ⟨v', us', rfl, r2', r3⟩ := A2.cons_iff.mp r2
      replace r2 := r2'
      obtain rfl := A2.nil_iff.mp r3
      refine k w w' h2 ρ1 H1 v v' e1 S1 r1 r2 ?_
      have p : PostI Y σ h.n ρ H (f w w' h2) Q := p
      cases g : f w w' h2 with
      | ok a h3 => rw [g] at p; exact fun ρ2 H2 J e2 => p ρ2 H2 J (e1.trans e2)
      | er c x h3 => rw [g] at p; exact fun ρ2 H2 d e2 => p ρ2 H2 d (e1.trans e2)
      | bad => rw [g] at p; exact p
theorem ri_range {a b : Expr} {ma mb : E} {p pos : Pos} (hg : L2.Gl X "range") (hm : X.mg "range" = none) (ha : L2.PE X a (rE Y ma)) (hb : L2.PE X b (rE Y mb)) (hs : starEach [a, b] X.env = [(false, eval a X.env), (false, eval b X.env)] := by rfl)
    (hs2 : starEach [b] X.env = [(false, eval b X.env)] := by rfl) : L2.PI X tg (.Call (.Name "range" p) [a, b] [] pos) (rI Y (iRange ma mb)) := by
  refine pi_imp (L2.pi_range2 hg hm (ra_cons (r := aCons mb aNil) (Y := Y) ha (ra_cons hb ra_nil (by rw [hs2]; rfl)) (by rw [hs, hs2])) hs hs2) fun σ H Q q => ?_
  obtain ⟨τ, h, ρ, S, st, p⟩ := q
  refine ⟨τ, h, ρ, S, st, post2 p ?_⟩
  intro w1 w2 h2 ρ2 H2 v1 v2 e2 S2 r1 r2 p1
  cases w1 with
  | int i => cases w2 with
    | int j =>
      simp only at p1
      split at p1
      · rename_i hj
        simp only [Bool.and_eq_true] at hj
        have a1 := smallR_iff hj.1
        have a2 := smallR_iff hj.2
        rw [r1.int_, r2.int_]
        exact ⟨i, j, rfl, ⟨a1.1, a1.2, a2.1, a2.2⟩, PostI.ok p1 S2 wlk_range⟩
      · exact p1.elim
    | _ => exact p1.elim
  | _ => exact p1.elim
theorem ri_enum (hK : X.K = Y.K) {a : Expr} {ma : E} {elts : List Expr} {kk : Nat} {tpos p pos : Pos} (hg : L2.Gl X "enumerate") (hm : X.mg "enumerate" = none) (ha : L2.PE X a (rE Y ma)) (hs : starEach [a] X.env = [(false, eval a X.env)] := by rfl) :
    L2.PI X (.Tuple elts kk tpos) (.Call (.Name "enumerate" p) [a] [] pos) (rI Y (iEnum ma)) := by
  refine pi_imp (L2.pi_enum hg hm (ra_cons (r := aNil) (Y := Y) ha ra_nil (by rw [hs]; rfl)) hs) fun σ H Q q => ?_
  rw [hK]
  obtain ⟨τ, h, ρ, S, st, p⟩ := q
  have q := PostI.bind p
  refine ⟨τ, h, ρ, S, st, ?_⟩
  unfold aCons
  cases f : ma Y.c τ h with
  | bad => rw [f] at q; exact q.elim
  | er k x h' => rw [f] at q; exact q
  | ok w h1 =>
    rw [f] at q
    show Post Y (RWs Y) σ h.n ρ H (.ok [w] h1) _
    intro ρ1 H1 vs e1 S1 r1
    obtain ⟨v, us, rfl, r1', r2⟩ := A2.cons_iff.mp r1
    replace r1 := r1'
    obtain rfl := A2.nil_iff.mp r2
    obtain ⟨a, h2, ρ2, e2, S2, r3, e0, p1⟩ := q ρ1 H1 v e1 S1 r1
    cases e0
    cases w with
    | ref b =>
      simp only at p1
      cases g : h1.lstAt b with
      | none => rw [g] at p1; exact p1.elim
      | some xs =>
        rw [g] at p1
        obtain ⟨vs, h3, h4⟩ := S2.seqOf g
        refine ⟨ρ2 b, vs, ?_, h3, PostI.ok p1 S2 (wlk_enum S2 g)⟩
        rw [r3.ref_.2]
    | _ => exact p1.elim
theorem ri_zip (hK : X.K = Y.K) {a b : Expr} {ma mb : E} {elts : List Expr} {kk : Nat} {tpos p pos : Pos} (hg : L2.Gl X "zip") (hm : X.mg "zip" = none) (ha : L2.PE X a (rE Y ma)) (hb : L2.PE X b (rE Y mb))
    (hs : starEach [a, b] X.env = (false, eval a X.env) :: starEach [b] X.env := by rfl) (hpl : (backTo pos (starEach [b] X.env)).any (·.1) = false := by rfl) (hs2 : starEach [b] X.env = (false, eval b X.env) :: starEach [] X.env := by rfl) :
    L2.PI X (.Tuple elts kk tpos) (.Call (.Name "zip" p) [a, b] [] pos) (rI Y (iZip ma mb)) := by
  refine pi_imp (RZ.pi_zipA hg hm (ra_cons (r := aCons mb aNil) (Y := Y) ha (ra_cons hb ra_nil hs2) hs) hs hpl) fun σ H Q q => ?_
  rw [hK]
  obtain ⟨τ, h, ρ, S, st, p⟩ := q
  refine ⟨τ, h, ρ, S, st, post2 p ?_⟩
  intro w1 w2 h2 ρ2 H2 v1 v2 e2 S2 r1 r2 p1
  cases w1 with
  | tup xs => cases w2 with
    | tup ys =>
      obtain ⟨a, vs, rfl, h3, h4⟩ := r1.tup_
      obtain ⟨b, us, rfl, h5, h6⟩ := r2.tup_
      exact ⟨a, b, vs, us, rfl, .inr ⟨.of h3, .of h5, PostI.ok p1 S2 (wlk_zipT h3 h4 h5 h6)⟩⟩
    | _ => exact p1.elim
  | ref i => cases w2 with
    | ref j =>
      simp only at p1
      cases g : h2.lstAt i with
      | none => rw [g] at p1; exact p1.elim
      | some xs =>
        cases g' : h2.lstAt j with
        | none => rw [g, g'] at p1; exact p1.elim
        | some ys =>
          rw [g, g'] at p1
          obtain ⟨vs, h3, h4⟩ := S2.seqOf g
          obtain ⟨us, h5, h6⟩ := S2.seqOf g'
          rw [r1.ref_.2, r2.ref_.2]
          exact ⟨_, _, vs, us, rfl, .inl ⟨h3, h5, PostI.ok p1 S2 (wlk_zip S2 g g')⟩⟩
    | _ => exact p1.elim
  | _ => exact p1.elim

/-! ### for -/
theorem drop_get {α : Type} {l : List α} {i : Nat} {x : α} {r : List α} (h : l.drop i = x :: r) : l[i]? = some x ∧ l.drop (i + 1) = r ∧ i < l.length := by
  have hl : i < l.length := by
    rcases Nat.lt_or_ge i l.length with q | q
    · exact q
    · rw [List.drop_eq_nil_of_le q] at h; cases h
  rw [List.drop_eq_getElem_cons hl] at h
  cases h
  exact ⟨List.getElem?_eq_getElem hl, rfl, hl⟩
theorem r_for {iter : Expr} {body : List Stmt} {i : I} {g : G} {b : S} {pos : Pos} (hp : PassesOwn (model X.prog X.w) X.A X.env X.xe) (hc : X.calm = true) (hi : L2.PI X tg iter (rI Y i)) (hg : L2.PG X tg (TGm Y g)) (hb : L2.PSs X body (TS Y b))
    (hs : ∀ x, foldedSetIterable iter X.env x = pure x := by intro _; rfl) : L2.PS X (.For tg iter body [] pos) (TS Y (sFor i g b)) := by
  refine ps_imp (L2.ps_for hp hc hi hg hb hs) fun D σ H q => ?_
  obtain ⟨τ, h, ρ, S, st, p⟩ := q
  refine ⟨τ, h, ρ, S, st, ?_⟩
  unfold sFor at p
  cases f : i Y.c τ h with
  | bad => rw [f] at p; exact p
  | er k x h' => rw [f] at p; exact fun ρ' H' d e s r => p ρ' H' σ d e s (st.mono e) r
  | ok w h1 =>
    rw [f] at p
    have p : PostS Y h.n ρ H (forL Y.c g b w.held w.items τ h1) D := p
    intro ρ1 H1 J e1 S1 wk
    refine ⟨fun i m σ H => m = w.items.length - i ∧ i ≤ w.items.length ∧ ∃ τ h ρ, Ext h1.n ρ1 H1 h.n ρ H ∧ Sim Y.Γ Y.K h ρ H ∧ StR Y.Γ Y.K h.n ρ H τ σ ∧ PostS Y h.n ρ H (forL Y.c g b w.held (w.items.drop i) τ h) D,
      ⟨_, rfl, Nat.zero_le _, τ, h1, ρ1, .refl, S1, st.mono e1, PostS.rebase p e1⟩, ?_⟩
    rintro i m σ2 H2 ⟨rfl, hi, τ2, h2, ρ2, e2, S2, st2, p2⟩
    cases q : w.items.drop i with
    | nil =>
      rw [q] at p2
      have hl : i = w.items.length := by
        have := congrArg List.length q
        simp at this; omega
      subst hl
      unfold forL at p2
      split at p2
      · rename_i hh
        exact .inl ⟨wk.stops h2 ρ2 H2 e2 S2 hh, PostS.nx p2 S2 st2⟩
      · exact p2.elim
    | cons x xs =>
      rw [q] at p2
      obtain ⟨hx, hd, hl⟩ := drop_get q
      unfold forL at p2
      split at p2
      · rename_i hh
        refine .inr ⟨wk.goes i h2 ρ2 H2 e2 S2 hh hl, fun σ' H' => ∃ m', m' < w.items.length - i ∧ (m' = w.items.length - (i + 1) ∧ i + 1 ≤ w.items.length ∧ ∃ τ h ρ, Ext h1.n ρ1 H1 h.n ρ H' ∧ Sim Y.Γ Y.K h ρ H' ∧ StR Y.Γ Y.K h.n ρ H' τ σ' ∧ PostS Y h.n ρ H' (forL Y.c g b w.held (w.items.drop (i + 1)) τ h) D), fun σ' H' z => z, ?_⟩
        intro v H3 y
        obtain ⟨u, hu, e3, S3, r3⟩ := wk.yields i h2 ρ2 H2 v H3 e2 S2 hh hl y
        rw [hx] at hu
        cases hu
        refine ⟨x, τ2, h2, ρ2, S3, st2.mono e3, r3, ?_⟩
        cases f2 : g x Y.c τ2 h2 with
        | bad => rw [f2] at p2; exact p2.elim
        | go τ3 h3 =>
          rw [f2] at p2
          simp only at p2
          intro ρ4 H4 σ4 e4 S4 st4
          refine ⟨τ3, h3, ρ4, S4, st4, ?_⟩
          have e34 := e3.trans e4
          have next : ∀ {τ5 : St} {h5 : Hh}, PostS Y h2.n ρ2 H2 (forL Y.c g b w.held xs τ5 h5) D → ∀ ρ' H' σ', Ext h3.n ρ4 H4 h5.n ρ' H' → Sim Y.Γ Y.K h5 ρ' H' → StR Y.Γ Y.K h5.n ρ' H' τ5 σ' →
              ∃ m', m' < w.items.length - i ∧ (m' = w.items.length - (i + 1) ∧ i + 1 ≤ w.items.length ∧ ∃ τ h ρ, Ext h1.n ρ1 H1 h.n ρ H' ∧ Sim Y.Γ Y.K h ρ H' ∧ StR Y.Γ Y.K h.n ρ H' τ σ' ∧ PostS Y h.n ρ H' (forL Y.c g b w.held (w.items.drop (i + 1)) τ h) D) := by
            intro τ5 h5 pp ρ' H' σ' e5 S5 st5
            refine ⟨_, by omega, rfl, hl, τ5, h5, ρ', ((e2.trans e3).trans e4).trans e5, S5, st5, ?_⟩
            rw [hd]
            exact PostS.rebase pp (e34.trans e5)
          cases f3 : b Y.c τ3 h3 with
          | bad => rw [f3] at p2; exact p2
          | nx τ5 h5 => rw [f3] at p2; exact next p2
          | ct τ5 h5 => rw [f3] at p2; exact next p2
          | bk τ5 h5 => rw [f3] at p2; exact fun ρ' H' σ' e5 S5 st5 => p2 ρ' H' σ' (e34.trans e5) S5 st5
          | rt u5 h5 => rw [f3] at p2; exact fun ρ' H' v' e5 => p2 ρ' H' v' (e34.trans e5)
          | er k5 q5 τ5 h5 => rw [f3] at p2; exact fun ρ' H' σ' d' e5 => p2 ρ' H' σ' d' (e34.trans e5)
      · exact p2.elim
theorem r_while {t : Expr} {body : List Stmt} {n : Nat} {mt : T} {b : S} {pos : Pos} (hp : PassesOwn (model X.prog X.w) X.A X.env X.xe) (ht : L2.PT X t (rT Y mt)) (hb : L2.PSs X body (TS Y b)) : L2.PS X (.While t body [] pos) (TS Y (sWhile n mt b)) := by
  refine ps_imp (L2.ps_while hp ht hb) fun D σ H q => ?_
  obtain ⟨τ, h, ρ, S, st, p⟩ := q
  refine ⟨fun m σ H => ∃ τ h ρ, Sim Y.Γ Y.K h ρ H ∧ StR Y.Γ Y.K h.n ρ H τ σ ∧ PostS Y h.n ρ H (whileL Y.c mt b m τ h) D, ⟨n, τ, h, ρ, S, st, p⟩, ?_⟩
  rintro m σ2 H2 ⟨τ2, h2, ρ2, S2, st2, p2⟩
  cases m with
  | zero => exact p2.elim
  | succ m =>
    unfold whileL at p2
    refine ⟨τ2, h2, ρ2, S2, st2, ?_⟩
    cases f : mt Y.c τ2 h2 with
    | bad => rw [f] at p2; exact p2
    | er k x h' => rw [f] at p2; exact fun ρ' H' d e s r => p2 ρ' H' σ2 d e s (st2.mono e) r
    | ok k h3 =>
      rw [f] at p2
      intro ρ3 H3 k' e3 S3 rr
      subst rr
      cases k with
      | false => exact p2 ρ3 H3 σ2 e3 S3 (st2.mono e3)
      | true =>
        simp only at p2
        refine ⟨fun σ' H' => ∃ m', m' < m + 1 ∧ ∃ τ h ρ, Sim Y.Γ Y.K h ρ H' ∧ StR Y.Γ Y.K h.n ρ H' τ σ' ∧ PostS Y h.n ρ H' (whileL Y.c mt b m' τ h) D, fun σ' H' z => z, τ2, h3, ρ3, S3, st2.mono e3, ?_⟩
        have next : ∀ {τ5 : St} {h5 : Hh}, PostS Y h2.n ρ2 H2 (whileL Y.c mt b m τ5 h5) D → ∀ ρ' H' σ', Ext h3.n ρ3 H3 h5.n ρ' H' → Sim Y.Γ Y.K h5 ρ' H' → StR Y.Γ Y.K h5.n ρ' H' τ5 σ' →
            ∃ m', m' < m + 1 ∧ ∃ τ h ρ, Sim Y.Γ Y.K h ρ H' ∧ StR Y.Γ Y.K h.n ρ H' τ σ' ∧ PostS Y h.n ρ H' (whileL Y.c mt b m' τ h) D := by
          intro τ5 h5 pp ρ' H' σ' e5 S5 st5
          exact ⟨m, Nat.lt_succ_self _, τ5, h5, ρ', S5, st5, PostS.rebase pp (e3.trans e5)⟩
        cases f3 : b Y.c τ2 h3 with
        | bad => rw [f3] at p2; exact p2
        | nx τ5 h5 => rw [f3] at p2; exact next p2
        | ct τ5 h5 => rw [f3] at p2; exact next p2
        | bk τ5 h5 => rw [f3] at p2; exact fun ρ' H' σ' e5 S5 st5 => p2 ρ' H' σ' (e3.trans e5) S5 st5
        | rt u5 h5 => rw [f3] at p2; exact fun ρ' H' v' e5 => p2 ρ' H' v' (e3.trans e5)
        | er k5 q5 τ5 h5 => rw [f3] at p2; exact fun ρ' H' σ' d' e5 => p2 ρ' H' σ' d' (e3.trans e5)

/-! ### op=, two names at once -/
def rAug : Op → L2.R2
  | .add => fun x y H Q => L2.rI0 (fun i j => .int (i + j)) x y H Q ∨ (∃ i j, x = .str i ∧ y = .str j ∧ i.length + j.length ≤ sizeLine ∧ Q (.str (i ++ j)) H)
  | .sub => L2.rI0 fun i j => .int (i - j)
  | _ => fun _ _ _ _ => False
theorem pip_aug (o : Op) : L2.PIp X (opOf o) (rAug o) := by
  cases o with
  | add => exact L2.OpR.or (f := inplaceOp .Add) L2.iop_add L2.iop_add_str
  | sub => exact L2.iop_sub
  | _ => exact fun _ _ _ _ _ _ _ _ _ _ _ _ h => h.elim
theorem bi_aug (o : Op) : Bi Y (binA o) (rAug o) := by
  intro σ h ρ H a b x y Q S ra rb p
  cases o with
  | add =>
    cases a with
    | int i => cases b with
      | int j => exact .inl ⟨i, j, ra.int_, rb.int_, Post.ok p S RV.mkInt⟩
      | _ => exact p.elim
    | str s => cases b with
      | str t =>
        simp only [binA] at p
        split at p
        · rename_i hl
          refine .inr ⟨_, _, ra.str_, rb.str_, ?_, ?_⟩
          · rw [SX.S_len, SX.S_len]; exact ble_line.mp hl
          · rw [SX.S_cat]; exact Post.ok p S RV.mkStr
        · exact p.elim
      | _ => exact p.elim
    | _ => exact p.elim
  | sub =>
    cases a with
    | int i => cases b with
      | int j => exact ⟨i, j, ra.int_, rb.int_, Post.ok p S RV.mkInt⟩
      | _ => exact p.elim
    | _ => exact p.elim
  | _ => exact p.elim
theorem r_aug {i : Nat} {x : Str} {e : Expr} {m : E} {o : Op} {pos pos' : Pos} (hN : X.N.Nodup) (hi : X.N[i]? = some x) (hx : L2.Loc X.env.scope x) (he : L2.PE X e (rE Y m)) (hf : X.fn x = true ∨ X.env.scope.names.lookup x = some .local) :
    L2.PS X (.AugAssign (.Name x pos') (opOf o) e pos) (TS Y (sAug i o m)) := by
  refine ps_imp (L2.ps_aug hN hi hx he (pip_aug o) hf) fun D σ H q => ?_
  obtain ⟨τ, h, ρ, S, st, p⟩ := q
  unfold sAug at p
  cases f : τ[i]? with
  | none => rw [f] at p; exact p.elim
  | some ow => cases ow with
    | none => rw [f] at p; exact p.elim
    | some w =>
      rw [f] at p
      simp only at p
      obtain ⟨v, h1, r1⟩ := st.2 i w f
      refine ⟨v, h1, τ, h, ρ, S, st, (PostS.ofE (h := h) st p).mono ?_⟩
      rintro y H1 ⟨w1, h1, ρ1, e1, S1, r2, _, p1⟩
      refine bi_aug o σ h1 ρ1 H1 w w1 v y _ S1 (r1.mono e1) r2 ((PostS.ofE (h := h1) (st.mono e1) p1).mono ?_)
      rintro z H2 ⟨w2, h2, ρ2, e2, S2, r3, _, p2⟩
      exact PostS.nx p2 S2 (((st.mono e1).mono e2).set i r3)
theorem r_set {i : Nat} {x : Str} {e : Expr} {m : E} {pos pos' : Pos} (hN : X.N.Nodup) (hi : X.N[i]? = some x) (hx : L2.Loc X.env.scope x) (he : L2.PE X e (rE Y m)) (hf : X.fn x = true ∨ X.env.scope.names.lookup x = some .local)
    (hs : swapsWith e (some (.Name x pos')) pos.line X.env = pure false := by rfl) : L2.PS X (.Assign [.Name x pos'] e pos) (TS Y (sAsg (gV i) m)) := by
  refine ps_imp (L2.ps_set hN hi hx he hs hf) fun D σ H q => ?_
  obtain ⟨τ, h, ρ, S, st, p⟩ := q
  refine ⟨τ, h, ρ, S, st, (PostS.ofE (h := h) st p).mono ?_⟩
  rintro v H1 ⟨w, h1, ρ1, e1, S1, r1, _, p1⟩
  exact PostS.nx p1 S1 ((st.mono e1).set i r1)
theorem r_par {i j : Nat} {x y : Str} {a b : Expr} {ma mb : E} {px py pt pos : Pos} {kt k2 : Nat} {pt2 : Pos} (hc : X.calm = true) (hN : X.N.Nodup) (hi : X.N[i]? = some x) (hj : X.N[j]? = some y) (hij : i ≠ j)
    (hx : X.env.scope.names.lookup x = some .local) (hy : X.env.scope.names.lookup y = some .local) (ha : L2.PE X a (rE Y ma)) (hb : L2.PE X b (rE Y mb))
    (hw : swappedStores [.Tuple [.Name x px, .Name y py] kt pt] (.Tuple [a, b] k2 pt2) X.env = pure (some [x, y]))
    (hs : swapsWithSole [.Tuple [.Name x px, .Name y py] kt pt] (.Tuple [a, b] k2 pt2) pos.line X.env = pure false := by rfl)
    (h1 : starEach [a, b] X.env = (false, eval a X.env) :: starEach [b] X.env := by rfl) (h2 : starEach [b] X.env = (false, eval b X.env) :: starEach [] X.env := by rfl) :
    L2.PS X (.Assign [.Tuple [.Name x px, .Name y py] kt pt] (.Tuple [a, b] k2 pt2) pos) (TS Y (sPar i j ma mb)) := by
  refine ps_imp (L2.ps_par hc hN hi hj hij hx hy (ra_cons (r := aCons mb aNil) (Y := Y) ha (ra_cons hb ra_nil h2) h1) hw hs) fun D σ H q => ?_
  obtain ⟨τ, h, ρ, S, st, p⟩ := q
  refine ⟨τ, h, ρ, S, st, ?_⟩
  have q1 := PostS.ofE (h := h) st p
  unfold aCons
  cases f1 : ma Y.c τ h with
  | bad => rw [f1] at q1; exact q1.elim
  | er _ _ _ => rw [f1] at q1; exact q1
  | ok w h1 =>
    unfold sPar at p
    rw [f1] at p
    simp only [R.bind, R.f] at p ⊢
    cases f2 : mb Y.c τ h1 with
    | bad => rw [f2] at p; exact p.elim
    | er _ _ _ => rw [f2] at p; exact fun ρ' H' d e s r => p ρ' H' σ d e s (st.mono e) r
    | ok w' h2 =>
      rw [f2] at p
      simp only [aNil] at p ⊢
      intro ρ1 H1 vs e1 S1 r1
      obtain ⟨v, us, rfl, r1', r2⟩ := A2.cons_iff.mp r1
      replace r1 := r1'
      obtain ⟨v', us', rfl, r2', r3⟩ := A2.cons_iff.mp r2
      replace r2 := r2'
      obtain rfl := A2.nil_iff.mp r3
      exact ⟨v, v', rfl, p ρ1 H1 _ e1 S1 (((st.mono e1).set i r1).set j r2)⟩
end
end PV

set_option Elab.async false
set_option linter.all false
set_option autoImplicit false
set_option maxRecDepth 100000
set_option maxHeartbeats 2000000
/-! Snd7: calls of defs, built-ins, methods, isinstance. -/
namespace PV
open PySem
/-- the promise of a def: what the machine says -/
def spD (Γ : Gam) (K : Fg) (ar : Nat) (d : List W → Hh → R W) : L2.Sp := fun vs H Q E => vs.length = ar ∧ ∃ ws h ρ c, Sim Γ K h ρ H ∧ A2 (RV Γ K h.n ρ H) ws vs ∧ Post ⟨Γ, K, fun cls d _ H' => E cls d H', c⟩ (RW ⟨Γ, K, fun cls d _ H' => E cls d H', c⟩) [] h.n ρ H (d ws h) Q
structure Callee (P : Program) (w : World) (K : Fg) (mg : Str → Option Value) (base : Heap) (Γ : Gam) (n : Nat) (k : Nat) (d : List W → Hh → R W) : Prop where
  ex : ∃ (fd : FuncData) (ps : List Str), L2.FnOk P w K mg base (L2N.CX P w) n (Γ.fa k) fd ps (spD Γ K ps.length d) ∧ PySem.W.keepIn K (.ref (Γ.fa k)) = true ∧ L2.Binds K fd ps [] ∧ ∀ ws h, ws.length ≠ ps.length → d ws h = .bad
/-- all defs at a level -/
def Defs (P : Program) (w : World) (K : Fg) (mg : Str → Option Value) (base : Heap) (Γ : Gam) (n : Nat) (d : Dfn) : Prop := ∀ k, k < Γ.nf → Callee P w K mg base Γ n k (d k)
section
variable {X : L2.Cx} {Y : Yv}
theorem spD_of {ar : Nat} {d : List W → Hh → R W} {σ : L2.St} {h : Hh} {ρ : Nat → Addr} {H : Hp} {ws : List W} {vs : List V} {Q : L2.VK} (hl : ∀ ws h, ws.length ≠ ar → d ws h = .bad) (S : Sim Y.Γ Y.K h ρ H) (r : A2 (RV Y.Γ Y.K h.n ρ H) ws vs)
    (p : Post Y (RW Y) σ h.n ρ H (d ws h) Q) : spD Y.Γ Y.K ar d vs H Q (L2.WE Y.W σ) := by
  have hw : ws.length = ar := by
    by_cases e : ws.length = ar
    · exact e
    · rw [hl ws h e] at p; exact p.elim
  refine ⟨r.len.symm.trans hw, ws, h, ρ, Y.c, S, r, ?_⟩
  cases e : d ws h with
  | ok a h' => rw [e] at p; exact p
  | er k x h' => rw [e] at p; exact p
  | bad => rw [e] at p; exact p
theorem r_call {n k : Nat} {x : Str} {e : Expr} {es : List Expr} {m : Es} {p pos : Pos} (hK : X.K = Y.K) (D : Callee X.prog X.w X.K X.mg X.base Y.Γ n k (Y.c.d k)) (tk : L2N.Takes X Y.W) (hr : L2.Room n X.A) (hg : L2.Gl X x) (hm : X.mg x = some (.ref (Y.Γ.fa k)))
    (ha : L2.PA X (e :: es) (rA Y m)) (hdb : (x == ("__debug__" : Str)) = false := by decide) (he : starEach (e :: es) X.env = (false, eval e X.env) :: starEach es X.env := by rfl) (hpl : (backTo pos (starEach es X.env)).any (·.1) = false := by rfl) :
    L2.PE X (.Call (.Name x p) (e :: es) [] pos) (rE Y (eCall k m)) := by
  obtain ⟨fd, ps, F, kp, b, hl⟩ := D.ex
  refine pe_imp (L2.pe_callS F hr hg hm kp b (fun σ => L2N.passAt tk σ) ha hdb he hpl) fun σ H Q q => ?_
  obtain ⟨τ, h, ρ, S, st, p⟩ := q
  refine ⟨τ, h, ρ, S, st, (Post.bind (RA := RWs Y) p).mono ?_⟩
  rintro vs H1 ⟨ws, h1, ρ1, e1, S1, r1, _, p1⟩
  rw [hK]
  exact spD_of hl S1 r1 p1
theorem r_call0 {n k : Nat} {x : Str} {p pos : Pos} (hK : X.K = Y.K) (D : Callee X.prog X.w X.K X.mg X.base Y.Γ n k (Y.c.d k)) (hr : L2.Room n X.A) (hg : L2.Gl X x) (hm : X.mg x = some (.ref (Y.Γ.fa k))) (hdb : (x == ("__debug__" : Str)) = false := by decide) :
    L2.PE X (.Call (.Name x p) [] [] pos) (rE Y (eCall0 k)) := by
  obtain ⟨fd, ps, F, kp, b, hl⟩ := D.ex
  have hx : L2.Passes (L2N.CX X.prog X.w) X (fun _ _ _ => False) := fun pins σ H s e s' I c => by
    obtain ⟨_, _, _, _, _, _, _, _, _, _, _, _, z⟩ := c
    exact z.elim
  refine pe_imp (L2.pe_call0 (dvs := []) F hr hg hm kp b .nil hx hdb) fun σ H Q q => ?_
  obtain ⟨τ, h, ρ, S, st, p⟩ := q
  have p' : Post Y (RW Y) σ h.n ρ H ((Y.c.d k [] h).nox) Q := p
  have hw : ([] : List W).length = ps.length := by
    by_cases e : ([] : List W).length = ps.length
    · exact e
    · rw [hl [] h e] at p'; exact p'.elim
  rw [hK]
  refine ⟨hw, [], h, ρ, Y.c, S, trivial, ?_⟩
  cases e : Y.c.d k [] h with
  | ok a h' => rw [e] at p'; exact p'
  | er k x h' => rw [e] at p'; exact p'.elim
  | bad => rw [e] at p'; exact p'.elim
/-- the def that a slot holds -/
theorem r_callV {n i : Nat} {x : Str} {e : Expr} {es : List Expr} {m : Es} {p pos : Pos} (hK : X.K = Y.K) (D : Defs X.prog X.w X.K X.mg X.base Y.Γ n Y.c.d) (tk : L2N.Takes X Y.W) (hr : L2.Room n X.A) (hN : X.N[i]? = some x) (hv : L2.Vis X.env.scope x)
    (ha : L2.PA X (e :: es) (rA Y m)) (hdb : (x == ("__debug__" : Str)) = false := by decide) (hcd : (x == ("__classdict__" : Str)) = false := by decide)
    (he : starEach (e :: es) X.env = (false, eval e X.env) :: starEach es X.env := by rfl) (hpl : (backTo pos (starEach es X.env)).any (·.1) = false := by rfl) :
    L2.PE X (.Call (.Name x p) (e :: es) [] pos) (rE Y (eCallV i m)) := by
  refine ⟨fun pins s σ H Q I q => ?_⟩
  obtain ⟨τ, h, ρ, S, st, pp⟩ := q
  unfold eCallV at pp
  cases f : τ[i]? with
  | none => rw [f] at pp; exact pp.elim
  | some ow => cases ow with
    | none => rw [f] at pp; exact pp.elim
    | some w => cases w with
      | fn k =>
        rw [f] at pp
        simp only at pp
        obtain ⟨v, h1, r1⟩ := st.2 i _ f
        unfold RV at r1
        obtain ⟨hk, rfl⟩ := r1
        obtain ⟨fd, ps, F, kp, b, hl⟩ := (D k hk).ex
        refine wpAny_Call_Name_kw (L2.thn ((L2.pe_var (pos := p) (i := i) hN hv hdb hcd).run pins s σ H (fun v H1 => v = .ref (Y.Γ.fa k) ∧ H1 = H) I ⟨.ref (Y.Γ.fa k), h1, rfl, rfl⟩) fun u s1 ⟨v, H1, I1, r1, q1⟩ => ?_)
        obtain ⟨ev, eH⟩ := q1
        subst ev
        subst eH
        obtain rfl : u = Value.ref (Y.Γ.fa k) := r1
        refine PySem.W.callWith_K (h₀ := X.base) I1.ok.mod.kin kp (L2.thn (ha.run pos pins s1 σ H1 _ I1 ⟨τ, h, ρ, S, st, (Post.bind (RA := RWs Y) pp)⟩) fun us s2 hh => ?_) he hpl
        obtain ⟨vs, H2, I2, r2, ws, h2, ρ2, e2, S2, rr, _, p2⟩ := hh
        refine ⟨I2.kIn, ?_⟩
        refine L2.run_fnS F hr b (L2N.passAt tk σ) I2 r2 ?_
        rw [hK]
        exact spD_of hl S2 rr p2
      | _ => rw [f] at pp; exact pp.elim

/-! ### built-ins of one argument -/
def Un1 (Y : Yv) (m : W → Hh → R W) (r : List V → Hp → L2.VK → Prop) : Prop :=
  ∀ (σ : L2.St) (h : Hh) (ρ : Nat → Addr) (H : Hp) (a : W) (x : V) (Q : L2.VK), Sim Y.Γ Y.K h ρ H → RV Y.Γ Y.K h.n ρ H a x → Post Y (RW Y) σ h.n ρ H (m a h) Q → r [x] H Q
theorem tCB1 {m : W → Hh → R W} {r : List V → Hp → L2.VK → Prop} (u : Un1 Y m r) {ma : E} {σ : L2.St} {H : Hp} {Q : L2.VK} (q : rE Y (eB m ma) σ H Q) : L2.tCB r (rA Y (aCons ma aNil)) σ H Q := by
  obtain ⟨τ, h, ρ, S, st, p⟩ := q
  refine ⟨τ, h, ρ, S, st, ?_⟩
  have q1 := Post.bind (RA := RW Y) p
  unfold aCons
  cases f : ma Y.c τ h with
  | bad => rw [f] at q1; exact q1.elim
  | er _ _ _ => rw [f] at q1; exact q1
  | ok w h1 =>
    rw [f] at q1
    show Post Y (RWs Y) σ h.n ρ H (.ok [w] h1) _
    intro ρ1 H1 vs e1 S1 r1
    obtain ⟨v, us, rfl, r1', r2⟩ := A2.cons_iff.mp r1
    obtain rfl := A2.nil_iff.mp r2
    obtain ⟨a, h2, ρ2, e2, S2, r3, e0, p1⟩ := q1 ρ1 H1 v e1 S1 r1'
    cases e0
    exact u σ h1 ρ2 H1 w v Q S2 r3 p1
theorem r_B {x : Str} {id : String} {r : List V → Hp → L2.VK → Prop} {m : W → Hh → R W} {a : Expr} {ma : E} {p pos : Pos} (hc : L2.CallR X (.builtin id) r) (u : Un1 Y m r) (hg : L2.Gl X x) (hm : X.mg x = none) (hv : bootBuiltins x = some (.builtin id)) (ha : L2.PE X a (rE Y ma))
    (hn : x ≠ "__name__" := by decide) (hdb : (x == ("__debug__" : Str)) = false := by decide) (he : starEach [a] X.env = (false, eval a X.env) :: starEach [] X.env := by rfl) (hpl : (backTo pos (starEach [] X.env)).any (·.1) = false := by rfl) :
    L2.PE X (.Call (.Name x p) [a] [] pos) (rE Y (eB m ma)) :=
  pe_imp (L2.pe_callB hc hg hm hv (ra_cons ha ra_nil he) hn hdb he hpl) fun _ _ _ q => tCB1 u q
theorem r_Ty {x : Str} {T : String} {r : List V → Hp → L2.VK → Prop} {m : W → Hh → R W} {a : Expr} {ma : E} {p pos : Pos} (hc : L2.CallR X (.type T) r) (u : Un1 Y m r) (hg : L2.Gl X x) (hm : X.mg x = none) (hv : bootBuiltins x = some (.type T)) (ha : L2.PE X a (rE Y ma))
    (hn : x ≠ "__name__" := by decide) (hdb : (x == ("__debug__" : Str)) = false := by decide) (he : starEach [a] X.env = (false, eval a X.env) :: starEach [] X.env := by rfl) (hpl : (backTo pos (starEach [] X.env)).any (·.1) = false := by rfl) :
    L2.PE X (.Call (.Name x p) [a] [] pos) (rE Y (eB m ma)) :=
  pe_imp (L2.pe_callTy hc hg hm hv (ra_cons ha ra_nil he) hn hdb he hpl) fun _ _ _ q => tCB1 u q
/-- len -/
def rLen (K : Fg) : List V → Hp → L2.VK → Prop := fun xs H Q => (∃ x n, xs = [x] ∧ L2.LenV K x H n ∧ Q (.int n) H) ∨ ∃ d kvs, xs = [.ref d] ∧ H d = some (.dK kvs) ∧ Q (.int kvs.length) H
theorem call_len_dk : L2.CallR X (.builtin "len") (fun xs H Q => ∃ d kvs, xs = [.ref d] ∧ H d = some (.dK kvs) ∧ Q (.int kvs.length) H) := by
  intro pins s σ H xs us Q I r h
  obtain ⟨d, kvs, rfl, e, q⟩ := h
  obtain ⟨u, rfl, ru⟩ := L2.Vals.one r
  obtain rfl : u = Value.ref d := ru
  exact L2.d_len I (.inl e) fun t s' I' => ⟨.int kvs.length, H, I', ⟨t, rfl⟩, q⟩
theorem un_len : Un1 Y bLen (rLen Y.K) := by
  intro σ h ρ H a x Q S r p
  unfold bLen at p
  cases e : lenW a h with
  | none => rw [e] at p; exact p.elim
  | some i =>
    rw [e] at p
    have q := Post.ok p S RV.mkInt
    unfold lenW at e
    cases a with
    | str s =>
      simp only at e
      split at e
      · rename_i hf
        cases e
        refine .inl ⟨x, s.length, rfl, ?_, q⟩
        rw [r.str_]
        exact ⟨by rw [SX.S_len]; exact fits_iff.mp hf, (SX.S_len s).symm⟩
      · cases e
    | tup xs =>
      obtain ⟨b, vs, rfl, h2, h3⟩ := r.tup_
      cases e
      refine .inl ⟨_, vs.length, rfl, .inr ⟨vs, .of h2, rfl⟩, ?_⟩
      rw [← h3.len]; exact q
    | ref b =>
      simp only at e
      cases g : h.get b with
      | none => rw [g] at e; cases e
      | some o =>
        rw [g] at e
        cases o with
        | lst xs =>
          obtain ⟨vs, h1, h2⟩ := S.obj b _ g
          cases e
          rw [r.ref_.2]
          refine .inl ⟨_, vs.length, rfl, .inl ⟨vs, .inl (.inl h1), rfl⟩, ?_⟩
          rw [← h2.len]; exact q
        | ro xs =>
          obtain ⟨vs, h1, h2⟩ := S.obj b _ g
          cases e
          rw [r.ref_.2]
          refine .inl ⟨_, vs.length, rfl, .inl ⟨vs, h1.sq, rfl⟩, ?_⟩
          rw [← h2.len]; exact q
        | dk kvs =>
          obtain ⟨ks, h1, h2⟩ := S.obj b _ g
          cases e
          rw [r.ref_.2]
          refine .inr ⟨_, ks, rfl, h1, ?_⟩
          rw [← h2.len]; exact q
        | _ => cases e
    | _ => cases e
theorem call_len' : L2.CallR X (.builtin "len") (rLen X.K) := L2.CallR.or L2.call_len call_len_dk
theorem un_abs : Un1 Y bAbs (fun xs H Q => ∃ i, xs = [.int i] ∧ Q (.int (if i < 0 then -i else i)) H) := by
  intro σ h ρ H a x Q S r p
  cases a with
  | int i => exact ⟨i, by rw [r.int_], Post.ok p S RV.mkInt⟩
  | _ => exact p.elim
theorem un_int : Un1 Y bInt (fun xs H Q => (∃ i, xs = [.int i] ∧ Q (.int i) H) ∨ ∃ k, xs = [.bl k] ∧ Q (.int (if k then 1 else 0)) H) := by
  intro σ h ρ H a x Q S r p
  cases a with
  | int i => exact .inl ⟨i, by rw [r.int_], Post.ok p S RV.mkInt⟩
  | _ => exact p.elim
theorem un_list : Un1 Y bList (fun xs H Q => ∃ p ys, xs = [.ref p] ∧ (L2.SqL Y.K H p ys ∨ L2.SqT Y.K H p ys) ∧ ∀ l, H l = none → Q (.ref l) (L2.upd H l (.lst ys))) := by
  intro σ h ρ H a x Q S r p
  cases a with
  | tup xs =>
    obtain ⟨b, vs, rfl, h2, h3⟩ := r.tup_
    exact ⟨b, vs, rfl, .inr (.of h2), Post.list p S h3⟩
  | ref b =>
    unfold bList at p
    simp only at p
    cases g : h.lstAt b with
    | none => rw [g] at p; exact p.elim
    | some xs =>
      rw [g] at p
      obtain ⟨vs, h1, h2⟩ := S.seqOf g
      exact ⟨_, vs, by rw [r.ref_.2], .inl h1, Post.list p S h2⟩
  | _ => exact p.elim
theorem un_tuple : Un1 Y bTuple (fun xs H Q => (∃ a ys, xs = [.ref a] ∧ L2.SqT Y.K H a ys ∧ Q (.ref a) H) ∨ ∃ p ys, xs = [.ref p] ∧ ((L2.SqL Y.K H p ys ∧ ∀ l, H l = none → Q (.ref l) (L2.upd H l (.tup ys))) ∨ (L2.SqT Y.K H p ys ∧ Q (.ref p) H))) := by
  intro σ h ρ H a x Q S r p
  cases a with
  | tup xs =>
    obtain ⟨b, vs, rfl, h2, h3⟩ := r.tup_
    exact .inl ⟨b, vs, rfl, .of h2, Post.ok p S r⟩
  | ref b =>
    unfold bTuple at p
    simp only at p
    cases g : h.lstAt b with
    | none => rw [g] at p; exact p.elim
    | some xs =>
      rw [g] at p
      obtain ⟨vs, h1, h2⟩ := S.seqOf g
      exact .inr ⟨_, vs, by rw [r.ref_.2], .inl ⟨h1, Post.tuple p S h2⟩⟩
  | _ => exact p.elim
theorem call_tuple' : L2.CallR X (.type "tuple") (fun xs H Q => (∃ a ys, xs = [.ref a] ∧ L2.SqT X.K H a ys ∧ Q (.ref a) H) ∨ ∃ p ys, xs = [.ref p] ∧ ((L2.SqL X.K H p ys ∧ ∀ l, H l = none → Q (.ref l) (L2.upd H l (.tup ys))) ∨ (L2.SqT X.K H p ys ∧ Q (.ref p) H))) := L2.CallR.or L2.call_tupleT L2.call_tuple_of
theorem a2_bls {n : Nat} {ρ : Nat → Addr} {H : Hp} : ∀ {xs : List W} {vs : List V} {bs : List Bool}, A2 (RV Y.Γ Y.K n ρ H) xs vs → toBls xs = some bs → vs = bs.map L2.V.bl
  | xs, vs, bs, r, e => by
    have m := mapO_some e
    clear e
    revert vs bs
    induction xs with
    | nil => intro vs bs r m; rw [A2.nil_iff] at r m; subst r; subst m; rfl
    | cons x xs ih =>
      intro vs bs r m
      obtain ⟨v, us, rfl, r1, r2⟩ := A2.cons_iff.mp r
      obtain ⟨b, cs, rfl, m1, m2⟩ := A2.cons_iff.mp m
      rw [ih _ _ r2 m2]
      cases x with
      | bl k => cases m1; rw [r1.bl_]; rfl
      | _ => cases m1
theorem a2_ints {n : Nat} {ρ : Nat → Addr} {H : Hp} : ∀ {xs : List W} {vs : List V} {bs : List Int}, A2 (RV Y.Γ Y.K n ρ H) xs vs → toInts xs = some bs → vs = bs.map L2.V.int
  | xs, vs, bs, r, e => by
    have m := mapO_some e
    clear e
    revert vs bs
    induction xs with
    | nil => intro vs bs r m; rw [A2.nil_iff] at r m; subst r; subst m; rfl
    | cons x xs ih =>
      intro vs bs r m
      obtain ⟨v, us, rfl, r1, r2⟩ := A2.cons_iff.mp r
      obtain ⟨b, cs, rfl, m1, m2⟩ := A2.cons_iff.mp m
      rw [ih _ _ r2 m2]
      cases x with
      | int k => cases m1; rw [r1.int_]; rfl
      | _ => cases m1
theorem a2_strs {n : Nat} {ρ : Nat → Addr} {H : Hp} : ∀ {xs : List W} {vs : List V} {bs : List (List Nat)}, A2 (RV Y.Γ Y.K n ρ H) xs vs → toStrs xs = some bs → vs = (bs.map SX.S).map L2.V.str
  | xs, vs, bs, r, e => by
    have m := mapO_some e
    clear e
    revert vs bs
    induction xs with
    | nil => intro vs bs r m; rw [A2.nil_iff] at r m; subst r; subst m; rfl
    | cons x xs ih =>
      intro vs bs r m
      obtain ⟨v, us, rfl, r1, r2⟩ := A2.cons_iff.mp r
      obtain ⟨b, cs, rfl, m1, m2⟩ := A2.cons_iff.mp m
      rw [ih _ _ r2 m2]
      cases x with
      | str k => cases m1; rw [r1.str_]; rfl
      | _ => cases m1
theorem onList_of {f : List W → Hh → R W} {σ : L2.St} {h : Hh} {ρ : Nat → Addr} {H : Hp} {a : W} {x : V} {Q : L2.VK} (S : Sim Y.Γ Y.K h ρ H) (r : RV Y.Γ Y.K h.n ρ H a x) (p : Post Y (RW Y) σ h.n ρ H (onList f a h) Q) :
    ∃ b xs vs, x = .ref b ∧ L2.SqL Y.K H b vs ∧ A2 (RV Y.Γ Y.K h.n ρ H) xs vs ∧ Post Y (RW Y) σ h.n ρ H (f xs h) Q := by
  cases a with
  | ref b =>
    unfold onList at p
    simp only at p
    cases g : h.lstAt b with
    | none => rw [g] at p; exact p.elim
    | some xs =>
      rw [g] at p
      obtain ⟨vs, h1, h2⟩ := S.seqOf g
      exact ⟨_, xs, vs, r.ref_.2, h1, h2, p⟩
  | _ => exact p.elim
theorem un_all : Un1 Y bAll (L2.rAll Y.K) := by
  intro σ h ρ H a x Q S r p
  obtain ⟨b, xs, vs, rfl, h1, h2, p⟩ := onList_of S r p
  cases e : toBls xs with
  | none => rw [e] at p; exact p.elim
  | some bs => rw [e] at p; exact ⟨b, bs, rfl, by rw [← a2_bls h2 e]; exact h1, Post.ok p S RV.mkBl⟩
theorem un_any : Un1 Y bAny (L2.rAny Y.K) := by
  intro σ h ρ H a x Q S r p
  obtain ⟨b, xs, vs, rfl, h1, h2, p⟩ := onList_of S r p
  cases e : toBls xs with
  | none => rw [e] at p; exact p.elim
  | some bs => rw [e] at p; exact ⟨b, bs, rfl, by rw [← a2_bls h2 e]; exact h1, Post.ok p S RV.mkBl⟩
end
end PV

set_option Elab.async false
set_option linter.all false
set_option autoImplicit false
set_option maxRecDepth 100000
set_option maxHeartbeats 2000000
/-! Snd8: comprehensions, isinstance, raise, try, a def that is handed a lambda. -/
namespace PV
open PySem
/-- nothing is borne -/
abbrev Yv.no (Y : Yv) : Yv := { Y with W := fun _ _ _ _ => False }
/-! ### comprehensions -/
theorem wipe_get (σ : L2.St) : ∀ (vs : List Nat) (j : Nat), (L2.wipe σ vs)[j]? = if j ∈ vs then (σ[j]?).map (fun _ => none) else σ[j]?
  | [], j => by simp [L2.wipe]
  | v :: vs, j => by
    unfold L2.wipe
    rw [List.getElem?_set]
    by_cases e : v = j
    · subst e
      rw [if_pos rfl, L2.wipe_length]
      simp only [List.mem_cons, true_or, if_true]
      by_cases h : v < σ.length
      · rw [if_pos h, List.getElem?_eq_getElem h]; rfl
      · rw [if_neg h, List.getElem?_eq_none (by omega)]; rfl
    · rw [if_neg e, wipe_get σ vs j]
      simp only [List.mem_cons, Ne.symm e, false_or]
theorem wipe_set {σ : L2.St} {vs : List Nat} {i : Nat} {o : Option V} (hi : i ∈ vs) : L2.wipe (σ.set i o) vs = L2.wipe σ vs := by
  apply List.ext_getElem?
  intro j
  rw [wipe_get, wipe_get]
  split
  · rw [List.getElem?_set]
    by_cases e : i = j
    · subst e
      rw [if_pos rfl]
      by_cases h : i < σ.length
      · rw [if_pos h, List.getElem?_eq_getElem h]; rfl
      · rw [if_neg h, List.getElem?_eq_none (by omega)]
    · rw [if_neg e]
  · rename_i hn
    rw [List.getElem?_set_ne]
    rintro rfl
    exact hn hi
theorem wipe_wipe (σ : L2.St) (vs : List Nat) : L2.wipe (L2.wipe σ vs) vs = L2.wipe σ vs := by
  apply List.ext_getElem?
  intro j
  rw [wipe_get, wipe_get]
  split
  · cases σ[j]? <;> rfl
  · rfl
theorem StR.wipe {Γ : Gam} {K : Fg} {n : Nat} {ρ : Nat → Addr} {H : Hp} {τ : St} {σ : L2.St} (st : StR Γ K n ρ H τ σ) : ∀ vs : List Nat, StR Γ K n ρ H (PV.wipe τ vs) (L2.wipe σ vs)
  | [] => st
  | v :: vs => by unfold PV.wipe L2.wipe; exact (StR.wipe st vs).unset v
/-- a comprehension's target: names of its own -/
def TgOk (Y : Yv) (vs : List Nat) (g : G) (t : L2.TG) : Prop :=
  ∀ (w : W) (τ : St) (h : Hh) (ρ : Nat → Addr) (H : Hp) (σ : L2.St) (v : V) (Q : L2.St → Hp → Prop), Sim Y.Γ Y.K h ρ H → StR Y.Γ Y.K h.n ρ H τ σ → RV Y.Γ Y.K h.n ρ H w v → ∀ (τ' : St) (h' : Hh), g w Y.c τ h = .go τ' h' →
    h' = h ∧ ((∀ σ', StR Y.Γ Y.K h.n ρ H τ' σ' → L2.wipe σ' vs = L2.wipe σ vs → Q σ' H) → t v σ H Q)
def TgsOk (Y : Yv) (vs : List Nat) (g : Gs) (t : L2.TGs) : Prop :=
  ∀ (ws : List W) (τ : St) (h : Hh) (ρ : Nat → Addr) (H : Hp) (σ : L2.St) (us : List V) (Q : L2.St → Hp → Prop), Sim Y.Γ Y.K h ρ H → StR Y.Γ Y.K h.n ρ H τ σ → A2 (RV Y.Γ Y.K h.n ρ H) ws us → ∀ (τ' : St) (h' : Hh), g ws Y.c τ h = .go τ' h' →
    h' = h ∧ ((∀ σ', StR Y.Γ Y.K h.n ρ H τ' σ' → L2.wipe σ' vs = L2.wipe σ vs → Q σ' H) → t us σ H Q)
section
variable {Y : Yv} {vs : List Nat}
theorem tg_name {i : Nat} (hi : i ∈ vs) : TgOk Y vs (gV i) (L2.gName i) := by
  intro w τ h ρ H σ v Q S st r τ' h' e
  cases e
  exact ⟨rfl, fun k => k _ (st.set i r) (wipe_set hi)⟩
theorem tgs_nil : TgsOk Y vs gNil L2.gNil := by
  intro ws τ h ρ H σ us Q S st r τ' h' e
  cases ws with
  | nil => cases e; exact ⟨rfl, fun k => ⟨A2.nil_iff.mp r, k σ st rfl⟩⟩
  | cons w ws => cases e
theorem tgs_cons {i : Nat} {g : Gs} {t : L2.TGs} (hi : i ∈ vs) (ht : TgsOk Y vs g t) : TgsOk Y vs (gCons (gV i) g) (L2.gCons (L2.gName i) t) := by
  intro ws τ h ρ H σ us Q S st r τ' h' e
  cases ws with
  | nil => cases e
  | cons w ws =>
    obtain ⟨u, us, rfl, r1, r2⟩ := A2.cons_iff.mp r
    have e : g ws Y.c (τ.set i (some w)) h = .go τ' h' := e
    obtain ⟨h1, h2⟩ := ht ws _ h ρ H (σ.set i (some u)) us Q S (st.set i r1) r2 τ' h' e
    exact ⟨h1, fun k => ⟨u, us, rfl, h2 fun σ' s z => k σ' s (z.trans (wipe_set hi))⟩⟩
theorem tg_tup {n : Nat} {g : Gs} {t : L2.TGs} (ht : TgsOk Y vs g t) : TgOk Y vs (gTup n g) (L2.gTup Y.K n t) := by
  intro w τ h ρ H σ v Q S st r τ' h' e
  cases w with
  | tup xs =>
    obtain ⟨a, us, rfl, h2, h3⟩ := r.tup_
    simp only [gTup] at e
    split at e
    · rename_i hl
      obtain ⟨i1, i2⟩ := ht xs τ h ρ H σ us Q S st h3 τ' h' e
      exact ⟨i1, fun k => ⟨a, us, rfl, .of h2, by rw [← h3.len]; exact Nat.eq_of_beq_eq_true hl, i2 k⟩⟩
    · cases e
  | _ => cases e
end
section
variable {X : L2.Cx} {Y : Yv}
theorem rt_yes : L2.PTs X [] (rT Y tYes) := ⟨fun pins s σ H Q I ⟨τ, h, ρ, S, st, p⟩ => L2.pts_nil.run pins s σ H Q I (show Q true H from Post.ok p S rfl)⟩
theorem lc_of {vs : List Nat} {i : I} {g : G} {t : T} {e : E} {gL : L2.TG} (tg : TgOk Y.no vs g gL) {σ : L2.St} {H : Hp} {Q : L2.VK} (q : rE Y (eLc vs i g t e) σ H Q) :
    L2.tLc (rI Y i) gL (rT Y.no t) (rE Y.no e) vs σ H Q := by
  obtain ⟨τ, h, ρ, S, st, p⟩ := q
  refine ⟨τ, h, ρ, S, st, ?_⟩
  unfold eLc at p
  cases f : i Y.c τ h with
  | bad => rw [f] at p; exact p
  | er k x h' => rw [f] at p; exact p
  | ok w h1 =>
    rw [f] at p
    intro ρ1 H1 J e1 S1 wk D hD
    have p : Post Y (RW Y) σ h.n ρ H (lcL Y.c g t e (PV.wipe τ vs) h1.n w.held w.items (h1.push (.lst []))) Q := p
    have eD : Ext h1.n ρ1 H1 (h1.n + 1) (ext ρ1 h1.n D) (L2.upd H1 D (.lst [])) := ext_new hD
    have SD : Sim Y.Γ Y.K (h1.push (.lst [])) (ext ρ1 h1.n D) (L2.upd H1 D (.lst [])) := S1.new hD ⟨[], L2.upd_same, trivial⟩
    refine ⟨fun i m H => m = w.items.length - i ∧ i ≤ w.items.length ∧ ∃ h ρ, Ext (h1.n + 1) (ext ρ1 h1.n D) (L2.upd H1 D (.lst [])) h.n ρ H ∧ Sim Y.Γ Y.K h ρ H ∧ Post Y (RW Y) σ h.n ρ H (lcL Y.c g t e (PV.wipe τ vs) h1.n w.held (w.items.drop i) h) Q,
      ⟨_, rfl, Nat.zero_le _, h1.push (.lst []), _, .refl, SD, Post.rebase p (e1.trans eD)⟩, ?_⟩
    rintro i m H2 ⟨rfl, hi, h2, ρ2, e2, S2, p2⟩
    have e02 := eD.trans e2
    cases q : w.items.drop i with
    | nil =>
      rw [q] at p2
      have hl : i = w.items.length := by
        have := congrArg List.length q
        simp at this; omega
      subst hl
      unfold lcL at p2
      split at p2
      · rename_i hh
        refine .inl ⟨wk.stops h2 ρ2 H2 e02 S2 hh, ?_⟩
        have r : RV Y.Γ Y.K h2.n ρ2 H2 (.ref h1.n) (.ref D) := by
          have : ρ2 h1.n = D := by rw [e2.at_ h1.n (Nat.lt_succ_self _), ext_same]
          rw [← this]
          exact RV.mkRef (Nat.lt_of_lt_of_le (Nat.lt_succ_self _) e2.le)
        exact Post.ok p2 S2 r
      · exact p2.elim
    | cons x xs =>
      rw [q] at p2
      obtain ⟨hx, hd, hl⟩ := drop_get q
      unfold lcL at p2
      split at p2
      · rename_i hh
        refine .inr ⟨wk.goes i h2 ρ2 H2 e02 S2 hh hl, fun H' => ∃ m', m' < w.items.length - i ∧ (m' = w.items.length - (i + 1) ∧ i + 1 ≤ w.items.length ∧ ∃ h ρ, Ext (h1.n + 1) (ext ρ1 h1.n D) (L2.upd H1 D (.lst [])) h.n ρ H' ∧ Sim Y.Γ Y.K h ρ H' ∧ Post Y (RW Y) σ h.n ρ H' (lcL Y.c g t e (PV.wipe τ vs) h1.n w.held (w.items.drop (i + 1)) h) Q), fun H' z => z, ?_⟩
        intro v H3 y
        obtain ⟨u, hu, e3, S3, r3⟩ := wk.yields i h2 ρ2 H2 v H3 e02 S2 hh hl y
        rw [hx] at hu
        cases hu
        have st3 : StR Y.Γ Y.K h2.n ρ2 H3 (PV.wipe τ vs) (L2.wipe σ vs) := StR.wipe ((st.mono e1).mono (e02.trans e3)) vs
        cases f2 : g x Y.c (PV.wipe τ vs) h2 with
        | bad => rw [f2] at p2; exact p2.elim
        | go τ3 h3 =>
          rw [f2] at p2
          simp only at p2
          obtain ⟨rfl, tk⟩ := tg x (PV.wipe τ vs) h2 ρ2 H3 (L2.wipe σ vs) v _ S3 st3 r3 τ3 h3 f2
          refine tk fun σ3 st4 wz => ⟨wz.trans (wipe_wipe σ vs), τ3, h3, ρ2, S3, st4, ?_⟩
          have next : ∀ {h5 : Hh} {ρ' : Nat → Addr} {H' : Hp}, Ext h3.n ρ2 H3 h5.n ρ' H' → Sim Y.Γ Y.K h5 ρ' H' → Post Y (RW Y) σ h3.n ρ2 H2 (lcL Y.c g t e (PV.wipe τ vs) h1.n w.held xs h5) Q →
              ∃ m', m' < w.items.length - i ∧ (m' = w.items.length - (i + 1) ∧ i + 1 ≤ w.items.length ∧ ∃ h ρ, Ext (h1.n + 1) (ext ρ1 h1.n D) (L2.upd H1 D (.lst [])) h.n ρ H' ∧ Sim Y.Γ Y.K h ρ H' ∧ Post Y (RW Y) σ h.n ρ H' (lcL Y.c g t e (PV.wipe τ vs) h1.n w.held (w.items.drop (i + 1)) h) Q) := by
            intro h5 ρ' H' e5 S5 pp
            refine ⟨_, by omega, rfl, hl, h5, ρ', (e2.trans e3).trans e5, S5, ?_⟩
            rw [hd]
            exact Post.rebase pp (e3.trans e5)
          show Post Y.no RB σ3 h3.n ρ2 H3 (t Y.c τ3 h3) _
          cases f3 : t Y.c τ3 h3 with
          | bad => rw [f3] at p2; exact p2.elim
          | er _ _ _ => rw [f3] at p2; exact p2.elim
          | ok b h4 =>
            rw [f3] at p2
            intro ρ4 H4 b' e4 S4 rb
            have rb : b = b' := rb
            subst rb
            cases b with
            | false => exact next e4 S4 p2
            | true =>
              simp only at p2
              rw [if_pos rfl]
              refine ⟨τ3, h4, ρ4, S4, st4.mono e4, ?_⟩
              show Post Y.no (RW Y.no) σ3 h4.n ρ4 H4 (e Y.c τ3 h4) _
              cases f4 : e Y.c τ3 h4 with
              | bad => rw [f4] at p2; exact p2.elim
              | er _ _ _ => rw [f4] at p2; exact p2.elim
              | ok z h5 =>
                rw [f4] at p2
                simp only at p2
                intro ρ5 H5 zv e5 S5 rz
                cases f5 : h5.get h1.n with
                | none => rw [f5] at p2; exact p2.elim
                | some o => cases o with
                  | lst acc =>
                    rw [f5] at p2
                    simp only at p2
                    split at p2
                    · rename_i hf
                      obtain ⟨av, g1, g2⟩ := S5.obj h1.n _ f5
                      have eall := (((e2.trans e3).trans e4).trans e5)
                      have hρ : ρ5 h1.n = D := by rw [eall.at_ h1.n (Nat.lt_succ_self _), ext_same]
                      have S5' : Sim Y.Γ Y.K h5 ρ5 H5 := S5
                      have rz' : RV Y.Γ Y.K h5.n ρ5 H5 z zv := rz
                      have gz : A2 (RV Y.Γ Y.K h5.n ρ5 H5) [z] [zv] := ⟨rz', trivial⟩
                      have ga : A2 (RV Y.Γ Y.K h5.n ρ5 H5) (acc ++ [z]) (av ++ [zv]) := A2.app g2 gz
                      have SN := S5'.upd f5 rfl (o := .lst (acc ++ [z])) rfl g1 rfl (fun ps z => by cases z) ⟨av ++ [zv], L2.upd_same, ga.up (ext_upd g1 rfl)⟩
                      rw [hρ] at g1 SN
                      refine ⟨av, g1, by rw [← g2.len]; exact fitsS_iff.mp hf, ?_⟩
                      exact next (h5 := h5.set h1.n (.lst (acc ++ [z]))) ((e4.trans e5).trans (ext_upd g1 rfl)) SN p2
                    · exact p2.elim
                  | _ => rw [f5] at p2; exact p2.elim
      · exact p2.elim
theorem r_lc {elt tg iter : Expr} {ifs : List Expr} {scope : Scope} {own : List (Str × Nat)} {pos : Pos} {i : I} {g : G} {gL : L2.TG} {t : T} {m : E} (hc : X.calm = true) (hN : X.N.Nodup) (hi : L2.PI X tg iter (rI Y i)) (ok : L2.BlkOk X.N X.env.scope scope own)
    (tk : TgOk Y.no (own.map (·.2)) g gL)
    (hg : ∀ (s : Shared) (H : Hp) (C : Addr) (cl : List (Str × Addr)) (fp : List Addr), L2.PG (X.blk s H scope (compEnvC scope cl C X.env) fp) tg gL) (ht : ∀ (s : Shared) (H : Hp) (C : Addr) (cl : List (Str × Addr)) (fp : List Addr), L2.PTs (X.blk s H scope (compEnvC scope cl C X.env) fp) ifs (rT Y.no t))
    (he : ∀ (s : Shared) (H : Hp) (C : Addr) (cl : List (Str × Addr)) (fp : List Addr), L2.PE (X.blk s H scope (compEnvC scope cl C X.env) fp) elt (rE Y.no m)) (hs : ∀ x, foldedSetIterable iter X.env x = pure x := by intro _; rfl) :
    L2.PE X (.ListComp elt [⟨tg, iter, ifs, 0⟩] scope pos) (rE Y (eLc (own.map (·.2)) i g t m)) :=
  pe_imp (L2.pe_lc hc hN hi ok hg ht he hs) fun σ H Q q => lc_of tk q
theorem r_setLc {j : Nat} {y : Str} {py : Pos} {elt tg iter : Expr} {ifs : List Expr} {scope : Scope} {own : List (Str × Nat)} {pos spos : Pos} {i : I} {g : G} {gL : L2.TG} {t : T} {m : E} (hc : X.calm = true) (hN : X.N.Nodup) (hy : X.N[j]? = some y) (hyl : X.env.scope.names.lookup y = some .local)
    (hsw : swapsWith (.ListComp elt [⟨tg, iter, ifs, 0⟩] scope pos) (some (.Name y py)) spos.line X.env = pure true) (hi : L2.PI X tg iter (rI Y i)) (ok : L2.BlkOk X.N X.env.scope scope own) (tk : TgOk Y.no (own.map (·.2)) g gL)
    (hg : ∀ (s : Shared) (H : Hp) (C : Addr) (cl : List (Str × Addr)) (fp : List Addr), L2.PG (X.blk s H scope (compEnvC scope cl C X.env) fp) tg gL) (ht : ∀ (s : Shared) (H : Hp) (C : Addr) (cl : List (Str × Addr)) (fp : List Addr), L2.PTs (X.blk s H scope (compEnvC scope cl C X.env) fp) ifs (rT Y.no t))
    (he : ∀ (s : Shared) (H : Hp) (C : Addr) (cl : List (Str × Addr)) (fp : List Addr), L2.PE (X.blk s H scope (compEnvC scope cl C X.env) fp) elt (rE Y.no m)) (hs : ∀ x, foldedSetIterable iter X.env x = pure x := by intro _; rfl) :
    L2.PS X (.Assign [.Name y py] (.ListComp elt [⟨tg, iter, ifs, 0⟩] scope pos) spos) (TS Y (sAsg (gV j) (eLc (own.map (·.2)) i g t m))) := by
  refine ps_imp (L2.ps_setLc hc hN hy hyl hsw hi ok hg ht he hs) fun D σ H q => ?_
  obtain ⟨τ, h, ρ, S, st, p⟩ := q
  refine lc_of tk ⟨τ, h, ρ, S, st, (PostS.ofE (h := h) st p).mono ?_⟩
  rintro v H1 ⟨w, h1, ρ1, e1, S1, r1, _, p1⟩
  exact PostS.nx p1 S1 ((st.mono e1).set j r1)
end
end PV

set_option Elab.async false
set_option linter.all false
set_option autoImplicit false
set_option maxRecDepth 100000
set_option maxHeartbeats 2000000
/-! Snd9: isinstance, raise, try, a def's promise, a def that is handed a lambda. -/
namespace PV
open PySem
section
variable {X : L2.Cx} {Y : Yv}
/-! ### isinstance of data -/
def tyN : Ty → String
  | .int => "int"
  | .bool => "bool"
  | .str => "str"
  | .list => "list"
  | .tuple => "tuple"
  | .cls _ => ""
def kN : W → Hh → String
  | .non, _ => "NoneType"
  | .bl _, _ => "bool"
  | .int _, _ => "int"
  | .str _, _ => "str"
  | .tup _, _ => "tuple"
  | _, _ => "list"
theorem kit_nn (a b : String) (r : Bool) (h : L2.kitB a b = some r) {K : Fg} : PySem.W.kitOne K (.type a) (.type b) = some r := L2.kit_ty h
theorem kit_all : ∀ (t : Ty), (∀ k, t ≠ .cls k) → ∀ a ∈ ["NoneType", "bool", "int", "str", "tuple", "list"], L2.kitB a (tyN t) = some (a == tyN t || (a == "bool" && tyN t == "int")) := by
  intro t ht a ha
  cases t with
  | cls k => exact absurd rfl (ht k)
  | _ =>
    simp only [List.mem_cons, List.not_mem_nil, or_false] at ha
    rcases ha with rfl | rfl | rfl | rfl | rfl | rfl <;> decide +kernel
theorem r_isin {t : Ty} {a : Expr} {ma : E} {p pt pos : Pos} (hK : X.K = Y.K) (ht : ∀ k, t ≠ .cls k) (hg : L2.Gl X "isinstance") (hm : X.mg "isinstance" = none) (hgt : L2.Gl X (tyN t)) (hmt : X.mg (tyN t) = none) (hv : bootBuiltins (tyN t) = some (.type (tyN t))) (hnn : (Str.ofString (tyN t)) ≠ "__name__") (hdb2 : ((Str.ofString (tyN t)) == ("__debug__" : Str)) = false)
    (ha : L2.PE X a (rE Y ma)) (hvi : bootBuiltins "isinstance" = some (.builtin "isinstance"))
    (he : starEach [a, .Name (tyN t) pt] X.env = (false, eval a X.env) :: starEach [.Name (tyN t) pt] X.env := by rfl) (he2 : starEach [.Name (tyN t) pt] X.env = (false, eval (.Name (tyN t) pt) X.env) :: starEach [] X.env := by rfl)
    (hpl : (backTo pos (starEach [.Name (tyN t) pt] X.env)).any (·.1) = false := by rfl) :
    L2.PE X (.Call (.Name "isinstance" p) [a, .Name (tyN t) pt] [] pos) (rE Y (eIsin ma t)) := by
  refine pe_imp (L2.pe_callB L2.call_isi hg hm hvi (L2.pa_cons ha (L2.pa_cons (L2.pe_bltn (v := .ty (tyN t)) (u := .type (tyN t)) hgt hmt hv rfl hnn hdb2) L2.pa_nil he2) he) (by decide) (by decide) he hpl) fun σ H Q q => ?_
  obtain ⟨τ, h, ρ, S, st, p⟩ := q
  refine ⟨τ, h, ρ, S, st, p.bind.mono ?_⟩
  rintro x H1 ⟨w1, h1, ρ1, e1, S1, r1, _, p1⟩
  rw [hK]
  cases e : isin w1 t h1 with
  | none => rw [e] at p1; exact p1.elim
  | some b =>
    rw [e] at p1
    have q := Post.ok p1 S1 (RV.mkBl (b := b))
    have fin : ∀ (kn : String), kn ∈ ["NoneType", "bool", "int", "str", "tuple", "list"] → L2.TyX Y.K H1 x (.type kn) → b = (kn == tyN t || (kn == "bool" && tyN t == "int")) → L2.rIsi Y.K [x, .ty (tyN t)] H1 Q := by
      intro kn hk ty eb
      refine ⟨x, .ty (tyN t), .type kn, .type (tyN t), b, rfl, .ty _, ty, ?_, q⟩
      rw [eb]
      exact L2.kit_ty (kit_all t ht kn hk)
    unfold isin at e
    cases w1 with
    | non =>
      rw [r1.non_] at fin ⊢
      refine fin "NoneType" (by simp) (.base .non) ?_
      cases t <;> first | (cases e; decide) | exact absurd rfl (ht _)
    | bl k =>
      rw [r1.bl_] at fin ⊢
      refine fin "bool" (by simp) (.base (.bl k)) ?_
      cases t <;> first | (cases e; decide) | exact absurd rfl (ht _)
    | int k =>
      rw [r1.int_] at fin ⊢
      refine fin "int" (by simp) (.base (.int k)) ?_
      cases t <;> first | (cases e; decide) | exact absurd rfl (ht _)
    | str k =>
      rw [r1.str_] at fin ⊢
      refine fin "str" (by simp) (.base (.str _)) ?_
      cases t <;> first | (cases e; decide) | exact absurd rfl (ht _)
    | tup xs =>
      obtain ⟨a, vs, rfl, g1, g2⟩ := r1.tup_
      refine fin "tuple" (by simp) (.base (.tup g1)) ?_
      cases t <;> first | (cases e; decide) | exact absurd rfl (ht _)
    | ref a =>
      simp only at e
      cases g : h1.get a with
      | none => rw [g] at e; cases e
      | some o =>
        cases o with
        | lst xs =>
          obtain ⟨vs, g1, g2⟩ := S1.obj a _ g
          rw [r1.ref_.2] at fin ⊢
          refine fin "list" (by simp) (.base (.lst g1)) ?_
          rw [g] at e
          cases t <;> first | (cases e; decide) | exact absurd rfl (ht _)
        | _ => rw [g] at e; cases e
    | fn k => cases e

/-! ### errors -/
/-- an error class of the text, without a maker of its own -/
structure ErrC (K : Fg) (mg : Str → Option Value) (x : Str) (C : Addr) : Prop where
  g : mg x = some (.ref C)
  q : PySem.W.excIn K C [.type "ValueError", .type "Exception", .type "BaseException", .type "object"] "ValueError.__new__" = true
  k : PySem.W.keepIn K (.ref C) = true
  s : PySem.W.subIn K (.ref C) (.type "BaseException") = some true
  t : PySem.W.typeIn K (.ref C) = some (.type "type")
theorem r_raise {x m : Str} {k j : Nat} {p p2 pos pos2 : Pos} (hc : X.calm = true) (tk : L2N.Takes X Y.W) (C : ErrC X.K X.mg x (Y.Γ.ca k)) (hk : k < Y.Γ.nc) (hg : L2.Gl X x) (hdb : (x == ("__debug__" : Str)) = false := by decide) :
    L2.PS X (.Raise (some (.Call (.Name x p) [.Constant (.str m) j p2] [] pos)) none pos2) (TS Y (sRaise k)) := by
  refine ps_imp (L2N.ps_raise hc tk (L2N.pmk_own PySem.F.excBase_ValueError C.q C.g C.k (L2.raises_own C.s C.t) hg hdb)) fun D σ H q => ?_
  obtain ⟨τ, h, ρ, S, st, p⟩ := q
  exact p ρ H σ none .refl S st ⟨hk, .inl ⟨rfl, rfl⟩⟩
/-- the classes as except and isinstance see them -/
structure ErrT (K : Fg) (ca : Nat → Addr) (nc : Nat) (sub : Nat → Nat → Bool) : Prop where
  exm : ∀ a b, a < nc → b < nc → PySem.W.exmOne K (.ref (ca a)) (.ref (ca b)) = some (sub a b)
  kit : ∀ a b, a < nc → b < nc → PySem.W.kitOne K (.ref (ca a)) (.ref (ca b)) = some (sub a b)
  cls : ∀ a, a < nc → L2.ExcC K (ca a)
abbrev Gam.err (Γ : Gam) (i : Nat) (a : Addr) (c : Nat) (d : Option Addr) : Gam := { Γ with exn := some (i, a, c, d) }
theorem Sim.noErr {Γ : Gam} {K : Fg} {h : Hh} {ρ : Nat → Addr} {H : Hp} {i : Nat} {a : Addr} {c : Nat} {d : Option Addr} (hn : Γ.exn = none) (S : Sim (Γ.err i a c d) K h ρ H) : Sim Γ K h ρ H where
  len := S.len
  obj := fun b o e => OR.gam (Γ := Γ.err i a c d) (Γ' := Γ) rfl rfl (S.obj b o e)
  inj := S.inj
  tab := S.tab
  exn := fun i a c d e => by rw [hn] at e; cases e
  lam := S.lam
  bs := S.bs
/-- the context of an except suite -/
abbrev Yv.sui (Y : Yv) (i : Nat) (a : Addr) (c : Nat) : Yv := ⟨Y.Γ.err i a c none, Y.K, fun _ _ _ _ => False, cxSui Y.c i⟩
theorem r_bad {e : Expr} : L2.PE X e (rE Y eBad) := ⟨fun pins s σ H Q I q => by obtain ⟨τ, h, ρ, S, st, p⟩ := q; exact p.elim⟩
/-- isinstance(e, C), e the error at hand -/
theorem r_isX {i c k : Nat} {a : Addr} {oe : Obj} {pn : List (Addr × Obj)} {x : Str} {e : Expr} {m : E} {p pt pos : Pos} (hK : X.K = Y.K) (T : ErrT X.K Y.Γ.ca Y.Γ.nc Y.c.sub) (hc : c < Y.Γ.nc) (hk : k < Y.Γ.nc) (hz : L2N.Zn (.ref (Y.Γ.ca c)) none oe) (hf : ∃ vs, oe.data = .fields vs)
    (hg : L2.Gl X "isinstance") (hm : X.mg "isinstance" = none) (hvi : bootBuiltins "isinstance" = some (.builtin "isinstance")) (hgx : L2.Gl X x) (hmx : X.mg x = some (.ref (Y.Γ.ca k))) (hdb : (x == ("__debug__" : Str)) = false)
    (ha : L2.PE (X.suite a ((a, oe) :: pn)) e (rE (Y.sui i a c) m))
    (he : starEach [e, .Name x pt] X.env = (false, eval e X.env) :: starEach [.Name x pt] X.env := by rfl) (he2 : starEach [.Name x pt] X.env = (false, eval (.Name x pt) X.env) :: starEach [] X.env := by rfl)
    (hpl : (backTo pos (starEach [.Name x pt] X.env)).any (·.1) = false := by rfl) :
    L2.PE (X.suite a ((a, oe) :: pn)) (.Call (.Name "isinstance" p) [e, .Name x pt] [] pos) (rE (Y.sui i a c) (eIsX m k)) := by
  have hg' : L2.Gl (X.suite a ((a, oe) :: pn)) "isinstance" := hg
  have hgx' : L2.Gl (X.suite a ((a, oe) :: pn)) x := hgx
  refine pe_imp (L2.pe_callB (L2.call_isE (T.cls c hc) hz.zc hf) hg' hm hvi (L2.pa_cons ha (L2.pa_cons (L2.pe_glob (v := .ref (Y.Γ.ca k)) hgx' hmx rfl hdb) L2.pa_nil he2) he) (by decide) (by decide) he hpl) fun σ H Q q => ?_
  obtain ⟨τ, h, ρ, S, st, p⟩ := q
  refine ⟨τ, h, ρ, S, st, p.bind.mono ?_⟩
  rintro v H1 ⟨w1, h1, ρ1, e1, S1, r1, _, p1⟩
  cases w1 with
  | ref b =>
    simp only [cxSui] at p1
    split at p1
    · rename_i hb
      have hb : b = i := Nat.eq_of_beq_eq_true hb
      subst hb
      obtain ⟨g1, pp, g2, g3⟩ := S1.exn b a c none rfl
      rw [g2] at p1
      cases pp with
      | non =>
        refine ⟨.ref (Y.Γ.ca k), .ref (Y.Γ.ca k), Y.c.sub c k, ?_, fun u hu => hu, T.kit c k hc hk, Post.ok p1 S1 RV.mkBl⟩
        rw [r1.ref_.2, g1]
      | _ => exact p1.elim
    · exact p1.elim
  | _ => exact p1.elim
/-- what a clause's suite makes of the error at a -/
def tSui (Y : Yv) (b : S) : Addr → Value → Option Addr → L2.TS := fun a cls d D σ H => ∃ c i, c < Y.Γ.nc ∧ cls = .ref (Y.Γ.ca c) ∧ d = none ∧ TS (Y.sui i a c) b D σ H
theorem r_try {x n : Str} {k i : Nat} {body suite : List Stmt} {b₀ : Stmt} {np pos pos' : Pos} {a b : S} (hK : X.K = Y.K) (hex : Y.Γ.exn = none) (T : ErrT X.K Y.Γ.ca Y.Γ.nc Y.c.sub) (hk : k < Y.Γ.nc)
    (hs : X.stack = X.env :: X.outer) (hf : X.env.frame = some X.env.locals) (hN : X.N.Nodup) (hi : X.N[i]? = some n) (hln : X.env.kindOf n = some .local) (hc : L2.Names X x (.ref (Y.Γ.ca k))) (tk : L2N.Takes X Y.W)
    (hb : ∀ (W : L2.WX) (pn : List (Addr × Obj)) (xe : Value → Shared → Prop), L2N.Takes (X.tr pn xe) W → PassesOwn (model X.prog X.w) X.A X.env xe → L2.PSs (X.tr pn xe) body (TS { Y with W := W } a))
    (hsu : ∀ (i : Nat) (a : Addr) (oe : Obj) (c : Nat) (pn : List (Addr × Obj)), c < Y.Γ.nc → L2N.Zn (.ref (Y.Γ.ca c)) none oe → (∃ vs, oe.data = .fields vs) → L2.PSs (X.suite a ((a, oe) :: pn)) (b₀ :: suite) (TS (Y.sui i a c) b)) :
    L2.PS X (.Try body [.ExceptHandler (some (.Name x np)) (some n) (b₀ :: suite) pos'] [] [] pos) (TS Y (sTry a k i b)) := by
  refine ps_imp (L2N.ps_try_as (tb := fun W => TS { Y with W := W } a) (ts := tSui Y b) (Wout := Y.W) hs hf hN hi hln hc tk hb fun ad oe cls d pn hz hfd => ⟨fun pins s σ H D I q => ?_⟩) fun D σ H q => ?_
  · obtain ⟨c, j, hc, rfl, rfl, q⟩ := q
    exact (hsu j ad oe c pn hc hz hfd).run pins s σ H D I q
  · obtain ⟨τ, h, ρ, S, st, p⟩ := q
    refine ⟨τ, h, ρ, S, st, ?_⟩
    unfold sTry at p
    show PostS _ h.n ρ H (a Y.c τ h) D
    cases f : a Y.c τ h with
    | nx τ' h' => rw [f] at p; exact p
    | rt w h' => rw [f] at p; exact p
    | bk τ' h' => rw [f] at p; exact p
    | ct τ' h' => rw [f] at p; exact p
    | bad => rw [f] at p; exact p
    | er k' q τ' h' =>
      rw [f] at p
      simp only at p
      intro ρ' H' σ' d e s st' xr
      have s : Sim Y.Γ Y.K h' ρ' H' := s
      have xr : XR Y.Γ Y.K h'.n ρ' H' k' q d := xr
      have st' : StR Y.Γ Y.K h'.n ρ' H' τ' σ' := st'
      refine ⟨Y.c.sub k' k, T.exm k' k xr.1 hk, fun hsub ad had => ?_, fun hsub => ?_⟩
      · rw [if_pos hsub] at p
        split at p
        · rename_i hq
          have hq : q = .non := by cases q <;> first | rfl | cases hq
          subst hq
          have hd : d = none := by
            rcases xr.2 with ⟨_, z⟩ | ⟨_, _, _, _, _, z⟩
            · exact z
            · exact absurd rfl z
          subst hd
          have ex : Ext h'.n ρ' H' (h'.n + 1) (ext ρ' h'.n ad) H' := ext_any
          have S2 : Sim Y.Γ Y.K (h'.push (.exc k' .non)) (ext ρ' h'.n ad) H' := s.newX rfl trivial
          have S3 : Sim (Y.Γ.err h'.n ad k' none) Y.K (h'.push (.exc k' .non)) (ext ρ' h'.n ad) H' :=
            { len := S2.len
              obj := fun b o e => OR.gam (Γ := Y.Γ) (Γ' := Y.Γ.err h'.n ad k' none) rfl rfl (S2.obj b o e)
              inj := S2.inj
              tab := S2.tab
              exn := fun i a c d e => by
                cases e
                refine ⟨ext_same, .non, ?_, xr.1, .inl ⟨rfl, rfl⟩⟩
                rw [Hh.get_push, if_pos rfl]
              lam := S2.lam
              bs := S2.bs }
          have st3 : StR (Y.Γ.err h'.n ad k' none) Y.K (h'.n + 1) (ext ρ' h'.n ad) H' (τ'.set i (some (.ref h'.n))) (σ'.set i (some (.ref ad))) := by
            have r : RV Y.Γ Y.K (h'.n + 1) (ext ρ' h'.n ad) H' (.ref h'.n) (.ref ad) := by
              have := RV.mkRef (Γ := Y.Γ) (K := Y.K) (ρ := ext ρ' h'.n ad) (H := H') (Nat.lt_succ_self h'.n)
              rw [ext_same] at this
              exact this
            exact StR.gam (Γ := Y.Γ) (Γ' := Y.Γ.err h'.n ad k' none) rfl rfl ((st'.mono ex).set i r)
          refine ⟨k', h'.n, xr.1, rfl, rfl, _, h'.push (.exc k' .non), ext ρ' h'.n ad, S3, st3, ?_⟩
          have back : ∀ {h2 : Hh} {ρ2 : Nat → Addr} {H2 : Hp}, Sim (Y.Γ.err h'.n ad k' none) Y.K h2 ρ2 H2 → Sim Y.Γ Y.K h2 ρ2 H2 := fun z => Sim.noErr hex z
          show PostS _ (h'.n + 1) _ H' (b (cxSui Y.c h'.n) _ _) _
          cases f2 : b (cxSui Y.c h'.n) (τ'.set i (some (.ref h'.n))) (h'.push (.exc k' .non)) with
          | nx τ2 h2 =>
            rw [f2] at p
            intro ρ2 H2 σ2 e2 s2 t2
            exact p ρ2 H2 _ ((e.trans ex).trans e2) (back s2) ((StR.gam (Γ := Y.Γ.err h'.n ad k' none) (Γ' := Y.Γ) rfl rfl t2).unset i)
          | bk τ2 h2 =>
            rw [f2] at p
            intro ρ2 H2 σ2 e2 s2 t2
            exact p ρ2 H2 _ ((e.trans ex).trans e2) (back s2) ((StR.gam (Γ := Y.Γ.err h'.n ad k' none) (Γ' := Y.Γ) rfl rfl t2).unset i)
          | ct τ2 h2 =>
            rw [f2] at p
            intro ρ2 H2 σ2 e2 s2 t2
            exact p ρ2 H2 _ ((e.trans ex).trans e2) (back s2) ((StR.gam (Γ := Y.Γ.err h'.n ad k' none) (Γ' := Y.Γ) rfl rfl t2).unset i)
          | rt w2 h2 =>
            rw [f2] at p
            intro ρ2 H2 v2 e2 s2 r2
            exact p ρ2 H2 v2 ((e.trans ex).trans e2) (back s2) (RV.gam (Γ := Y.Γ.err h'.n ad k' none) (Γ' := Y.Γ) rfl rfl r2)
          | er k2 q2 τ2 h2 => rw [f2] at p; exact p.elim
          | bad => rw [f2] at p; exact p.elim
        · exact p.elim
      · rw [hsub] at p
        exact p ρ' H' σ' d e s st' xr
end
end PV

set_option Elab.async false
set_option linter.all false
set_option autoImplicit false
set_option maxRecDepth 100000
set_option maxHeartbeats 2000000
/-! Hot1: within an except suite: iterators that end, tuples taken apart, list comprehensions. -/
namespace PV
open PySem PySem.Spec PyProof.Rows
section
variable {prog : Program} {w : World} {A : Around} {E : Value → Shared → Prop} {s : Shared}
theorem hotUp {x : Addr} {h h' : Heap} (a : HotX.HotAt A x h) (k : ∀ o, h.get? x = some o → h'.get? x = some o) : HotX.HotAt A x h' := by
  obtain ⟨q, o, vs, e, d, c⟩ := a
  exact ⟨q, o, vs, k o e, d, c⟩
theorem next_list_hot {it l x : Addr} {i : Nat} {items} {Q : Option Value → Shared → Prop} (hot : HotX.HotAt A x s.heap) (hx : x ≠ it) (hit : s.heap.IsListIter it l i) (hl : s.heap.IsList l items) (he : items[i]? = none)
    (q : ∀ h', Heap.ExtBut it s.heap h' → Q none { s with heap := h' }) : wpAny (model prog w) A (pyNext (.ref it)) Q E s := by
  have hT := hit.typeIs
  obtain ⟨o, ho, hc, hd⟩ := hit
  obtain ⟨ol, hol, _, nl, hdl⟩ := hl
  unfold pyNext
  refine wpAny_bind (wpAny_attempt (wpAny_callSpecial?_slot (name := Str.ofString "__next__") hT slot_listiter_next (wpAny_call_entry slot_listiter_next hT entry_listiter_next ?_ (args_listiter_next _))))
  show wpAny _ _ (field (.ref it) 0 >>= _) _ _ s
  refine wpAny_bind (wpAny_field ho hd (x := .ref l) rfl ?_)
  show wpAny _ _ (if (Value.ref l == Value.none) = true then _ else _) _ _ s
  rw [if_neg (show ¬ ((Value.ref l == Value.none) = true) from Bool.false_ne_true)]
  show wpAny _ _ (field (.ref it) 1 >>= _) _ _ s
  refine wpAny_bind (wpAny_field ho hd (x := .int i 0) rfl ?_)
  show wpAny _ _ (seqItems? (.ref l) >>= _) _ _ s
  refine wpAny_bind (wpAny_seqItems hol hdl ?_)
  simp only [Int.toNat_natCast, he]
  refine wpAny_bind (wpAny_rule (wpAny_bind (wpAny_setField ho hd (by simp) ?_)))
  show wpAny _ _ (newExc (.type "StopIteration") [] >>= _) _ _ _
  refine wpAny_bind ?_
  simp only [newExc, newTuple]
  refine wpAny_bind (wpAny_newObj_type ?_ (by size_fits))
  refine wpAny_bind (m := firstArgMember _ _) (wpAny_of_eq (a := Value.none) (by first | rfl | (simp only [firstArgMember]; rfl)) ?_)
  refine wpAny_newObj_type ?_ (by size_fits)
  have e1 : ∀ b, b ≠ it → (s.heap.update it (Obj.mapFields (·.setIfInBounds 0 Value.none))).get? b = s.heap.get? b := fun b hb => Heap.get?_update_other _ _ (Ne.symm hb)
  obtain ⟨hq, o1, vs1, g1, d1, c1⟩ := hot
  have g2 := (e1 x hx).trans g1
  refine HotX.raiseNew_hot (x1 := x) ⟨hq, o1, vs1, Heap.get?_push_of_some _ (Heap.get?_push_of_some _ g2), d1, c1⟩ (Nat.ne_of_lt (Heap.lt_size (Heap.get?_push_of_some _ g2))) (Heap.get?_push_size _ rfl) rfl (by first | (simp; done) | (simp; omega)) ?_
  refine wpAny_bind (wpAny_isInstance (T := "StopIteration") (b := true) ⟨_, Heap.get?_update_self _ (Heap.get?_push_size _ rfl) rfl, rfl⟩ isSubtype_stop (wpAny_pure (q _ fun b ob hb e => ?_)))
  have e2 := (e1 b hb).trans e
  rw [Heap.get?_update_other _ _ (Nat.ne_of_gt (Heap.lt_size (Heap.get?_push_of_some _ e2)))]
  exact Heap.get?_push_of_some _ (Heap.get?_push_of_some _ e2)
theorem next_tup_hot {it t x : Addr} {i : Nat} {items : Array Value} {Q : Option Value → Shared → Prop} (hot : HotX.HotAt A x s.heap) (hx : x ≠ it) (hit : s.heap.IsTupleIter it t i) (ht : s.heap.IsTuple t items) (he : items[i]? = none)
    (q : ∀ h', Heap.ExtBut it s.heap h' → Q none { s with heap := h' }) : wpAny (model prog w) A (pyNext (.ref it)) Q E s := by
  have hT := hit.typeIs
  obtain ⟨o, ho, hc, hd⟩ := hit
  obtain ⟨ol, hol, _, nl, hdl⟩ := ht
  unfold pyNext
  refine wpAny_bind (wpAny_attempt (wpAny_callSpecial?_slot (name := Str.ofString "__next__") hT F.slot_tuple_iterator_next (wpAny_call_entry F.slot_tuple_iterator_next hT F.entry_tuple_iterator_next ?_ (F.args_tuple_iterator_next_1 _))))
  show wpAny _ _ (field (.ref it) 0 >>= _) _ _ s
  refine wpAny_bind (wpAny_field ho hd (x := .ref t) rfl ?_)
  show wpAny _ _ (if (Value.ref t == Value.none) = true then _ else _) _ _ s
  rw [if_neg (show ¬ ((Value.ref t == Value.none) = true) from Bool.false_ne_true)]
  show wpAny _ _ (field (.ref it) 1 >>= _) _ _ s
  refine wpAny_bind (wpAny_field ho hd (x := .int i 0) rfl ?_)
  show wpAny _ _ (seqItems? (.ref t) >>= _) _ _ s
  refine wpAny_bind (wpAny_seqItems hol hdl ?_)
  simp only [Int.toNat_natCast, he]
  refine wpAny_bind (wpAny_rule (wpAny_bind (wpAny_setField ho hd (by simp) ?_)))
  show wpAny _ _ (newExc (.type "StopIteration") [] >>= _) _ _ _
  refine wpAny_bind ?_
  simp only [newExc, newTuple]
  refine wpAny_bind (wpAny_newObj_type ?_ (by size_fits))
  refine wpAny_bind (m := firstArgMember _ _) (wpAny_of_eq (a := Value.none) (by first | rfl | (simp only [firstArgMember]; rfl)) ?_)
  refine wpAny_newObj_type ?_ (by size_fits)
  have e1 : ∀ b, b ≠ it → (s.heap.update it (Obj.mapFields (·.setIfInBounds 0 Value.none))).get? b = s.heap.get? b := fun b hb => Heap.get?_update_other _ _ (Ne.symm hb)
  obtain ⟨hq, o1, vs1, g1, d1, c1⟩ := hot
  have g2 := (e1 x hx).trans g1
  refine HotX.raiseNew_hot (x1 := x) ⟨hq, o1, vs1, Heap.get?_push_of_some _ (Heap.get?_push_of_some _ g2), d1, c1⟩ (Nat.ne_of_lt (Heap.lt_size (Heap.get?_push_of_some _ g2))) (Heap.get?_push_size _ rfl) rfl (by first | (simp; done) | (simp; omega)) ?_
  refine wpAny_bind (wpAny_isInstance (T := "StopIteration") (b := true) ⟨_, Heap.get?_update_self _ (Heap.get?_push_size _ rfl) rfl, rfl⟩ isSubtype_stop (wpAny_pure (q _ fun b ob hb e => ?_)))
  have e2 := (e1 b hb).trans e
  rw [Heap.get?_update_other _ _ (Nat.ne_of_gt (Heap.lt_size (Heap.get?_push_of_some _ e2)))]
  exact Heap.get?_push_of_some _ (Heap.get?_push_of_some _ e2)
theorem unpackItems_hot {t x : Addr} {items : Array Value} {Q : List Value → Shared → Prop} (hot : HotX.HotAt A x s.heap) (ht : IsTup s.heap t items)
    (q : ∀ h', Heap.ExtBut s.heap.objs.size s.heap h' → Q items.toList { s with heap := h' }) : wpAny (model prog w) A (unpackItems (.ref t) items.size none) Q E s := by
  have hlt : t ≠ s.heap.objs.size := by obtain ⟨o, ho, _⟩ := ht; exact Nat.ne_of_lt (Heap.lt_size ho)
  have hxl : x ≠ s.heap.objs.size := by obtain ⟨_, o, _, ho, _⟩ := hot; exact Nat.ne_of_lt (Heap.lt_size ho)
  unfold unpackItems
  refine wpAny_bind ?_
  unfold notIterableAtAll
  refine wpAny_bind (wpAny_specialOf ht.typeIs slot_tuple_iter.lookup (wpAny_pure ?_))
  simp only [Bool.false_eq_true, if_false]
  refine wpAny_bind (wpAny_holding (iter_tuple ht (wpAny_bind (wpAny_holding (draw_tuple hlt items.size 0 _ _ ⟨_, Heap.get?_push_size _ rfl, rfl, rfl⟩ (ht.push _) (by omega) fun h₁ hit₁ hs₁ => ?_)))))
  have hall : List.take items.size (List.drop 0 items.toList) = items.toList := by rw [List.drop_zero]; exact List.take_of_length_le (by simp)
  rw [hall, if_neg (by simp)]
  have ht1 := (ht.push { cls := .type "tuple_iterator", data := .fields #[.ref t, .int 0 0] }).extBut hs₁.extBut hlt
  refine wpAny_bind (wpAny_holding (next_tup_hot (hotUp hot fun o e => (hs₁.extBut x o hxl (Heap.get?_push_of_some _ e))) hxl hit₁ ht1 (by simp) fun h₂ he₂ => ?_))
  simp only [Option.isSome_none, Bool.false_eq_true, if_false]
  exact wpAny_pure (q h₂ fun b o hb e => he₂ b o hb (hs₁.extBut b o hb (Heap.get?_push_of_some _ e)))
theorem assign_tup_hot {env : Env} {elts : List Expr} {x1} {pos : Pos} {t x : Addr} {items : Array Value} {Q : Unit → Shared → Prop} (hot : HotX.HotAt A x s.heap) (ht : IsTup s.heap t items) (hn : (assignEach elts env).length = items.size) (hst : (assignEach elts env).findIdx? (·.1) = none)
    (k : ∀ h', Heap.ExtBut s.heap.objs.size s.heap h' → wpAny (model prog w) A (assignInOrder ((assignEach elts env).map (·.2)) items.toList) Q E { s with heap := h' }) : wpAny (model prog w) A (assign (.Tuple elts x1 pos) env (.ref t)) Q E s := by
  rw [assign_Tuple]
  refine wpAny_bind (wpAny_standAt ?_)
  unfold unpack
  rw [hn, hst]
  exact wpAny_bind (wpAny_holding (unpackItems_hot hot ht k))
end
theorem pg_tup_hot {X : L2.Cx} {es : List Expr} {k : Nat} {t : L2.TGs} {n : Nat} {pos : Pos} (hc : ∀ (pins : List (Addr × Obj)) (σ : L2.St) (H : Hp) (s : Shared), L2.Inv X pins σ H s → ∃ x, _root_.HotX.HotAt X.A x s.heap) (h : L2.PGs X es t)
    (hn : (assignEach es X.env).length = n := by rfl) (hst : (assignEach es X.env).findIdx? (·.1) = none := by rfl) : L2.PG X (.Tuple es k pos) (L2.gTup X.K n t) := by
  refine ⟨fun pins s σ H v u Q I r hw => ?_⟩
  obtain ⟨a, xs, e1, hq, hl, hw⟩ := hw
  subst e1
  cases r
  obtain ⟨its, rv, ht, hz⟩ := I.tuple hq
  obtain ⟨x, hx⟩ := hc _ _ _ _ I
  refine assign_tup_hot hx ht (by simp [hn, ← hl, rv.length]) hst fun h' hx => ?_
  exact h.run pins _ σ H xs _ Q (I.kept (t' := s.toks) fun b o e => hx b o (Nat.ne_of_lt (Heap.lt_size e)) e) (by simpa using rv) hw
/-! ### a list walked within a suite -/
section
variable {X : L2.Cx} {tg : Expr}
theorem item_hot {a it : Addr} {i : Nat} {pins : List (Addr × Obj)} {s : Shared} {σ : L2.St} {H : Hp} {E : Value → Shared → Prop} (I : L2.Inv X pins σ H s) (hf : L2.FpOk X pins H it) (st : s.heap.IsListIter it a i) (hg : (L2.Itl X.K a).go i H) :
    wpAny (model X.prog X.w) X.A (pyNext (.ref it)) (fun r s1 => ∃ u, r = some u ∧ wpAny (model X.prog X.w) X.A (letOwnedTupleGo tg (.ref it) u) (fun _ s2 => ∃ x, L2.Inv X pins σ H s2 ∧ L2.RelV x u ∧ (L2.Itl X.K a).yld i H x H ∧ s2.heap.IsListIter it a (i + 1)) E s1) E s := by
  obtain ⟨xs, x, hq, hx⟩ := hg
  obtain ⟨its, rv, p, hz⟩ := I.list hq
  obtain ⟨u, hu, ru⟩ := rv.get hx
  obtain ⟨f0, f1, f2, f3, f4, f5⟩ := hf
  refine wpAny_pyNext_list_item st p.isList (x := u) (by simpa using hu) fun h' st' sb => ⟨u, rfl, ?_⟩
  have J : L2.Inv X pins σ H { s with heap := h' } := I.turned (t' := s.toks) (fun b o hb e => (sb.2 b hb).trans e) f0 f1 f3 f4 f5
  obtain ⟨o, e, c, d⟩ := id st'
  exact L2.go_of (s := { s with heap := h' }) e c d (by decide) ⟨x, J, ru, ⟨rfl, fun ys hy => by rw [I.list_inj hy hq]; exact hx⟩, st'⟩
theorem done_hot {a it x : Addr} {i : Nat} {pins : List (Addr × Obj)} {s : Shared} {σ : L2.St} {H : Hp} {E : Value → Shared → Prop} (I : L2.Inv X pins σ H s) (hot : HotX.HotAt X.A x s.heap) (hx : x ≠ it) (hf : L2.FpOk X pins H it) (st : s.heap.IsListIter it a i) (hg : (L2.Itl X.K a).stop i H) :
    wpAny (model X.prog X.w) X.A (pyNext (.ref it)) (fun r s1 => r = none ∧ L2.Inv X pins σ H s1) E s := by
  obtain ⟨xs, hq, hl⟩ := hg
  obtain ⟨its, rv, p, hz⟩ := I.list hq
  obtain ⟨f0, f1, f2, f3, f4, f5⟩ := hf
  have hn := rv.length
  exact next_list_hot hot hx st p.isList (by simp; omega) fun h' eb => ⟨rfl, I.turned (t' := s.toks) (fun b o hb e => eb b o hb e) f0 f1 f3 f4 f5⟩
/-- [elt for tg in iter if ..], iter a list, within a suite -/
theorem pe_lc_hot {elt iter : Expr} {ifs : List Expr} {scope : Scope} {own : List (Str × Nat)} {pos : Pos} {ti : L2.TE} {g : L2.TG} {tt : L2.TT} {te : L2.TE} (hc : L2H.HotC X) (hN : X.N.Nodup) (hi : L2.PE X iter ti) (ok : L2.BlkOk X.N X.env.scope scope own)
    (hg : ∀ (s : Shared) (H : Hp) (C : Addr) (cl : List (Str × Addr)) (fp : List Addr), (∀ (pins : List (Addr × Obj)) (σ : L2.St) (H' : Hp) (s' : Shared), L2.Inv (X.blk s H scope (compEnvC scope cl C X.env) fp) pins σ H' s' → ∃ x, HotX.HotAt X.A x s'.heap) → L2.PG (X.blk s H scope (compEnvC scope cl C X.env) fp) tg g)
    (ht : ∀ (s : Shared) (H : Hp) (C : Addr) (cl : List (Str × Addr)) (fp : List Addr), L2.PTs (X.blk s H scope (compEnvC scope cl C X.env) fp) ifs tt)
    (he : ∀ (s : Shared) (H : Hp) (C : Addr) (cl : List (Str × Addr)) (fp : List Addr), L2.PE (X.blk s H scope (compEnvC scope cl C X.env) fp) elt te) (hs : ∀ x, foldedSetIterable iter X.env x = pure x := by intro _; rfl) :
    L2.PE X (.ListComp elt [⟨tg, iter, ifs, 0⟩] scope pos) (L2.tLc (L2.iList X.K ti) g tt te (own.map (·.2))) := by
  refine ⟨fun pins s σ H Q I h => ?_⟩
  rw [eval_ListComp]
  have free : ∀ y ∈ scope.names, y.2 = .free → ∃ c, X.env.cells.lookup y.1 = some c := fun y hy e => (ok.free y hy e).elim (fun k => I.ok.has _ (.inl k)) (fun k => I.ok.has _ (.inr k))
  obtain ⟨p0, ⟨hh0, v0, d0, c0⟩, m0⟩ := hc
  refine wpAny_comprehension_free (use := none) rfl hs (L2.closure_ok free) ok.kind (fun y hy e => by rw [ok.uniq y hy, e]) ?_
  refine L2.thn (hi.run pins s σ H _ I h) fun xv s1 hx => ?_
  obtain ⟨xw, H1, I1, r1, q1⟩ := hx
  obtain ⟨a, ea, ⟨xs, hq⟩, q⟩ := q1
  subst ea
  cases r1
  obtain ⟨its, rv, p, hz⟩ := I1.list hq
  refine wpAny_pyIter_list p.isList ?_
  generalize hit : s1.heap.objs.size = it
  have I2 : L2.Inv X pins σ H1 { s1 with heap := s1.heap.push { cls := .type "list_iterator", data := .fields #[.ref a, .int 0 0] } } := I1.kept (t' := s1.toks) fun b o e => Heap.get?_push_of_some _ e
  have st2 : (s1.heap.push { cls := .type "list_iterator", data := .fields #[.ref a, .int 0 0] }).IsListIter it a 0 := ⟨_, hit ▸ Heap.get?_push_size _ rfl, rfl, rfl⟩
  have f2 : L2.FpOk X pins H1 it := I1.fpOk (Nat.le_of_eq hit) (I1.hok.fresh (Nat.le_of_eq hit))
  generalize hs2 : ({ s1 with heap := s1.heap.push { cls := .type "list_iterator", data := .fields #[.ref a, .int 0 0] } } : Shared) = s2 at I2 ⊢
  replace st2 : s2.heap.IsListIter it a 0 := by rw [← hs2]; exact st2
  refine wpAny_newObj_type (L2.newEnv_comp ?_) (by show 0 ≤ sizeLine; decide)
  generalize hD : s2.heap.objs.size = D
  have nD : H1 D = none := I2.hok.fresh (Nat.le_of_eq hD)
  obtain ⟨W, ⟨k0, w0⟩, turn⟩ := q D nD
  generalize hs3 : ({ s2 with heap := s2.heap.push { cls := .type "list", data := .seq ([] : List Value).toArray } } : Shared) = s3
  have e3 : s3.heap = s2.heap.push { cls := .type "list", data := .seq ([] : List Value).toArray } := by rw [← hs3]
  have I3 : L2.Inv X pins σ (L2.upd H1 D (.lst [])) s3 := by
    rw [← hs3]
    exact I2.laid (t' := s2.toks) (fun b o e => Heap.get?_push_of_some _ e) (Nat.le_of_eq hD) ⟨Nat.zero_le _, [], 0, .nil, by rw [← hD]; exact Heap.get?_push_size _ rfl⟩
  have itlt : it < s2.heap.objs.size := by obtain ⟨o, e, _⟩ := id st2; exact Heap.lt_size e
  have f3 : ∀ b ∈ [it], L2.FpOk X pins (L2.upd H1 D (.lst [])) b ∧ b < s3.heap.objs.size := fun b hb => by
    have eb : b = it := by simpa using hb
    subst eb
    refine ⟨⟨?_, f2.2⟩, by rw [e3, Heap.size_push]; exact Nat.lt_succ_of_lt itlt⟩
    rw [L2.upd_ne (by rw [← hD]; exact Nat.ne_of_lt itlt)]
    exact f2.1
  have st3 : s3.heap.IsListIter it a 0 := st2.at fun o e => by rw [e3]; exact Heap.get?_push_of_some _ e
  have I4 := L2.block_start I3 ok hN f3
  obtain ⟨x1, x2, x3, x4, x5⟩ := I3.pin p0 (List.mem_append_left _ m0)
  have xit : p0.1 ≠ it := f2.2.2.2.2.2 p0 (List.mem_append_left _ m0)
  have pg := hg s3 (L2.upd H1 D (.lst [])) s3.heap.objs.size (cellsFrom (s3.heap.objs.size + 1) scope.names (L2.cloFrom X.env.cells scope.names [])) [it]
  have pt := ht s3 (L2.upd H1 D (.lst [])) s3.heap.objs.size (cellsFrom (s3.heap.objs.size + 1) scope.names (L2.cloFrom X.env.cells scope.names [])) [it]
  have pe := he s3 (L2.upd H1 D (.lst [])) s3.heap.objs.size (cellsFrom (s3.heap.objs.size + 1) scope.names (L2.cloFrom X.env.cells scope.names [])) [it]
  show codeAny _ _ (.compStart (.ListComp elt [⟨tg, iter, ifs, 0⟩] scope pos) 0 (.ref it) (.ref D) (compEnvC scope (cellsFrom (s3.heap.objs.size + 1) scope.names (L2.cloFrom X.env.cells scope.names [])) s3.heap.objs.size X.env)) (compPost (model X.prog X.w) X.A X.xe none (L2.EP X pins σ Q) (.ref D) s3.heap.objs.size) { s3 with heap := pushCells (s3.heap.push { cls := .type "dict", data := .dict #[] }) scope.names }
  generalize hce : compEnvC scope (cellsFrom (s3.heap.objs.size + 1) scope.names (L2.cloFrom X.env.cells scope.names [])) s3.heap.objs.size X.env = ce at I4 pg pt pe ⊢
  have cL : ce.locals = s3.heap.objs.size := by subst hce; rfl
  generalize hH3 : L2.upd H1 D (.lst []) = H3 at I3 I4 pg pt pe w0 f3 x2
  generalize hs4 : ({ s3 with heap := pushCells (s3.heap.push { cls := .type "dict", data := .dict #[] }) scope.names } : Shared) = s4 at I4 ⊢
  have nit : H3 it = none := (f3 it (by simp)).1.1
  have st4 : s4.heap.IsListIter it a 0 := st3.at fun o e => by rw [← hs4]; exact pushCells_keeps _ _ _ _ (Heap.get?_push_of_some _ e)
  -- the handled error stands through the block
  have hotB : ∀ {qs : List (Addr × Obj)} {σ' : L2.St} {H' : Hp} {s' : Shared}, L2.Inv (X.blk s3 H3 scope ce [it]) qs σ' H' s' → HotX.HotAt X.A p0.1 s'.heap := fun {qs σ' H' s'} J =>
    ⟨hh0, p0.2, v0, J.base.keep p0.1 p0.2 x1 x2 (fun z => by
      have z : p0.1 ∈ L2.frs X.stack := z
      rcases List.mem_cons.mp (I3.stkSub p0.1 z) with q | q
      · exact x3 q
      · exact x4 q) (by show p0.1 ∉ [it]; simpa using xit), d0, c0⟩
  have stat : ∀ {σ' : L2.St} {H' : Hp} {s' : Shared}, L2.Inv (X.blk s3 H3 scope ce [it]) [] σ' H' s' → H' it = none → L2.FpOk (X.blk s3 H3 scope ce [it]) [] H' it := fun {σ' H' s'} J hn =>
    ⟨hn, (J.ok.exf it (by show it ∈ [it]; simp)).1, J.ok.exfs it (by show it ∈ [it]; simp), .inl (by show it ∈ [it]; simp), fun x c e => (J.ok.exf it (by show it ∈ [it]; simp)).2 x c e, fun p hp => absurd (show p ∈ ([] : List (Addr × Obj)) ++ [] from hp) (by simp)⟩
  replace pg := pg fun qs σ' H' s' J => ⟨p0.1, hotB J⟩
  have loop : codeAny (model X.prog X.w) X.A (.compLoop (.ListComp elt [⟨tg, iter, ifs, 0⟩] scope pos) 0 (.ref it) (.ref D) ce) (compPost (model X.prog X.w) X.A X.xe none (L2.EP X pins σ Q) (.ref D) s3.heap.objs.size) s4 := by
    refine L2.compLoop_any (fun n s' => ∃ i H', L2.Inv (X.blk s3 H3 scope ce [it]) [] (L2.wipe σ (own.map (·.2))) H' s' ∧ s'.heap.IsListIter it a i ∧ H' it = none ∧ W i n H') ?_ k0 ⟨0, H3, I4, st4, nit, w0⟩
    rintro n s5 ⟨i, H5, I5, st5, n5, w5⟩
    rcases turn i n H5 w5 with ⟨stop, qq⟩ | ⟨go, Nx, hNx, step⟩
    · refine L2.thnF (done_hot (X := X.blk s3 H3 scope ce [it]) (E := fun _ _ => False) I5 (hotB I5) xit (stat I5 n5) st5 stop) fun r s6 ⟨hr, I6⟩ => ?_
      subst hr
      have I7 : L2.Inv X pins σ H5 s6 := I3.call' (ch := [it]) I6.os I6.base I6.hok I6.bare fun b hb => ⟨(f3 b hb).1.2.2.2.1, (f3 b hb).1.2.1, (f3 b hb).1.2.2.2.2.1, (f3 b hb).1.2.2.2.2.2⟩
      have nC : H5 s3.heap.objs.size = none := by
        have z : H5 ce.locals = none := I6.free
        rw [cL] at z
        exact z
      obtain ⟨m, hn, _⟩ := I6.loc
      replace hn : s6.heap.Ns ce.locals m := hn
      rw [cL] at hn
      refine ⟨m, hn, fun h'' sb => ?_⟩
      obtain ⟨g0, g1, g2, g3, g4, g5⟩ := I3.fpOk (Nat.le_refl _) nC
      exact ⟨.ref D, H5, I7.turned (t' := s6.toks) (fun b o hb e => (sb.2 b hb).trans e) g0 g1 g3 g4 g5, rfl, qq⟩
    · refine L2.thnF (item_hot (X := X.blk s3 H3 scope ce [it]) (tg := tg) (E := fun _ _ => False) I5 (stat I5 n5) st5 go) fun r s6 ⟨u, hr, h6⟩ => ?_
      subst hr
      refine L2.thnF h6 fun _ s7 ⟨x, I7, r7, y7, st7⟩ => ?_
      have so7 : ∃ o, s7.heap.get? it = some o ∧ ∀ v, o.data ≠ .cell v := by
        obtain ⟨o, e, c, d⟩ := id st7
        exact ⟨o, e, fun v z => by rw [d] at z; cases z⟩
      obtain ⟨o7, go7, nc7⟩ := so7
      have J7 := I7.pinned (fp := [it]) (fun b hb => by
        have eb : b = it := by simpa using hb
        rw [eb]
        exact stat I7 n5) (fun b hb => by
        have eb : b = it := by simpa using hb
        rw [eb]
        exact ⟨o7, go7, nc7⟩)
      refine L2.thnF (pg.run _ s7 _ H5 x u _ J7 r7 (step x H5 y7)) fun _ s8 ⟨σ8, H8, I8, hw8, q8⟩ => ?_
      refine L2.thnF (pt.run _ s8 σ8 H8 _ I8 q8) fun b s9 ⟨H9, I9, q9⟩ => ?_
      have fin : ∀ {s' : Shared} {H' : Hp}, L2.Inv (X.blk s3 H3 scope ce [it]) ([] ++ L2.pinsAt [it] s7.heap) σ8 H' s' → Nx H' → ∃ m, m < n ∧ ∃ i H', L2.Inv (X.blk s3 H3 scope ce [it]) [] (L2.wipe σ (own.map (·.2))) H' s' ∧ s'.heap.IsListIter it a i ∧ H' it = none ∧ W i m H' := fun {s' H'} J nx => by
        obtain ⟨m', hm, w'⟩ := hNx H' nx
        have pin := J.pin (it, o7) (List.mem_append_right _ (List.mem_append_right _ (L2.mem_pinsAt (by simp) go7)))
        refine ⟨m', hm, i + 1, H', (J.unpinned (pins := [])).weak (by rw [← hw8, L2.wipe_length]) (fun j v e => ?_), st7.at fun o e => by rw [go7] at e; cases e; exact pin.1, pin.2.1, w'⟩
        rw [← hw8] at e
        exact (L2.wipe_some e).1
      cases b with
      | false =>
        simp only [Bool.false_eq_true, if_false] at q9 ⊢
        exact fin I9 q9
      | true =>
        simp only [if_true] at q9 ⊢
        refine L2.thnF (pe.run _ s9 σ8 H9 _ I9 q9) fun z s10 ⟨yv, H10, I10, r10, acc, hD10, hz10, nx⟩ => ?_
        exact L2.app_ok (X := X.blk s3 H3 scope ce [it]) I10 hD10 hz10 r10 fun s11 I11 => fin I11 nx
  exact codeAny_compStart_list loop (wpAny_pyIter_listiter st4 loop)
end
end PV

set_option Elab.async false
set_option linter.all false
set_option autoImplicit false
set_option maxRecDepth 100000
set_option maxHeartbeats 2000000
/-! Lam1: x(lambda: body), the errors within keeping that their context is None. -/
namespace PV
open PySem PySem.Spec PyProof.Rows
/-- as lamCx of the library, for errors whose context is None -/
def lamN (X : L2.Cx) (A : Around) (outer : List Env) (s : Shared) (H : Hp) (E : L2.XK) (scope : Scope) (f c' : Addr) : L2.Cx :=
  { LamX.lamCx X A outer s H E scope f c' with xe := fun e s' => wpAny (model X.prog X.w) (A.deeper (LamX.lamEnv X scope s.heap.objs.size f c')) (leaving (LamX.lamEnv X scope s.heap.objs.size f c') e) (fun _ s'' => L2N.CX X.prog X.w outer H s E e s'') (fun e' s'' => L2N.CX X.prog X.w outer H s E e' s'') s' }
theorem inv_xe {X : L2.Cx} {xe : Value → Shared → Prop} {pins : List (Addr × Obj)} {σ : L2.St} {H : Hp} {s : Shared} (I : L2.Inv X pins σ H s) : L2.Inv { X with xe := xe } pins σ H s :=
  ⟨⟨I.ok.mod, I.ok.kind, I.ok.glob, I.ok.blt, I.ok.above, I.ok.inj, I.ok.has, I.ok.cab, I.ok.hd, I.ok.frames, I.ok.stk, I.ok.exf, I.ok.bs, I.ok.bsz, I.ok.noex, I.ok.exfs, I.ok.funs, I.ok.frf⟩, I.os, I.bare, I.base, I.loc, I.cell, I.free, I.freeC, I.pin, I.hok, I.len⟩
section
variable {X : L2.Cx} {pins : List (Addr × Obj)} {σ : L2.St} {H HZ : Hp} {s s1 : Shared}
/-- a(), a the parameter that holds the lambda -/
theorem act_n {CXg : L2.CXT} {Eg : L2.XK} {Ng : List Str} {qg : Str} {sg : Scope} {g f c' : Addr} {cdg pm ctv : Value} {params : Arguments} {body : Expr} {scope : Scope} {k i : Nat} {a : Str} {pn : List (Addr × Obj)} {xe : Value → Shared → Prop} {W : L2.WX} {E : L2.XK} {tb : L2.TE} {p1 p2 : Pos}
    (I : L2.Inv X pins σ H s) (L : LamX.LamS X.env.scope scope) (hf : s.heap.get? f = some (PySem.W.kla_obj "<lambda>" (X.env.qual ++ "<lambda>") params body scope (L2.cloFrom X.env.cells scope.names []) pm c' ctv)) (hfn : H f = none) (hfr : f ∉ L2.frs X.stack)
    (hbind : bindArgs (PySem.W.kla_fn "<lambda>" (X.env.qual ++ "<lambda>") params body scope (L2.cloFrom X.env.cells scope.names []) pm (.ref c') ctv) ⟨[], []⟩ = pure [])
    (tk : L2N.Takes ((L2.cxOf CXg X.prog X.w X.K X.mg X.base Ng qg sg g cdg X.A X.stack s H Eg).tr pn xe) W) (hW : ∀ cls d σ' H', E cls d H' → W cls d σ' H') (hr : L2.Room (k + 1) (X.A.deeper (envOfC qg sg s.heap.objs.size g cdg)))
    (hbody : ∀ (A : Around) (outer : List Env) (s : Shared) (H : Hp), L2.Room k (A.deeper (LamX.lamEnv X scope s.heap.objs.size f c')) → L2.PE (lamN X A outer s H E scope f c') body tb)
    (hN : Ng[i]? = some a) (hv : L2.Vis sg a) (hd : (a == ("__debug__" : Str)) = false := by decide) (hcd : (a == ("__classdict__" : Str)) = false := by decide) :
    L2.PE ((L2.cxOf CXg X.prog X.w X.K X.mg X.base Ng qg sg g cdg X.A X.stack s H Eg).tr pn xe) (.Call (.Name a p1) [] [] p2)
      (fun σZ HZ Q => σZ[i]? = some (some (.ref f)) ∧ HZ c' = some (LamX.CodeO c' (X.env.qual ++ "<lambda>")) ∧ tb σ HZ Q) := by
  refine ⟨fun pinsZ sZ σZ HZ Q IZ h => ?_⟩
  obtain ⟨hs, hc, ht⟩ := h
  refine wpAny_Call_Name_kw (L2.thn ((L2.pe_var (pos := p1) (i := i) hN hv hd hcd).run pinsZ sZ σZ HZ (fun v H1 => v = .ref f ∧ H1 = HZ) IZ ⟨.ref f, hs, rfl, rfl⟩) fun u s1 ⟨v, H1, I1, r1, q1⟩ => ?_)
  obtain ⟨rfl, rfl⟩ := q1
  obtain rfl : u = Value.ref f := r1
  have of1 := I1.base.keep f _ hf hfn hfr (fun z => nomatch (show f ∈ ([] : List Addr) from z))
  refine PySem.W.callWith_F0 ⟨_, _, _, _, of1⟩ ?_
  have un : L2.Un (L2.frs X.stack) [] H H1 s.heap s1.heap := I1.base
  obtain ⟨⟨oc, vs, t, hoc, hdc, hvc⟩, _, _⟩ := I1.hok c' _ hc
  have rc : codeAny (model X.prog X.w) (X.A.deeper (envOfC qg sg s.heap.objs.size g cdg)) (.call (.ref f) ⟨[], []⟩) (L2.CR (L2N.CX X.prog X.w) (envOfC qg sg s.heap.objs.size g cdg :: X.stack) X.prog X.w H1 s1 Q E) s1 := by
    refine PySem.W.kla_callFunE hr.depth of1 rfl L.co L.gen rfl ⟨c', oc, vs, t, rfl, hoc, hdc, hvc⟩ ?_
    rw [hbind]
    refine wpAny_pure (wpAny_newFunctionEnv (fun y hy => (L.own y hy).2) (fun y hy => absurd hy (by simp)) (fun h₁ hns hsb => ⟨I1.nolimit.fresh _ hsb, ?_⟩) L.kind)
    show codeAny _ _ (.expr body (LamX.lamEnv X scope s1.heap.objs.size f c')) _ _
    have kp : ∀ b o, s1.heap.get? b = some o → h₁.get? b = some o := fun b o e => hsb.extBut b o (Nat.ne_of_lt (Heap.lt_size e)) (Heap.get?_push_of_some _ e)
    have J := inv_xe (xe := (lamN X (X.A.deeper (envOfC qg sg s.heap.objs.size g cdg)) (envOfC qg sg s.heap.objs.size g cdg :: X.stack) s1 H1 E scope f c').xe) (LamX.lam_start2 (E := E) (f := f) (c' := c') (tk := s1.toks + ([] : List (Str × Value)).length) I L I1.env0 hr.hd un hns kp)
    refine PySem.W.kla_codeExpr (wpAny_mono ((hbody _ _ s1 H1 (hr.deeper _)).run [] _ _ H1 Q J ht) (fun v s' hq => ?_) fun e s' hq => hq)
    obtain ⟨w', H', J', rv, q⟩ := hq
    exact ⟨w', H', J'.os, J'.bare, J'.base, J'.hok, rv, q⟩
  have hx : L2.Passes (L2N.CX X.prog X.w) ((L2.cxOf CXg X.prog X.w X.K X.mg X.base Ng qg sg g cdg X.A X.stack s H Eg).tr pn xe) E := L2N.passes_call tk hW
  refine wpAny_call (codeAny_mono rc fun r s' hq => ?_)
  cases r with
  | error e => exact hx pinsZ σZ H1 s1 e s' I1 hq
  | ok fl =>
    cases fl with
    | ret u => exact I1.after hq
    | _ => exact False.elim hq
end
/-- the def that calls what it got -/
def GivesN (X : L2.Cx) (Ng : List Str) (x : Str) (sg : Scope) (g : Addr) (cdg : Value) (bg : List Stmt) (a : Str) (q : Str) (TT : (L2.XK → Hp → L2.VK → Prop) → Hp → L2.VK → Prop) : Prop :=
  ∀ (f c' : Addr) (s : Shared) (H : Hp) (Q : L2.VK) (tl : L2.XK → Hp → L2.VK → Prop),
    (∀ (W : L2.WX) (pn : List (Addr × Obj)) (xe : Value → Shared → Prop) (E : L2.XK) (p1 p2 : Pos), L2N.Takes ((L2.cxOf C8.CX0 X.prog X.w X.K X.mg X.base Ng x sg g cdg X.A X.stack s H C8.E0).tr pn xe) W → (∀ cls d σ' H', E cls d H' → W cls d σ' H') →
      L2.PE ((L2.cxOf C8.CX0 X.prog X.w X.K X.mg X.base Ng x sg g cdg X.A X.stack s H C8.E0).tr pn xe) (.Call (.Name a p1) [] [] p2) (fun σZ HZ Q => σZ[0]? = some (some (.ref f)) ∧ HZ c' = some (LamX.CodeO c' q) ∧ tl E HZ Q)) →
    H c' = some (LamX.CodeO c' q) → TT tl H Q →
    ∃ t, L2.PSs (L2.cxOf C8.CX0 X.prog X.w X.K X.mg X.base Ng x sg g cdg X.A X.stack s H C8.E0).nox bg t ∧ t { nx := fun _ H' => Q .non H', rt := Q } (L2.start Ng [.ref f]) H
/-- x(lambda: body) -/
theorem lamcall_n {X : L2.Cx} {T : List (Addr × Str)} {TT : (L2.XK → Hp → L2.VK → Prop) → Hp → L2.VK → Prop} {x a : Str} {g c P : Addr} {k : Nat} {pg : Arguments} {bg : List Stmt} {sg : Scope} {dV kV doc pm cdv ct oc : Value} {an od : Option Addr} {osl : Array (Option Value)} {Ng : List Str}
    {params : Arguments} {body : Expr} {scope : Scope} {t : L2.XK → L2.TE} {p lpos pos : Pos} (hg : L2.Gl X x) (hm : X.mg x = some (.ref g)) (hk : PySem.W.keepIn X.K (.ref g) = true)
    (lk : X.K.lookup g = some ⟨oc, od, .func (PySem.W.fnOf x x pg bg sg dV kV doc pm an cdv ct), osl⟩) (hcg : PySem.W.codeIn X.K cdv x = true) (hb : L2.Binds X.K (PySem.W.fnOf x x pg bg sg dV kV doc pm an cdv ct) [a] []) (Sg : L2.FnScope Ng [a] sg) (hNg : Ng[0]? = some a) (hva : L2.Vis sg a)
    (hG : GivesN X Ng x sg g cdv bg a (X.env.qual ++ "<lambda>") TT) (TB : LamX.TabB X.base X.mg c P) (hcode : X.env.code = .ref c) (hmT : (P, X.env.qual ++ "<lambda>") ∈ T) (hu : ∀ p ∈ T, p.1 = P → p.2 = X.env.qual ++ "<lambda>") (hr : L2.Room (k + 2) X.A) (L : LamX.LamS X.env.scope scope) (hdef : defaultsOf params X.env = ([], []))
    (hbind : ∀ (q : Str) (cl : List (Str × Addr)) (pm cv ctv : Value), bindArgs (PySem.W.kla_fn "<lambda>" q params body scope cl pm cv ctv) ⟨[], []⟩ = pure [])
    (hbody : ∀ (A : Around) (outer : List Env) (s : Shared) (H : Hp) (E : L2.XK) (f c' : Addr), L2.Room k (A.deeper (LamX.lamEnv X scope s.heap.objs.size f c')) → L2.PE (lamN X A outer s H E scope f c') body (t E))
    (hdb : (x == ("__debug__" : Str)) = false := by decide) (hd : (a == ("__debug__" : Str)) = false := by decide) (hcd : (a == ("__classdict__" : Str)) = false := by decide) :
    L2.PE X (.Call (.Name x p) [.Lambda params body scope lpos] [] pos) (LamX.tLam T TT t) := by
  refine ⟨fun pins s σ H Q I h => ?_⟩
  obtain ⟨hT, h⟩ := h
  refine wpAny_Call_Name_kw (L2.ld_glob I hg hm ?_ hdb)
  refine PySem.W.callWith_K (h₀ := X.base) I.ok.mod.kin hk ?_ (by rfl) (by rfl)
  show wpAny _ _ (spliced ((false, eval (.Lambda params body scope lpos) X.env) :: backTo pos (starEach [] X.env))) _ _ s
  refine Calls.spliced_cons (LamX.lam_make2 I TB hcode hmT hu hT hdef (L.has I.ok) fun f c' pm' ctv H1 s' I1 eN T1 hf hfn hfr hco => ?_)
  refine Calls.spliced_nil ⟨I1.kIn, ?_⟩
  have rc : codeAny (model X.prog X.w) X.A (.call (.ref g) ⟨[.ref f], []⟩) (L2.CR C8.CX0 X.stack X.prog X.w H1 s' Q C8.E0) s' := by
    refine LamX.run_ofS (N := Ng) (ps := [a]) (us := [.ref f]) (vs := [.ref f]) lk hcg Sg hr I1.env0 (hb s' [.ref f] I1.kIn rfl) (.cons rfl .nil) rfl fun hr' => ?_
    obtain ⟨t', ht', hq'⟩ := hG f c' s' H1 Q (fun E H' Q' => t E σ H' Q') (fun W pn xe E p1 p2 tk hW => act_n (i := 0) I1 L hf hfn hfr (hbind _ _ _ _ _) tk hW hr' (fun A outer s H hr2 => hbody A outer s H E f c' hr2) hNg hva hd hcd) hco (h H1 eN T1)
    exact ⟨t', ht'.nox, hq'⟩
  refine wpAny_call (codeAny_mono rc fun r s2 hq => ?_)
  cases r with
  | error e => exact (show False from hq).elim
  | ok fl =>
    cases fl with
    | ret u => exact I1.after hq
    | _ => exact False.elim hq
theorem takesN0 {X : L2.Cx} : L2N.Takes X (fun _ _ _ _ => False) := fun _ _ x => by
  obtain ⟨_, _, _, _, _, _, _, _, _, _, _, _, _, _, _, _, z⟩ := x
  exact z.elim
end PV

set_option Elab.async false
set_option linter.all false
set_option autoImplicit false
set_option maxRecDepth 100000
set_option maxHeartbeats 2000000
/-! Snd10: a def's promise by its body; a def that is handed a lambda. -/
namespace PV
open PySem
theorem start_rel {Γ : Gam} {K : Fg} {n : Nat} {ρ : Nat → Addr} {H : Hp} {ws : List W} {vs : List V} {N : List Str} (r : A2 (RV Γ K n ρ H) ws vs) : StR Γ K n ρ H (PV.start N.length ws) (L2.start N vs) := by
  unfold PV.start L2.start
  have hl := r.len
  refine ⟨by simp [hl], fun i w hw => ?_⟩
  by_cases h : i < ws.length
  · rw [List.getElem?_append_left (by simpa using h)] at hw
    rw [List.getElem?_append_left (by simpa [← hl] using h)]
    rw [List.getElem?_map] at hw ⊢
    cases e : ws[i]? with
    | none => rw [e] at hw; cases hw
    | some w' =>
      rw [e] at hw
      cases hw
      obtain ⟨v, h1, h2⟩ := r.get e
      exact ⟨v, by rw [h1]; rfl, h2⟩
  · rw [List.getElem?_append_right (by simpa using h)] at hw
    rw [List.getElem?_replicate] at hw
    split at hw <;> cases hw
/-- the body's context, as the machine sees it -/
abbrev yDef (Γ : Gam) (K : Fg) (E : L2.XK) (c : Cx) : Yv := ⟨Γ, K, fun cls d _ H' => E cls d H', c⟩
theorem def_ok {P : Program} {w : World} {K : Fg} {mg : Str → Option Value} {base : Heap} {Γ : Gam} {k : Nat} {x : Str} {st : Stmt} {f : Addr} {fd : FuncData} {N ps : List Str} {m : Df} {c : Cx}
    (F : L2.Fun K x x st f fd) (Sc : L2.FnScope N ps (L2.defScope st)) (h1 : m.ar = ps.length) (h2 : m.sl = N.length)
    (hbody : ∀ (cdv : Value) (A : Around) (outer : List Env) (s : Shared) (H : Hp) (E : L2.XK), L2.Room k (A.deeper (PyProof.Rows.envOfC x (L2.defScope st) s.heap.objs.size f cdv)) →
      L2.PSs (L2.cxOf (L2N.CX P w) P w K mg base N x (L2.defScope st) f cdv A outer s H E) (L2.defBody st) (TS (yDef Γ K E c) m.body)) :
    L2.FnOk P w K mg base (L2N.CX P w) (k + 1) f fd ps (spD Γ K ps.length (fun ws h => runDf m ws c h)) := by
  obtain ⟨oc, od, kV, doc, pm, an, cdv, ct, osl, rfl, lk, hcd⟩ := F.ex
  refine L2.fn_of lk hcd Sc (fun vs H Q E h => h.1) fun A outer s H vs Q E hr hsp => ⟨_, hbody cdv A outer s H E hr, ?_⟩
  obtain ⟨hl, ws, h, ρ, c', S, r, p⟩ := hsp
  refine ⟨PV.start m.sl ws, h, ρ, S, by rw [h2]; exact start_rel r, ?_⟩
  simp only [runDf] at p
  rw [h1, ← hl, ← r.len, Nat.beq_refl] at p
  simp only [if_true] at p
  cases f : m.body c (PV.start m.sl ws) h with
  | nx τ h' => rw [f] at p; exact fun ρ' H' σ' e s t => p ρ' H' .non e s RV.mkNon
  | rt w h' => rw [f] at p; exact fun ρ' H' v e s t => p ρ' H' v e s t
  | er k q τ h' => rw [f] at p; exact fun ρ' H' σ' d e s t xr => p ρ' H' d e s xr
  | bk τ h' => rw [f] at p; exact p.elim
  | ct τ h' => rw [f] at p; exact p.elim
  | bad => rw [f] at p; exact p.elim
theorem runDf_len {m : Df} {c : Cx} {ws : List W} {h : Hh} (hl : ws.length ≠ m.ar) : runDf m ws c h = .bad := by
  unfold runDf
  have : Nat.beq ws.length m.ar = false := by
    cases e : Nat.beq ws.length m.ar with
    | false => rfl
    | true => exact absurd (Nat.eq_of_beq_eq_true e) hl
  rw [this]; rfl
/-! ### lambdas -/
abbrev Gam.lamG (Γ : Gam) (i : Nat) (f : Addr) (b : Nat × (Nat → Addr) × Hp) : Gam := { Γ with lam := some (i, f), bs := b :: Γ.bs }
theorem Sim.noLam {Γ : Gam} {K : Fg} {h : Hh} {ρ : Nat → Addr} {H : Hp} {i₀ : Nat} {f : Addr} {b : Nat × (Nat → Addr) × Hp} (hn : Γ.lam = none) (S : Sim (Γ.lamG i₀ f b) K h ρ H) : Sim Γ K h ρ H where
  len := S.len
  obj := fun a o e => OR.gam (Γ := Γ.lamG i₀ f b) (Γ' := Γ) rfl rfl (S.obj a o e)
  inj := S.inj
  tab := S.tab
  exn := fun i a c d e => by
    obtain ⟨h1, p, h2, h3⟩ := S.exn i a c d e
    exact ⟨h1, p, h2, XR.gam (Γ := Γ.lamG i₀ f b) (Γ' := Γ) rfl rfl rfl rfl h3⟩
  lam := fun i a e => by rw [hn] at e; cases e
  bs := fun c hc => S.bs c (List.mem_cons_of_mem _ hc)
theorem Sim.extN {Γ : Gam} {K : Fg} {h : Hh} {ρ : Nat → Addr} {H H1 : Hp} (S : Sim Γ K h ρ H) (e : LamX.ExtN H H1) (t : LamX.Tabs Γ.T H1) : Ext h.n ρ H h.n ρ H1 ∧ Sim Γ K h ρ H1 := by
  have he : Ext h.n ρ H h.n ρ H1 := ⟨Nat.le_refl _, fun _ _ => rfl, fun a o q s => e a o q (by rintro ps rfl; cases s)⟩
  refine ⟨he, ⟨S.len, fun a o q => ?_, S.inj, t, fun i a c d q => ?_, S.lam, fun b hb => (S.bs b hb).trans he⟩⟩
  · have x := S.obj a o q
    refine x.mono he fun ht => ?_
    cases o with
    | lst ws => obtain ⟨vs, h1, _⟩ := x; rw [h1]; exact e _ _ h1 (by intro ps z; cases z)
    | dk kvs => obtain ⟨vs, h1, _⟩ := x; rw [h1]; exact e _ _ h1 (by intro ps z; cases z)
    | dt kvs => obtain ⟨vs, h1, _⟩ := x; rw [h1]; exact e _ _ h1 (by intro ps z; cases z)
    | _ => cases ht
  · obtain ⟨h1, p, h2, h3⟩ := S.exn i a c d q
    exact ⟨h1, p, h2, h3.mono he⟩
section
variable {X : L2.Cx} {Y : Yv}
/-- the lambda body's context -/
abbrev cLam (c : Cx) : Cx := ⟨c.d2, nod, nod, fun _ => .bad, c.sub, 0, none, none⟩
/-- the context of the def that was handed the lambda -/
abbrev cGiv (c : Cx) (b : E) (τ : St) (i : Nat) : Cx := ⟨nod, nod, nod, fun h => b (cLam c) τ h, c.sub, 0, none, some i⟩
abbrev yGiv (Y : Yv) (b : E) (τ : St) (i : Nat) (f : Addr) (bs : Nat × (Nat → Addr) × Hp) (W : L2.WX) : Yv := ⟨Y.Γ.lamG i f bs, Y.K, W, cGiv Y.c b τ i⟩
/-- a slot's lambda is called: behind an error any slots -/
def RTh (Yg : L2.WX → Yv) (W : L2.WX) : L2.TE := fun σ H Q => ∃ τ h ρ, Sim (Yg W).Γ (Yg W).K h ρ H ∧ StR (Yg W).Γ (Yg W).K h.n ρ H τ σ ∧
  match eThunk 0 (Yg W).c τ h with
  | .ok w h' => ∀ ρ' H' v, Ext h.n ρ H h'.n ρ' H' → Sim (Yg W).Γ (Yg W).K h' ρ' H' → RV (Yg W).Γ (Yg W).K h'.n ρ' H' w v → Q v H'
  | .er k q h' => ∀ ρ' H' σ' d, Ext h.n ρ H h'.n ρ' H' → Sim (Yg W).Γ (Yg W).K h' ρ' H' → σ'.length = σ.length → XR (Yg W).Γ (Yg W).K h'.n ρ' H' k q d → W (.ref ((Yg W).Γ.ca k)) d σ' H'
  | .bad => False
/-- what the given def's body may use: its parameter called, within a try -/
def ThunkOk (Xg : L2.Cx) (Yg : L2.WX → Yv) (a : Str) : Prop :=
  ∀ (W : L2.WX) (pn : List (Addr × Obj)) (xe : Value → Shared → Prop) (p1 p2 : Pos), L2N.Takes (Xg.tr pn xe) W → L2.PE (Xg.tr pn xe) (.Call (.Name a p1) [] [] p2) (RTh Yg W)
theorem forget_rel {Γ : Gam} {K : Fg} {n : Nat} {ρ : Nat → Addr} {H : Hp} {τ : St} {σ : L2.St} (hl : τ.length = σ.length) : StR Γ K n ρ H (forget τ) σ := by
  refine ⟨by unfold forget; simpa using hl, fun i w hw => ?_⟩
  unfold forget at hw
  rw [List.getElem?_map] at hw
  cases e : τ[i]? with
  | none => rw [e] at hw; cases hw
  | some o => rw [e] at hw; cases hw
theorem StR.len {Γ : Gam} {K : Fg} {n : Nat} {ρ : Nat → Addr} {H : Hp} {τ : St} {σ : L2.St} (st : StR Γ K n ρ H τ σ) : τ.length = σ.length := st.1
theorem r_thE {Xg : L2.Cx} {Yg : L2.WX → Yv} {a : Str} {W : L2.WX} {pn : List (Addr × Obj)} {xe : Value → Shared → Prop} {p1 p2 pos : Pos} (T : ThunkOk Xg Yg a) (hW : (Yg W).W = W) (tk : L2N.Takes (Xg.tr pn xe) W) :
    L2.PS (Xg.tr pn xe) (.Expr (.Call (.Name a p1) [] [] p2) pos) (TS (Yg W) (sThE 0)) := by
  refine ps_imp (L2.ps_expr (T W pn xe p1 p2 tk) rfl) fun D σ H q => ?_
  obtain ⟨τ, h, ρ, S, st, p⟩ := q
  refine ⟨τ, h, ρ, S, st, ?_⟩
  unfold sThE at p
  cases f : eThunk 0 (Yg W).c τ h with
  | ok w h' => rw [f] at p; exact fun ρ' H' v e s r => p ρ' H' σ e s (st.mono e)
  | er k q h' =>
    rw [f] at p
    intro ρ' H' σ' d e s hl x
    have z := p ρ' H' σ' d e s (forget_rel (st.len.trans hl.symm)) x
    rw [hW] at z
    exact z
  | bad => rw [f] at p; exact p
theorem r_thR {Xg : L2.Cx} {Yg : L2.WX → Yv} {a : Str} {W : L2.WX} {pn : List (Addr × Obj)} {xe : Value → Shared → Prop} {p1 p2 pos : Pos} (T : ThunkOk Xg Yg a) (hW : (Yg W).W = W) (tk : L2N.Takes (Xg.tr pn xe) W) :
    L2.PS (Xg.tr pn xe) (.Return (some (.Call (.Name a p1) [] [] p2)) pos) (TS (Yg W) (sThR 0)) := by
  refine ps_imp (L2.ps_ret (T W pn xe p1 p2 tk)) fun D σ H q => ?_
  obtain ⟨τ, h, ρ, S, st, p⟩ := q
  refine ⟨τ, h, ρ, S, st, ?_⟩
  unfold sThR at p
  cases f : eThunk 0 (Yg W).c τ h with
  | ok w h' => rw [f] at p; exact fun ρ' H' v e s r => p ρ' H' v e s r
  | er k q h' =>
    rw [f] at p
    intro ρ' H' σ' d e s hl x
    have z := p ρ' H' σ' d e s (forget_rel (st.len.trans hl.symm)) x
    rw [hW] at z
    exact z
  | bad => rw [f] at p; exact p
theorem takes_len {X : L2.Cx} {W : L2.WX} (tk : L2N.Takes X W) : L2N.Takes X (fun cls d σ H => σ.length = X.N.length → W cls d σ H) := by
  intro u s' x
  obtain ⟨a, B, sI, pins, σ, H, cls, d, h1, I, h3, h4, h5, h6, h7, h8, h9⟩ := x
  exact tk u s' ⟨a, B, sI, pins, σ, H, cls, d, h1, I, h3, h4, h5, h6, h7, h8, h9 I.len⟩
def tGiven (Y : Yv) (g : Df) (b : E) : (L2.XK → Hp → L2.VK → Prop) → Hp → L2.VK → Prop := fun tl H Q =>
  ∃ τ h ρ σ, Sim Y.Γ Y.K h ρ H ∧ StR Y.Γ Y.K h.n ρ H τ σ ∧ (∀ E H' Q', rE (yDef Y.Γ Y.K E (cLam Y.c)) b σ H' Q' → tl E H' Q') ∧ Post Y (RW Y) σ h.n ρ H ((runDf g [.ref h.n] (cGiv Y.c b τ h.n) (h.push .lam)).nox) Q
theorem given_ok {Ng : List Str} {x a : Str} {sg : Scope} {ga : Addr} {cdg : Value} {bg : List Stmt} {g : Df} {b : E} {q : Str} (hK : X.K = Y.K) (hlam : Y.Γ.lam = none) (hNg : Ng.length = g.sl) (har : g.ar = 1) (h0 : Ng ≠ [])
    (hbg : ∀ (s : Shared) (H : Hp) (τ : St) (i : Nat) (f : Addr) (bs : Nat × (Nat → Addr) × Hp), ThunkOk ((L2.cxOf C8.CX0 X.prog X.w X.K X.mg X.base Ng x sg ga cdg X.A X.stack s H C8.E0).nox) (yGiv Y b τ i f bs) a →
      L2.PSs ((L2.cxOf C8.CX0 X.prog X.w X.K X.mg X.base Ng x sg ga cdg X.A X.stack s H C8.E0).nox) bg (TS (yGiv Y b τ i f bs fun _ _ _ _ => False) g.body)) :
    GivesN X Ng x sg ga cdg bg a q (tGiven Y g b) := by
  intro f c' s H Q tl act hc ht
  obtain ⟨τ, h, ρ, σ, S, st, htl, p⟩ := ht
  have hx : Ext h.n ρ H (h.n + 1) (ext ρ h.n f) H := ext_any
  refine ⟨_, hbg s H τ h.n f (h.n + 1, ext ρ h.n f, H) ?_, ?_⟩
  · intro W pn xe p1 p2 tk
    refine ⟨fun pinsZ sZ σZ HZ QZ IZ z => (act _ pn xe (fun cls d H' => ∀ σ', σ'.length = Ng.length → W cls d σ' H') p1 p2 (takes_len tk) fun cls d σ' H' z => z σ').run pinsZ sZ σZ HZ QZ IZ ?_⟩
    have hlZ : σZ.length = Ng.length := IZ.len
    obtain ⟨τZ, hZ, ρZ, SZ, stZ, pZ⟩ := z
    simp only [eThunk] at pZ
    cases f1 : τZ[0]? with
    | none => rw [f1] at pZ; exact pZ.elim
    | some ow => cases ow with
      | none => rw [f1] at pZ; exact pZ.elim
      | some w => cases w with
        | ref al =>
          rw [f1] at pZ
          simp only at pZ
          cases hb : Nat.beq al h.n with
          | false => rw [hb] at pZ; exact pZ.elim
          | true =>
            rw [hb] at pZ
            have hb : al = h.n := Nat.eq_of_beq_eq_true hb
            subst hb
            obtain ⟨l1, l2⟩ := SZ.lam h.n f rfl
            obtain ⟨v, v1, v2⟩ := stZ.2 0 _ f1
            have ev : v = .ref f := by rw [v2.ref_.2, l1]
            subst ev
            have eZ : Ext (h.n + 1) (ext ρ h.n f) H hZ.n ρZ HZ := SZ.bs (h.n + 1, ext ρ h.n f, H) (List.mem_cons_self)
            refine ⟨v1, eZ.stb _ _ hc rfl, htl _ HZ QZ ⟨τ, hZ, ρZ, SZ.noLam hlam, st.mono (hx.trans eZ), ?_⟩⟩
            have again : ∀ {h' : Hh} {ρ' : Nat → Addr} {H' : Hp}, isLam h' h.n = true → Ext hZ.n ρZ HZ h'.n ρ' H' → Sim Y.Γ Y.K h' ρ' H' → Sim (Y.Γ.lamG h.n f (h.n + 1, ext ρ h.n f, H)) Y.K h' ρ' H' := by
              intro h' ρ' H' il e' s'
              refine { len := s'.len, obj := fun a o e => OR.gam (Γ := Y.Γ) (Γ' := Y.Γ.lamG h.n f (h.n + 1, ext ρ h.n f, H)) rfl rfl (s'.obj a o e), inj := s'.inj, tab := s'.tab, exn := fun i a c d e => ?_, lam := fun i a e => ?_, bs := fun b hb => ?_ }
              · obtain ⟨h1, p, h2, h3⟩ := s'.exn i a c d e
                exact ⟨h1, p, h2, XR.gam (Γ := Y.Γ) (Γ' := Y.Γ.lamG h.n f (h.n + 1, ext ρ h.n f, H)) rfl rfl rfl rfl h3⟩
              · cases e
                unfold isLam at il
                split at il
                · rename_i hg
                  exact ⟨(e'.at_ h.n (Hh.get_lt SZ.len l2)).trans l1, hg⟩
                · cases il
              · rcases List.mem_cons.mp hb with rfl | hb
                · exact eZ.trans e'
                · exact s'.bs b hb
            show Post _ _ σ hZ.n ρZ HZ (b (cLam Y.c) τ hZ) QZ
            simp only [if_true] at pZ
            cases f2 : b (cLam Y.c) τ hZ with
            | bad => rw [f2] at pZ; exact pZ.elim
            | ok w2 h2 =>
              rw [f2] at pZ
              simp only at pZ
              cases il : isLam h2 h.n with
              | false => rw [il] at pZ; exact pZ.elim
              | true =>
                rw [il] at pZ
                intro ρ' H' v' e' s' r'
                exact pZ ρ' H' v' e' (again il e' s') (RV.gam (Γ := Y.Γ) (Γ' := Y.Γ.lamG h.n f (h.n + 1, ext ρ h.n f, H)) rfl rfl r')
            | er k2 q2 h2 =>
              rw [f2] at pZ
              simp only at pZ
              cases il : isLam h2 h.n with
              | false => rw [il] at pZ; exact pZ.elim
              | true =>
                rw [il] at pZ
                intro ρ' H' d' e' s' x' σ' hl'
                exact pZ ρ' H' σ' d' e' (again il e' s') (hl'.trans hlZ.symm) (XR.gam (Γ := Y.Γ) (Γ' := Y.Γ.lamG h.n f (h.n + 1, ext ρ h.n f, H)) rfl rfl rfl rfl x')
        | _ => rw [f1] at pZ; exact pZ.elim
  · have S2 : Sim Y.Γ Y.K (h.push .lam) (ext ρ h.n f) H := S.newX rfl trivial
    have S3 : Sim (Y.Γ.lamG h.n f (h.n + 1, ext ρ h.n f, H)) Y.K (h.push .lam) (ext ρ h.n f) H :=
      { len := S2.len
        obj := fun a o e => OR.gam (Γ := Y.Γ) (Γ' := Y.Γ.lamG h.n f (h.n + 1, ext ρ h.n f, H)) rfl rfl (S2.obj a o e)
        inj := S2.inj
        tab := S2.tab
        exn := fun i a c d e => by
          obtain ⟨h1, p, h2, h3⟩ := S2.exn i a c d e
          exact ⟨h1, p, h2, XR.gam (Γ := Y.Γ) (Γ' := Y.Γ.lamG h.n f (h.n + 1, ext ρ h.n f, H)) rfl rfl rfl rfl h3⟩
        lam := fun i a e => by
          cases e
          exact ⟨ext_same, by rw [Hh.get_push, if_pos rfl]⟩
        bs := fun b hb => by
          rcases List.mem_cons.mp hb with rfl | hb
          · exact .refl
          · exact S2.bs b hb }
    have r0 : RV (Y.Γ.lamG h.n f (h.n + 1, ext ρ h.n f, H)) Y.K (h.n + 1) (ext ρ h.n f) H (.ref h.n) (.ref f) := by
      have := RV.mkRef (Γ := Y.Γ.lamG h.n f (h.n + 1, ext ρ h.n f, H)) (K := Y.K) (ρ := ext ρ h.n f) (H := H) (Nat.lt_succ_self h.n)
      rw [ext_same] at this
      exact this
    refine ⟨PV.start g.sl [.ref h.n], h.push .lam, ext ρ h.n f, S3, by rw [← hNg]; exact start_rel (ws := [.ref h.n]) (vs := [.ref f]) ⟨r0, trivial⟩, ?_⟩
    unfold runDf at p
    rw [har] at p
    have p : Post Y (RW Y) σ h.n ρ H (R.nox (match g.body (cGiv Y.c b τ h.n) (PV.start g.sl [.ref h.n]) (h.push .lam) with | .nx _ h => .ok .non h | .rt w h => .ok w h | .er k p _ h => .er k p h | _ => .bad)) Q := p
    show PostS _ (h.n + 1) _ H (g.body (cGiv Y.c b τ h.n) (PV.start g.sl [.ref h.n]) (h.push .lam)) _
    cases f2 : g.body (cGiv Y.c b τ h.n) (PV.start g.sl [.ref h.n]) (h.push .lam) with
    | nx τ2 h2 => rw [f2] at p; exact fun ρ' H' σ' e' s' t' => p ρ' H' .non (hx.trans e') (s'.noLam hlam) RV.mkNon
    | rt w2 h2 => rw [f2] at p; exact fun ρ' H' v' e' s' r' => p ρ' H' v' (hx.trans e') (s'.noLam hlam) (RV.gam (Γ := Y.Γ.lamG h.n f (h.n + 1, ext ρ h.n f, H)) (Γ' := Y.Γ) rfl rfl r')
    | er _ _ _ _ => rw [f2] at p; exact p.elim
    | bk _ _ => rw [f2] at p; exact p.elim
    | ct _ _ => rw [f2] at p; exact p.elim
    | bad => rw [f2] at p; exact p.elim
end
end PV

set_option Elab.async false
set_option linter.all false
set_option autoImplicit false
set_option maxRecDepth 100000
set_option maxHeartbeats 2000000
/-! Snd11: a lambda handed to a def; comprehensions within a suite. -/
namespace PV
open PySem
section
variable {X : L2.Cx} {Y : Yv}
theorem r_lam {n : Nat} {x a : Str} {ga c P : Addr} {pg : Arguments} {bg : List Stmt} {sg : Scope} {dV kV doc pm cdv ct oc : Value} {an od : Option Addr} {osl : Array (Option Value)} {Ng : List Str} {params : Arguments} {body : Expr} {scope : Scope} {g : Df} {b : E} {p lpos pos : Pos}
    (hK : X.K = Y.K) (hlam : Y.Γ.lam = none) (hn : Y.c.lv = n) (hr : L2.Room n X.A) (hg : L2.Gl X x) (hm : X.mg x = some (.ref ga)) (hk : PySem.W.keepIn X.K (.ref ga) = true)
    (lk : X.K.lookup ga = some ⟨oc, od, .func (PySem.W.fnOf x x pg bg sg dV kV doc pm an cdv ct), osl⟩) (hcg : PySem.W.codeIn X.K cdv x = true) (hb : L2.Binds X.K (PySem.W.fnOf x x pg bg sg dV kV doc pm an cdv ct) [a] []) (Sg : L2.FnScope Ng [a] sg) (hNg : Ng[0]? = some a) (hva : L2.Vis sg a) (hsl : Ng.length = g.sl) (har : g.ar = 1)
    (TB : LamX.TabB X.base X.mg c P) (hcode : X.env.code = .ref c) (hmT : (P, X.env.qual ++ "<lambda>") ∈ Y.Γ.T) (hu : ∀ p ∈ Y.Γ.T, p.1 = P → p.2 = X.env.qual ++ "<lambda>") (L : LamX.LamS X.env.scope scope) (hdef : defaultsOf params X.env = ([], []))
    (hbind : ∀ (q : Str) (cl : List (Str × Addr)) (pm cv ctv : Value), bindArgs (PySem.W.kla_fn "<lambda>" q params body scope cl pm cv ctv) ⟨[], []⟩ = pure [])
    (hbg : ∀ (s : Shared) (H : Hp) (τ : St) (i : Nat) (f : Addr) (bs : Nat × (Nat → Addr) × Hp), ThunkOk ((L2.cxOf C8.CX0 X.prog X.w X.K X.mg X.base Ng x sg ga cdv X.A X.stack s H C8.E0).nox) (yGiv Y b τ i f bs) a →
      L2.PSs ((L2.cxOf C8.CX0 X.prog X.w X.K X.mg X.base Ng x sg ga cdv X.A X.stack s H C8.E0).nox) bg (TS (yGiv Y b τ i f bs fun _ _ _ _ => False) g.body))
    (hbody : ∀ (A : Around) (outer : List Env) (s : Shared) (H : Hp) (E : L2.XK) (f c' : Addr) (m : Nat), n = m + 2 → L2.Room m (A.deeper (LamX.lamEnv X scope s.heap.objs.size f c')) → L2.PE (lamN X A outer s H E scope f c') body (rE (yDef Y.Γ Y.K E (cLam Y.c)) b))
    (hdb : (x == ("__debug__" : Str)) = false := by decide) (hd : (a == ("__debug__" : Str)) = false := by decide) (hcd : (a == ("__classdict__" : Str)) = false := by decide) :
    L2.PE X (.Call (.Name x p) [.Lambda params body scope lpos] [] pos) (rE Y (eLam g b)) := by
  by_cases h2 : 2 ≤ n
  · obtain ⟨m, rfl⟩ : ∃ m, n = m + 2 := ⟨n - 2, by omega⟩
    have hG := given_ok (X := X) (Y := Y) (x := x) (sg := sg) (ga := ga) (cdg := cdv) (bg := bg) (g := g) (b := b) (q := X.env.qual ++ "<lambda>") hK hlam hsl har (by rintro rfl; simp at hNg) hbg
    refine pe_imp (lamcall_n (T := Y.Γ.T) (k := m) hg hm hk lk hcg hb Sg hNg hva hG TB hcode hmT hu hr L hdef hbind (fun A outer s H E f c' hr' => hbody A outer s H E f c' m rfl hr') hdb hd hcd) fun σ H Q q => ?_
    obtain ⟨τ, h, ρ, S, st, p⟩ := q
    refine ⟨S.tab, fun H1 e t => ?_⟩
    obtain ⟨e1, S1⟩ := S.extN e t
    refine ⟨τ, h, ρ, σ, S1, st.mono e1, fun E H' Q' z => z, ?_⟩
    unfold eLam at p
    rw [hn] at p
    have hb2 : Nat.ble 2 (m + 2) = true := by rw [Nat.ble_eq]; omega
    rw [hb2] at p
    exact Post.rebase p e1
  · refine ⟨fun pins s σ H Q I q => ?_⟩
    obtain ⟨τ, h, ρ, S, st, p⟩ := q
    unfold eLam at p
    rw [hn] at p
    have hb2 : Nat.ble 2 n = false := by
      cases e : Nat.ble 2 n with
      | false => rfl
      | true => exact absurd (Nat.ble_eq.mp e) h2
    rw [hb2] at p
    exact p.elim
/-! ### within a suite -/
theorem riL {σ : L2.St} {H : Hp} {R : L2.It → Hp → Prop} {m : E} (q : rI Y (iSeqL m) σ H R) : L2.iList Y.K (rE Y m) σ H R := by
  obtain ⟨τ, h, ρ, S, st, p⟩ := q
  refine ⟨τ, h, ρ, S, st, (PostI.bind p).mono ?_⟩
  rintro v H1 ⟨w, h1, ρ1, e1, S1, r1, _, p1⟩
  cases w with
  | ref b =>
    simp only at p1
    cases g : h1.lstAt b with
    | none => rw [g] at p1; exact p1.elim
    | some xs =>
      rw [g] at p1
      obtain ⟨vs, h3, h4⟩ := S1.seqOf g
      exact ⟨_, r1.ref_.2, ⟨vs, h3⟩, PostI.ok p1 S1 (wlk_list S1 g)⟩
  | _ => exact p1.elim
theorem r_lcH {elt tg iter : Expr} {ifs : List Expr} {scope : Scope} {own : List (Str × Nat)} {pos : Pos} {mi : E} {g : G} {gL : L2.TG} {t : T} {m : E} (hK : X.K = Y.K) (hc : L2H.HotC X) (hN : X.N.Nodup) (hi : L2.PE X iter (rE Y mi)) (ok : L2.BlkOk X.N X.env.scope scope own)
    (tk : TgOk Y.no (own.map (·.2)) g gL)
    (hg : ∀ (s : Shared) (H : Hp) (C : Addr) (cl : List (Str × Addr)) (fp : List Addr), (∀ (pins : List (Addr × Obj)) (σ : L2.St) (H' : Hp) (s' : Shared), L2.Inv (X.blk s H scope (compEnvC scope cl C X.env) fp) pins σ H' s' → ∃ x, HotX.HotAt X.A x s'.heap) → L2.PG (X.blk s H scope (compEnvC scope cl C X.env) fp) tg gL)
    (ht : ∀ (s : Shared) (H : Hp) (C : Addr) (cl : List (Str × Addr)) (fp : List Addr), L2.PTs (X.blk s H scope (compEnvC scope cl C X.env) fp) ifs (rT Y.no t))
    (he : ∀ (s : Shared) (H : Hp) (C : Addr) (cl : List (Str × Addr)) (fp : List Addr), L2.PE (X.blk s H scope (compEnvC scope cl C X.env) fp) elt (rE Y.no m)) (hs : ∀ x, foldedSetIterable iter X.env x = pure x := by intro _; rfl) :
    L2.PE X (.ListComp elt [⟨tg, iter, ifs, 0⟩] scope pos) (rE Y (eLc (own.map (·.2)) (iSeqL mi) g t m)) := by
  refine pe_imp (pe_lc_hot hc hN hi ok hg ht he hs) fun σ H Q q => ?_
  rw [hK]
  exact riL (lc_of tk q)
end
end PV

set_option Elab.async false
set_option linter.all false
set_option autoImplicit false
set_option maxRecDepth 100000
set_option maxHeartbeats 2000000
/-! Snd12: the rules, their side conditions told by the kernel; all levels; the end. -/
namespace PV
open PySem
section
variable {X : L2.Cx} {Y : Yv}
abbrev KG (X : L2.Cx) (x : Str) : Prop := X.env.kindOf x = some .globalImplicit
theorem q_v (i : Nat) {x : Str} {pos : Pos} (hN : X.N[i]? = some x := by rfl) (hv : L2.Vis X.env.scope x := by first | exact .inl (by kernel_rfl!) | exact .inr (.inl (by kernel_rfl!)) | exact .inr (.inr (by kernel_rfl!))) (hd : (x == ("__debug__" : Str)) = false := by kernel_rfl) (hcd : (x == ("__classdict__" : Str)) = false := by kernel_rfl) :
    L2.PE X (.Name x pos) (rE Y (eV i)) := r_var hN hv hd hcd
theorem q_str {x : Str} (s : List Nat) {j pos} (e : x = SX.S s := by kernel_rfl) : L2.PE X (.Constant (.str x) j pos) (rE Y (eC (.str s))) := r_str e
theorem q_gs {x : Str} {s : List Nat} {pos : Pos} (m : ∃ t, X.mg x = some (.str (SX.S s) t)) (hg : KG X x := by kernel_rfl) (hd : (x == ("__debug__" : Str)) = false := by kernel_rfl) : L2.PE X (.Name x pos) (rE Y (eC (.str s))) := by
  obtain ⟨t, m⟩ := m
  exact r_const (L2.pe_glob (v := .str (SX.S s)) hg m ⟨t, rfl⟩ hd) fun _ _ _ => RV.mkStr
theorem q_gi {x : Str} {i : Int} {pos : Pos} (m : ∃ t, X.mg x = some (.int i t)) (hg : KG X x := by kernel_rfl) (hd : (x == ("__debug__" : Str)) = false := by kernel_rfl) : L2.PE X (.Name x pos) (rE Y (eC (.int i))) := by
  obtain ⟨t, m⟩ := m
  exact r_const (L2.pe_glob (v := .int i) hg m ⟨t, rfl⟩ hd) fun _ _ _ => RV.mkInt
theorem q_fn {x : Str} (k : Nat) {pos : Pos} (hm : X.mg x = some (.ref (Y.Γ.fa k))) (hk : k < Y.Γ.nf) (hg : KG X x := by kernel_rfl) (hd : (x == ("__debug__" : Str)) = false := by kernel_rfl) : L2.PE X (.Name x pos) (rE Y (eC (.fn k))) := r_fn hg hm hk hd
theorem q_bin (o : Op) {a b : Expr} {ma mb : E} {pos : Pos} (ha : L2.PE X a (rE Y ma)) (hb : L2.PE X b (rE Y mb)) (hK : X.K = Y.K := by rfl) : L2.PE X (.BinOp a (opOf o) b pos) (rE Y (eBin o ma mb)) := r_bin hK ha hb
theorem q_cmp (hu : X.A.units + 65 < cLine) (o : Co) {a b : Expr} {ma mb : E} {pos : Pos} (ha : L2.PE X a (rE Y ma)) (hb : L2.PE X b (rE Y mb)) (hm : behindInMarks (coOf o) b = false := by rfl) (hK : X.K = Y.K := by rfl) : L2.PE X (.Compare a [coOf o] [b] pos) (rE Y (eCmp o ma mb)) := r_cmp hK hu ha hb hm
theorem q_chain (hu : X.A.units + 65 < cLine) (o o' : Co) {a b d : Expr} {ma mb md : E} {pos : Pos} (ha : L2.PE X a (rE Y ma)) (hb : L2.PE X b (rE Y mb)) (hd : L2.PE X d (rE Y md)) (hm : lastMarks [coOf o, coOf o'] [b, d] = false := by rfl) (hK : X.K = Y.K := by rfl) : L2.PE X (.Compare a [coOf o, coOf o'] [b, d] pos) (rE Y (eChain o o' ma mb md)) := r_chain hK hu ha hb hd hm
theorem q_tru {a : Expr} {m : E} (ha : L2.PE X a (rE Y m)) (he : ∀ whole, isTrue a X.env whole = (do let v ← whole; standAt a.pos; holding [v] (truthy v)) := by intro _; rfl) (hK : X.K = Y.K := by rfl) : L2.PT X a (rT Y (tE m)) := r_tru hK ha he
theorem q_tcmp (hu : X.A.units + 65 < cLine) (o : Co) {a b : Expr} {ma mb : E} {pos : Pos} (ha : L2.PE X a (rE Y ma)) (hb : L2.PE X b (rE Y mb)) (hm : behindInMarks (coOf o) b = false := by rfl) (hK : X.K = Y.K := by rfl) : L2.PT X (.Compare a [coOf o] [b] pos) (rT Y (tE (eCmp o ma mb))) := r_tcmp hK hu ha hb hm
theorem q_tchain (hu : X.A.units + 65 < cLine) (o o' : Co) {a b d : Expr} {ma mb md : E} {pos : Pos} (ha : L2.PE X a (rE Y ma)) (hb : L2.PE X b (rE Y mb)) (hd : L2.PE X d (rE Y md)) (hm : lastMarks [coOf o, coOf o'] [b, d] = false := by rfl) (hK : X.K = Y.K := by rfl) : L2.PT X (.Compare a [coOf o, coOf o'] [b, d] pos) (rT Y (tE (eChain o o' ma mb md))) := r_tchain hK hu ha hb hd hm
theorem q_enot {a : Expr} {m : E} {pos : Pos} (h : L2.PE X a (rE Y m)) (hK : X.K = Y.K := by rfl) : L2.PE X (.UnaryOp .Not a pos) (rE Y (eNotV m)) := r_enot hK h
theorem q_ix (hu : X.A.units + 65 < cLine) {a b : Expr} {ma mb : E} {pos : Pos} (ha : L2.PE X a (rE Y ma)) (hb : L2.PE X b (rE Y mb)) (hs : L2.PlainIx b := by intro _ _; rfl) (hK : X.K = Y.K := by rfl) : L2.PE X (.Subscript a b pos) (rE Y (eIx ma mb)) := r_ix hK hu ha hb hs
theorem q_sl {e : Expr} {lo hi : Option Expr} {m : E} {ml mh : P} {p2 pos : Pos} (he : L2.PE X e (rE Y m)) (hl : L2.PO X lo (rP Y ml)) (hh : L2.PO X hi (rP Y mh)) (hK : X.K = Y.K := by rfl) : L2.PE X (.Subscript e (.Slice lo hi none p2) pos) (rE Y (eSl m ml mh)) := r_sl hK he hl hh
theorem q_call {n : Nat} (k : Nat) {x : Str} {e : Expr} {es : List Expr} {m : Es} {p pos : Pos} (D : Defs X.prog X.w X.K X.mg X.base Y.Γ n Y.c.d) (tk : L2N.Takes X Y.W) (hr : L2.Room n X.A) (hm : X.mg x = some (.ref (Y.Γ.fa k))) (hk : k < Y.Γ.nf) (ha : L2.PA X (e :: es) (rA Y m))
    (hg : KG X x := by kernel_rfl) (hdb : (x == ("__debug__" : Str)) = false := by kernel_rfl) (he : starEach (e :: es) X.env = (false, eval e X.env) :: starEach es X.env := by rfl) (hpl : (backTo pos (starEach es X.env)).any (·.1) = false := by rfl) (hK : X.K = Y.K := by rfl) :
    L2.PE X (.Call (.Name x p) (e :: es) [] pos) (rE Y (eCall k m)) := r_call hK (D k hk) tk hr hg hm ha hdb he hpl
theorem q_call0 {n : Nat} (k : Nat) {x : Str} {p pos : Pos} (D : Defs X.prog X.w X.K X.mg X.base Y.Γ n Y.c.d) (hr : L2.Room n X.A) (hm : X.mg x = some (.ref (Y.Γ.fa k))) (hk : k < Y.Γ.nf) (hg : KG X x := by kernel_rfl) (hdb : (x == ("__debug__" : Str)) = false := by kernel_rfl) (hK : X.K = Y.K := by rfl) :
    L2.PE X (.Call (.Name x p) [] [] pos) (rE Y (eCall0 k)) := r_call0 hK (D k hk) hr hg hm hdb
theorem q_callV {n : Nat} (i : Nat) {x : Str} {e : Expr} {es : List Expr} {m : Es} {p pos : Pos} (D : Defs X.prog X.w X.K X.mg X.base Y.Γ n Y.c.d) (tk : L2N.Takes X Y.W) (hr : L2.Room n X.A) (ha : L2.PA X (e :: es) (rA Y m)) (hN : X.N[i]? = some x := by rfl)
    (hv : L2.Vis X.env.scope x := by first | exact .inl (by kernel_rfl!) | exact .inr (.inl (by kernel_rfl!)) | exact .inr (.inr (by kernel_rfl!))) (hdb : (x == ("__debug__" : Str)) = false := by kernel_rfl) (hcd : (x == ("__classdict__" : Str)) = false := by kernel_rfl)
    (he : starEach (e :: es) X.env = (false, eval e X.env) :: starEach es X.env := by rfl) (hpl : (backTo pos (starEach es X.env)).any (·.1) = false := by rfl) (hK : X.K = Y.K := by rfl) :
    L2.PE X (.Call (.Name x p) (e :: es) [] pos) (rE Y (eCallV i m)) := r_callV hK D tk hr hN hv ha hdb hcd he hpl
theorem q_isin (t : Ty) {a : Expr} {ma : E} {p pt pos : Pos} (hm : X.mg "isinstance" = none) (hmt : X.mg (tyN t) = none) (ha : L2.PE X a (rE Y ma)) (ht : ∀ k, t ≠ .cls k := by intro k e; cases e) (hg : KG X "isinstance" := by kernel_rfl) (hgt : KG X (tyN t) := by kernel_rfl) (hv : bootBuiltins (tyN t) = some (.type (tyN t)) := by kernel_rfl) (hnn : (Str.ofString (tyN t)) ≠ "__name__" := by decide) (hdb2 : ((Str.ofString (tyN t)) == ("__debug__" : Str)) = false := by kernel_rfl)
    (hvi : bootBuiltins "isinstance" = some (.builtin "isinstance") := by kernel_rfl) (he : starEach [a, .Name (tyN t) pt] X.env = (false, eval a X.env) :: starEach [.Name (tyN t) pt] X.env := by rfl) (he2 : starEach [.Name (tyN t) pt] X.env = (false, eval (.Name (tyN t) pt) X.env) :: starEach [] X.env := by rfl)
    (hpl : (backTo pos (starEach [.Name (tyN t) pt] X.env)).any (·.1) = false := by rfl) (hK : X.K = Y.K := by rfl) :
    L2.PE X (.Call (.Name "isinstance" p) [a, .Name (tyN t) pt] [] pos) (rE Y (eIsin ma t)) := r_isin hK ht hg hm hgt hmt hv hnn hdb2 ha hvi he he2 hpl
/-- a built-in function of one argument -/
theorem q_B {x : Str} {id : String} {r : List V → Hp → L2.VK → Prop} {m : W → Hh → R W} {a : Expr} {ma : E} {p pos : Pos} (hc : L2.CallR X (.builtin id) r) (u : Un1 Y m r) (hm : X.mg x = none) (ha : L2.PE X a (rE Y ma)) (hg : KG X x := by kernel_rfl) (hv : bootBuiltins x = some (.builtin id) := by kernel_rfl)
    (hn : x ≠ "__name__" := by decide) (hdb : (x == ("__debug__" : Str)) = false := by kernel_rfl) (he : starEach [a] X.env = (false, eval a X.env) :: starEach [] X.env := by rfl) (hpl : (backTo pos (starEach [] X.env)).any (·.1) = false := by rfl) :
    L2.PE X (.Call (.Name x p) [a] [] pos) (rE Y (eB m ma)) := r_B hc u hg hm hv ha hn hdb he hpl
theorem q_Ty {x : Str} {T : String} {r : List V → Hp → L2.VK → Prop} {m : W → Hh → R W} {a : Expr} {ma : E} {p pos : Pos} (hc : L2.CallR X (.type T) r) (u : Un1 Y m r) (hm : X.mg x = none) (ha : L2.PE X a (rE Y ma)) (hg : KG X x := by kernel_rfl) (hv : bootBuiltins x = some (.type T) := by kernel_rfl)
    (hn : x ≠ "__name__" := by decide) (hdb : (x == ("__debug__" : Str)) = false := by kernel_rfl) (he : starEach [a] X.env = (false, eval a X.env) :: starEach [] X.env := by rfl) (hpl : (backTo pos (starEach [] X.env)).any (·.1) = false := by rfl) :
    L2.PE X (.Call (.Name x p) [a] [] pos) (rE Y (eB m ma)) := r_Ty hc u hg hm hv ha hn hdb he hpl
/-! statements -/
theorem q_expr {e : Expr} {m : E} {pos : Pos} (he : L2.PE X e (rE Y m)) (hs : swapsWith e none pos.line X.env = pure false := by rfl) : L2.PS X (.Expr e pos) (TS Y (sE m)) := r_expr he hs
theorem q_set (i : Nat) {x : Str} {e : Expr} {m : E} {pos pos' : Pos} (hN : X.N.Nodup) (he : L2.PE X e (rE Y m)) (hi : X.N[i]? = some x := by rfl) (hx : L2.Loc X.env.scope x := by first | exact .inl (by kernel_rfl!) | exact .inr (by kernel_rfl!)) (hf : X.fn x = true ∨ X.env.scope.names.lookup x = some .local := by first | exact .inl (by kernel_rfl!) | exact .inr (by kernel_rfl!))
    (hs : swapsWith e (some (.Name x pos')) pos.line X.env = pure false := by rfl) : L2.PS X (.Assign [.Name x pos'] e pos) (TS Y (sAsg (gV i) m)) := r_set hN hi hx he hf hs
theorem q_setLc (j : Nat) {y : Str} {py : Pos} {elt tg iter : Expr} {ifs : List Expr} {scope : Scope} {pos spos : Pos} {i : I} {g : G} {gL : L2.TG} {t : T} {m : E} (own : List (Str × Nat)) (hc : X.calm = true) (hN : X.N.Nodup) (hi : L2.PI X tg iter (rI Y i)) (ok : L2.BlkOk X.N X.env.scope scope own) (tk : TgOk Y.no (own.map (·.2)) g gL)
    (hg : ∀ (s : Shared) (H : Hp) (C : Addr) (cl : List (Str × Addr)) (fp : List Addr), L2.PG (X.blk s H scope (compEnvC scope cl C X.env) fp) tg gL) (ht : ∀ (s : Shared) (H : Hp) (C : Addr) (cl : List (Str × Addr)) (fp : List Addr), L2.PTs (X.blk s H scope (compEnvC scope cl C X.env) fp) ifs (rT Y.no t))
    (he : ∀ (s : Shared) (H : Hp) (C : Addr) (cl : List (Str × Addr)) (fp : List Addr), L2.PE (X.blk s H scope (compEnvC scope cl C X.env) fp) elt (rE Y.no m)) (hy : X.N[j]? = some y := by rfl) (hyl : X.env.scope.names.lookup y = some .local := by kernel_rfl)
    (hsw : swapsWith (.ListComp elt [⟨tg, iter, ifs, 0⟩] scope pos) (some (.Name y py)) spos.line X.env = pure true := by rfl) (hs : ∀ x, foldedSetIterable iter X.env x = pure x := by intro _; rfl) :
    L2.PS X (.Assign [.Name y py] (.ListComp elt [⟨tg, iter, ifs, 0⟩] scope pos) spos) (TS Y (sAsg (gV j) (eLc (own.map (·.2)) i g t m))) := r_setLc hc hN hy hyl hsw hi ok tk hg ht he hs
theorem q_lc {elt tg iter : Expr} {ifs : List Expr} {scope : Scope} {pos : Pos} {i : I} {g : G} {gL : L2.TG} {t : T} {m : E} (own : List (Str × Nat)) (hc : X.calm = true) (hN : X.N.Nodup) (hi : L2.PI X tg iter (rI Y i)) (ok : L2.BlkOk X.N X.env.scope scope own) (tk : TgOk Y.no (own.map (·.2)) g gL)
    (hg : ∀ (s : Shared) (H : Hp) (C : Addr) (cl : List (Str × Addr)) (fp : List Addr), L2.PG (X.blk s H scope (compEnvC scope cl C X.env) fp) tg gL) (ht : ∀ (s : Shared) (H : Hp) (C : Addr) (cl : List (Str × Addr)) (fp : List Addr), L2.PTs (X.blk s H scope (compEnvC scope cl C X.env) fp) ifs (rT Y.no t))
    (he : ∀ (s : Shared) (H : Hp) (C : Addr) (cl : List (Str × Addr)) (fp : List Addr), L2.PE (X.blk s H scope (compEnvC scope cl C X.env) fp) elt (rE Y.no m)) (hs : ∀ x, foldedSetIterable iter X.env x = pure x := by intro _; rfl) :
    L2.PE X (.ListComp elt [⟨tg, iter, ifs, 0⟩] scope pos) (rE Y (eLc (own.map (·.2)) i g t m)) := r_lc hc hN hi ok tk hg ht he hs
theorem q_one {c : Expr} {t : T} (h : L2.PT X c (rT Y t)) : L2.PTs X [c] (rT Y t) := L2.pts_one h
/-- a comprehension's block, by evaluation -/
def blkB (N : List Str) (sc scope : Scope) (own : List (Str × Nat)) : Bool :=
  decide (scope.kind = .function) && (scope.names.all fun y => decide (scope.names.lookup y.1 = some y.2)) && (own.all fun p => decide (N[p.2]? = some p.1)) &&
    (scope.names.all fun y => !decide (y.2 = .free) || decide (sc.names.lookup y.1 = some .cell) || decide (sc.names.lookup y.1 = some .free)) &&
    scope.names.all fun y => !(decide (y.2 = .local) || decide (y.2 = .cell)) || (own.any fun p => decide (p.1 = y.1)) || !(N.any fun z => decide (z = y.1))
theorem blk_by {N : List Str} {sc scope : Scope} {own : List (Str × Nat)} (h : blkB N sc scope own = true) : L2.BlkOk N sc scope own := by
  unfold blkB at h
  simp only [Bool.and_eq_true, Bool.or_eq_true, Bool.not_eq_true', decide_eq_true_eq, decide_eq_false_iff_not, List.all_eq_true, List.any_eq_true, Bool.or_eq_false_iff] at h
  obtain ⟨⟨⟨⟨h1, h2⟩, h3⟩, h4⟩, h5⟩ := h
  refine ⟨h1, h2, h3, fun y hy e => ?_, fun y hy e => ?_⟩
  · rcases h4 y hy with (z | z) | z
    · exact absurd e z
    · exact .inl z
    · exact .inr z
  · rcases h5 y hy with (z | ⟨p, hp, z⟩) | z
    · rcases e with e | e
      · exact absurd e z.1
      · exact absurd e z.2
    · exact .inl (List.mem_map.mpr ⟨p, hp, z⟩)
    · refine .inr fun hm => ?_
      have : (N.any fun z => decide (z = y.1)) = true := List.any_eq_true.mpr ⟨y.1, hm, by simp⟩
      rw [this] at z
      cases z
theorem q_gv (i : Nat) {x : Str} {pos : Pos} (hN : X.N.Nodup) (hi : X.N[i]? = some x := by rfl) (hx : L2.Loc X.env.scope x := by first | exact .inl (by kernel_rfl!) | exact .inr (by kernel_rfl!)) (hf : X.fn x = true ∨ X.env.scope.names.lookup x = some .local := by first | exact .inl (by kernel_rfl!) | exact .inr (by kernel_rfl!)) : L2.PG X (.Name x pos) (TGm Y (gV i)) := rg_name hN hi hx hf
/-- a comprehension's target -/
theorem q_bv (i : Nat) {x : Str} {pos : Pos} (hN : X.N.Nodup) (hi : X.N[i]? = some x := by rfl) (hx : L2.Loc X.env.scope x := by first | exact .inl (by kernel_rfl!) | exact .inr (by kernel_rfl!)) (hf : X.fn x = true ∨ X.env.scope.names.lookup x = some .local := by first | exact .inl (by kernel_rfl!) | exact .inr (by kernel_rfl!)) : L2.PG X (.Name x pos) (L2.gName i) := L2.pg_name hN hi hx hf
theorem q_for {iter tg : Expr} {body : List Stmt} {i : I} {g : G} {b : S} {pos : Pos} (hp : PassesOwn (model X.prog X.w) X.A X.env X.xe) (hi : L2.PI X tg iter (rI Y i)) (hg : L2.PG X tg (TGm Y g)) (hb : L2.PSs X body (TS Y b)) (hc : X.calm = true := by rfl)
    (hs : ∀ x, foldedSetIterable iter X.env x = pure x := by intro _; rfl) : L2.PS X (.For tg iter body [] pos) (TS Y (sFor i g b)) := r_for hp hc hi hg hb hs
theorem q_aug (i : Nat) {x : Str} {e : Expr} {m : E} (o : Op) {pos pos' : Pos} (hN : X.N.Nodup) (he : L2.PE X e (rE Y m)) (hi : X.N[i]? = some x := by rfl) (hx : L2.Loc X.env.scope x := by first | exact .inl (by kernel_rfl!) | exact .inr (by kernel_rfl!)) (hf : X.fn x = true ∨ X.env.scope.names.lookup x = some .local := by first | exact .inl (by kernel_rfl!) | exact .inr (by kernel_rfl!)) :
    L2.PS X (.AugAssign (.Name x pos') (opOf o) e pos) (TS Y (sAug i o m)) := r_aug hN hi hx he hf
theorem q_par (i j : Nat) {x y : Str} {a b : Expr} {ma mb : E} {px py pt pos : Pos} {kt k2 : Nat} {pt2 : Pos} (hN : X.N.Nodup) (ha : L2.PE X a (rE Y ma)) (hb : L2.PE X b (rE Y mb)) (hi : X.N[i]? = some x := by rfl) (hj : X.N[j]? = some y := by rfl) (hij : i ≠ j := by decide)
    (hx : X.env.scope.names.lookup x = some .local := by kernel_rfl) (hy : X.env.scope.names.lookup y = some .local := by kernel_rfl) (hw : swappedStores [.Tuple [.Name x px, .Name y py] kt pt] (.Tuple [a, b] k2 pt2) X.env = pure (some [x, y]) := by kernel_rfl)
    (hs : swapsWithSole [.Tuple [.Name x px, .Name y py] kt pt] (.Tuple [a, b] k2 pt2) pos.line X.env = pure false := by rfl) (h1 : starEach [a, b] X.env = (false, eval a X.env) :: starEach [b] X.env := by rfl) (h2 : starEach [b] X.env = (false, eval b X.env) :: starEach [] X.env := by rfl) (hc : X.calm = true := by rfl) :
    L2.PS X (.Assign [.Tuple [.Name x px, .Name y py] kt pt] (.Tuple [a, b] k2 pt2) pos) (TS Y (sPar i j ma mb)) := r_par hc hN hi hj hij hx hy ha hb hw hs h1 h2
theorem q_raise {x m : Str} (k : Nat) {j : Nat} {p p2 pos pos2 : Pos} (tk : L2N.Takes X Y.W) (C : ErrC X.K X.mg x (Y.Γ.ca k)) (hk : k < Y.Γ.nc) (hg : KG X x := by kernel_rfl) (hdb : (x == ("__debug__" : Str)) = false := by kernel_rfl) (hc : X.calm = true := by rfl) :
    L2.PS X (.Raise (some (.Call (.Name x p) [.Constant (.str m) j p2] [] pos)) none pos2) (TS Y (sRaise k)) := r_raise hc tk C hk hg hdb
theorem q_range1 {tg a : Expr} {ma : E} {p pos : Pos} (hm : X.mg "range" = none) (ha : L2.PE X a (rE Y ma)) (hg : KG X "range" := by kernel_rfl) (hs : starEach [a] X.env = [(false, eval a X.env)] := by rfl) : L2.PI X tg (.Call (.Name "range" p) [a] [] pos) (rI Y (iRange1 ma)) := ri_range1 hg hm ha hs
theorem q_range {tg a b : Expr} {ma mb : E} {p pos : Pos} (hm : X.mg "range" = none) (ha : L2.PE X a (rE Y ma)) (hb : L2.PE X b (rE Y mb)) (hg : KG X "range" := by kernel_rfl) (hs : starEach [a, b] X.env = [(false, eval a X.env), (false, eval b X.env)] := by rfl) (hs2 : starEach [b] X.env = [(false, eval b X.env)] := by rfl) : L2.PI X tg (.Call (.Name "range" p) [a, b] [] pos) (rI Y (iRange ma mb)) := ri_range hg hm ha hb hs hs2
theorem q_enum {a : Expr} {ma : E} {elts : List Expr} {kk : Nat} {tpos p pos : Pos} (hm : X.mg "enumerate" = none) (ha : L2.PE X a (rE Y ma)) (hg : KG X "enumerate" := by kernel_rfl) (hs : starEach [a] X.env = [(false, eval a X.env)] := by rfl) (hK : X.K = Y.K := by rfl) : L2.PI X (.Tuple elts kk tpos) (.Call (.Name "enumerate" p) [a] [] pos) (rI Y (iEnum ma)) := ri_enum hK hg hm ha hs
theorem q_zip {a b : Expr} {ma mb : E} {elts : List Expr} {kk : Nat} {tpos p pos : Pos} (hm : X.mg "zip" = none) (ha : L2.PE X a (rE Y ma)) (hb : L2.PE X b (rE Y mb)) (hg : KG X "zip" := by kernel_rfl) (hs : starEach [a, b] X.env = (false, eval a X.env) :: starEach [b] X.env := by rfl) (hpl : (backTo pos (starEach [b] X.env)).any (·.1) = false := by rfl) (hs2 : starEach [b] X.env = (false, eval b X.env) :: starEach [] X.env := by rfl) (hK : X.K = Y.K := by rfl) :
    L2.PI X (.Tuple elts kk tpos) (.Call (.Name "zip" p) [a, b] [] pos) (rI Y (iZip ma mb)) := ri_zip hK hg hm ha hb hs hpl hs2
theorem q_seq {tg e : Expr} {m : E} (he : L2.PE X e (rE Y m)) (hK : X.K = Y.K := by rfl) : L2.PI X tg e (rI Y (iSeq m)) := ri_seq hK he
/-! within a suite -/
theorem hot_suite {X : L2.Cx} {a : Addr} {oe : Obj} {pn : List (Addr × Obj)} {cl : Value} {d : Option Addr} (hz : L2N.Zn cl d oe) (hf : ∃ vs, oe.data = .fields vs) : L2H.HotC (X.suite a ((a, oe) :: pn)) := by
  obtain ⟨vs, hd⟩ := hf
  exact ⟨(a, oe), ⟨rfl, vs, hd, hz.2.2 vs hd⟩, List.mem_cons_self⟩
theorem q_isX (k : Nat) {i c : Nat} {a : Addr} {oe : Obj} {pn : List (Addr × Obj)} {x : Str} {e : Expr} {m : E} {p pt pos : Pos} (T : ErrT X.K Y.Γ.ca Y.Γ.nc Y.c.sub) (hc : c < Y.Γ.nc) (hz : L2N.Zn (.ref (Y.Γ.ca c)) none oe) (hf : ∃ vs, oe.data = .fields vs)
    (hm : X.mg "isinstance" = none) (hmx : X.mg x = some (.ref (Y.Γ.ca k))) (hk : k < Y.Γ.nc) (ha : L2.PE (X.suite a ((a, oe) :: pn)) e (rE (Y.sui i a c) m)) (hg : KG X "isinstance" := by kernel_rfl) (hgx : KG X x := by kernel_rfl) (hvi : bootBuiltins "isinstance" = some (.builtin "isinstance") := by kernel_rfl) (hdb : (x == ("__debug__" : Str)) = false := by kernel_rfl)
    (he : starEach [e, .Name x pt] X.env = (false, eval e X.env) :: starEach [.Name x pt] X.env := by rfl) (he2 : starEach [.Name x pt] X.env = (false, eval (.Name x pt) X.env) :: starEach [] X.env := by rfl) (hpl : (backTo pos (starEach [.Name x pt] X.env)).any (·.1) = false := by rfl) (hK : X.K = Y.K := by rfl) :
    L2.PE (X.suite a ((a, oe) :: pn)) (.Call (.Name "isinstance" p) [e, .Name x pt] [] pos) (rE (Y.sui i a c) (eIsX m k)) := r_isX hK T hc hk hz hf hg hm hvi hgx hmx hdb ha he he2 hpl
theorem q_lcH {elt tg iter : Expr} {ifs : List Expr} {scope : Scope} {pos : Pos} {mi : E} {g : G} {gL : L2.TG} {t : T} {m : E} (own : List (Str × Nat)) (hc : L2H.HotC X) (hN : X.N.Nodup) (hi : L2.PE X iter (rE Y mi)) (ok : L2.BlkOk X.N X.env.scope scope own) (tk : TgOk Y.no (own.map (·.2)) g gL)
    (hg : ∀ (s : Shared) (H : Hp) (C : Addr) (cl : List (Str × Addr)) (fp : List Addr), (∀ (pins : List (Addr × Obj)) (σ : L2.St) (H' : Hp) (s' : Shared), L2.Inv (X.blk s H scope (compEnvC scope cl C X.env) fp) pins σ H' s' → ∃ x, HotX.HotAt X.A x s'.heap) → L2.PG (X.blk s H scope (compEnvC scope cl C X.env) fp) tg gL)
    (ht : ∀ (s : Shared) (H : Hp) (C : Addr) (cl : List (Str × Addr)) (fp : List Addr), L2.PTs (X.blk s H scope (compEnvC scope cl C X.env) fp) ifs (rT Y.no t))
    (he : ∀ (s : Shared) (H : Hp) (C : Addr) (cl : List (Str × Addr)) (fp : List Addr), L2.PE (X.blk s H scope (compEnvC scope cl C X.env) fp) elt (rE Y.no m)) (hs : ∀ x, foldedSetIterable iter X.env x = pure x := by intro _; rfl) (hK : X.K = Y.K := by rfl) :
    L2.PE X (.ListComp elt [⟨tg, iter, ifs, 0⟩] scope pos) (rE Y (eLc (own.map (·.2)) (iSeqL mi) g t m)) := r_lcH hK hc hN hi ok tk hg ht he hs
theorem q_try (k i : Nat) {x n : Str} {body suite : List Stmt} {b₀ : Stmt} {np pos pos' : Pos} {a b : S} (T : ErrT X.K Y.Γ.ca Y.Γ.nc Y.c.sub) (hN : X.N.Nodup) (tk : L2N.Takes X Y.W) (hmx : X.mg x = some (.ref (Y.Γ.ca k))) (hk : k < Y.Γ.nc)
    (hb : ∀ (W : L2.WX) (pn : List (Addr × Obj)) (xe : Value → Shared → Prop), L2N.Takes (X.tr pn xe) W → PassesOwn (model X.prog X.w) X.A X.env xe → L2.PSs (X.tr pn xe) body (TS { Y with W := W } a))
    (hsu : ∀ (i : Nat) (a : Addr) (oe : Obj) (c : Nat) (pn : List (Addr × Obj)), c < Y.Γ.nc → L2N.Zn (.ref (Y.Γ.ca c)) none oe → (∃ vs, oe.data = .fields vs) → L2.PSs (X.suite a ((a, oe) :: pn)) (b₀ :: suite) (TS (Y.sui i a c) b))
    (hi : X.N[i]? = some n := by rfl) (hln : X.env.kindOf n = some .local := by kernel_rfl) (hg : KG X x := by kernel_rfl) (hdb : (x == ("__debug__" : Str)) = false := by kernel_rfl) (hex : Y.Γ.exn = none := by rfl) (hs : X.stack = X.env :: X.outer := by rfl) (hf : X.env.frame = some X.env.locals := by rfl) (hK : X.K = Y.K := by rfl) :
    L2.PS X (.Try body [.ExceptHandler (some (.Name x np)) (some n) (b₀ :: suite) pos'] [] [] pos) (TS Y (sTry a k i b)) := r_try hK hex T hk hs hf hN hi hln ⟨hg, hdb, .inl hmx⟩ tk hb hsu
/-- said of nothing -/
theorem pss_bad {b : List Stmt} {m : S} (h : ∀ τ h, m Y.c τ h = .bad) : L2.PSs X b (TS Y m) := ⟨fun pins s σ H D I q => by
  obtain ⟨τ, hh, ρ, S, st, p⟩ := q
  rw [h] at p
  exact p.elim⟩
theorem thunk_bad {c : Cx} (hla : c.la = none) {τ : St} {h : Hh} {r b r2 : S} {k i j : Nat} : sCons (sTry (sCons (sThE j) r) k i b) r2 c τ h = .bad := by
  have e : eThunk j c τ h = .bad := by
    unfold eThunk
    cases τ[j]? with
    | none => rfl
    | some o => cases o with
      | none => rfl
      | some w => cases w <;> first | rfl | (simp only [hla])
  simp only [sCons, sTry, sThE, e, F.then]
/-! the contexts -/
theorem units_of {n : Nat} {A : Around} (r : L2.Room n A) : A.units + 65 < cLine := by have := r.un; omega
theorem units_lam {n : Nat} {A : Around} (r : L2.Room n A) : A.units + 3 + 65 < cLine := by have := r.un; omega
theorem tk_def {P : Program} {w : World} {K : Fg} {mg : Str → Option Value} {base : Heap} {N : List Str} {q : Str} {scope : Scope} {f : Addr} {cdv : Value} {A : Around} {outer : List Env} {s : Shared} {H : Hp} {E : L2.XK} :
    L2N.Takes (L2.cxOf (L2N.CX P w) P w K mg base N q scope f cdv A outer s H E) (fun cls d _ H => E cls d H) := L2N.takes_of rfl rfl rfl rfl
theorem hp_def {P : Program} {w : World} {K : Fg} {mg : Str → Option Value} {base : Heap} {N : List Str} {q : Str} {scope : Scope} {f : Addr} {cdv : Value} {A : Around} {outer : List Env} {s : Shared} {H : Hp} {E : L2.XK} :
    PassesOwn (model P w) (L2.cxOf (L2N.CX P w) P w K mg base N q scope f cdv A outer s H E).A (L2.cxOf (L2N.CX P w) P w K mg base N q scope f cdv A outer s H E).env (L2.cxOf (L2N.CX P w) P w K mg base N q scope f cdv A outer s H E).xe := L2.passes_of rfl
theorem tk_lam {X : L2.Cx} {A : Around} {outer : List Env} {s : Shared} {H : Hp} {E : L2.XK} {scope : Scope} {f c' : Addr} : L2N.Takes (lamN X A outer s H E scope f c') (fun cls d _ H => E cls d H) := L2N.takes_of rfl rfl rfl rfl
end
/-! ### classes of errors, by evaluation -/
def errB (K : Fg) (ca : Nat → Addr) (nc : Nat) (sub : Nat → Nat → Bool) : Bool :=
  (List.range nc).all fun a => ((List.range nc).all fun b => decide (PySem.W.exmOne K (.ref (ca a)) (.ref (ca b)) = some (sub a b)) && decide (PySem.W.kitOne K (.ref (ca a)) (.ref (ca b)) = some (sub a b))) &&
    He.eqO (PySem.W.findIn K (.ref (ca a)) "__getattribute__") (some (some (.builtin "BaseException.__getattribute__"))) && He.eqO (PySem.W.findIn K (.ref (ca a)) "__getattr__") (some none) && decide (PySem.W.subIn K (.ref (ca a)) (.type "BaseException") = some true) && PySem.W.hasDictIn K (ca a) &&
    He.eqO (PySem.W.findIn K (.ref (ca a)) "__class__") (some (some (.builtin "object.__class__"))) && He.eqO (PySem.W.specialIn K (.builtin "object.__class__") "__get__") (some (some (.builtin "getset_descriptor.__get__"))) && decide (PySem.W.takesIn K (.builtin "object.__class__") = some true) && decide (PySem.W.mroIn K (ca a) (.type "object") = some true)
theorem errB_ok {K : Fg} {ca : Nat → Addr} {nc : Nat} {sub : Nat → Nat → Bool} (h : errB K ca nc sub = true) : ErrT K ca nc sub := by
  unfold errB at h
  have key : ∀ a, a < nc → _ := fun a ha => List.all_eq_true.mp h a (List.mem_range.mpr ha)
  simp only [Bool.and_eq_true, decide_eq_true_eq, List.all_eq_true, List.mem_range] at key
  refine ⟨fun a b ha hb => ((key a ha).1.1.1.1.1.1.1.1 b hb).1, fun a b ha hb => ((key a ha).1.1.1.1.1.1.1.1 b hb).2, fun a ha => ?_⟩
  obtain ⟨⟨⟨⟨⟨⟨⟨⟨_, k1⟩, k2⟩, k3⟩, k4⟩, k5⟩, k6⟩, k7⟩, k8⟩ := key a ha
  exact ⟨He.eqO_ok k1, He.eqO_ok k2, k3, k4, He.eqO_ok k5, He.eqO_ok k6, k7, k8⟩
theorem errC_of {K : Fg} {h : Heap} {mg : Str → Option Value} {x : Str} (X : K.In h) (G : h.Ns mainGlobals mg) (c : (He.Fa.exc x).ok K = true) (c' : (He.Fa.glo x).ok K = true) : ErrC K mg x (He.ga K x) := by
  obtain ⟨h1, h2, h3, h4⟩ := He.exc_ok c
  exact ⟨He.glo_ok X G c', h1, h2, h3, h4⟩
end PV

set_option Elab.async false
set_option linter.all false
set_option autoImplicit false
set_option maxRecDepth 100000
set_option maxHeartbeats 2000000
/-! Snd13: all levels; the end of a law. -/
namespace PV
open PySem
section
variable {defs : List Df} {sub : Nat → Nat → Bool}
theorem lev_lv : ∀ n, (lev defs sub n).lv = n
  | 0 => rfl
  | n + 1 => rfl
theorem lev_sub : ∀ n, (lev defs sub n).sub = sub
  | 0 => rfl
  | n + 1 => rfl
end
section
variable {P : Program} {w : World} {K : Fg} {mg : Str → Option Value} {base : Heap} {Γ : Gam}
theorem fnok_of {k n : Nat} {x q : Str} {params : Arguments} {body : List Stmt} {scope : Scope} {fd : FuncData} {N ps : List Str} {ar sl : Nat} {mb : S} {c : Cx} {p : Str × Option Str} (F : L2.FunD K x q params body scope [] [] (Γ.fa k) fd) (hat : Γ.fa k = He.fAd K p) (Sc : L2.FnScope N ps scope) (h1 : ar = ps.length) (h2 : sl = N.length)
    (hbody : ∀ (A : Around) (outer : List Env) (s : Shared) (H : Hp) (E : L2.XK), L2.Room n (A.deeper (PyProof.Rows.envOfC q scope s.heap.objs.size (Γ.fa k) (.ref (He.codeOf K p)))) →
      L2.PSs (L2.cxOf (L2N.CX P w) P w K mg base N q scope (Γ.fa k) (.ref (He.codeOf K p)) A outer s H E) body (TS (yDef Γ K E c) mb)) :
    L2.FnOk P w K mg base (L2N.CX P w) (n + 1) (Γ.fa k) fd ps (spD Γ K ps.length (fun ws h => runDf ⟨ar, sl, mb⟩ ws c h)) := by
  obtain ⟨oc, od, dV, kV, doc, pm, an, cdv, ct, osl, rfl, lk, hcd, _, _⟩ := F.ex
  obtain ⟨c0, e0⟩ := He.codeIn_ref hcd
  have ec : He.codeOf K p = c0 := He.codeOf_eq (by rw [← hat]; exact lk) e0
  rw [ec] at hbody
  subst e0
  refine L2.fn_of lk hcd Sc (fun vs H Q E h => h.1) fun A outer s H vs Q E hr hsp => ⟨_, hbody A outer s H E hr, ?_⟩
  obtain ⟨hl, ws, h, ρ, c', S, r, pp⟩ := hsp
  refine ⟨PV.start sl ws, h, ρ, S, by rw [h2]; exact start_rel r, ?_⟩
  simp only [runDf] at pp
  rw [h1, ← hl, ← r.len, Nat.beq_refl] at pp
  simp only [if_true] at pp
  cases f : mb c (PV.start sl ws) h with
  | nx τ h' => rw [f] at pp; exact fun ρ' H' σ' e s t => pp ρ' H' .non e s RV.mkNon
  | rt w h' => rw [f] at pp; exact fun ρ' H' v e s t => pp ρ' H' v e s t
  | er k q τ h' => rw [f] at pp; exact fun ρ' H' σ' d e s t xr => pp ρ' H' d e s xr
  | bk τ h' => rw [f] at pp; exact pp.elim
  | ct τ h' => rw [f] at pp; exact pp.elim
  | bad => rw [f] at pp; exact pp.elim
theorem pss_body {X : L2.Cx} {Y : Yv} {b : List Stmt} {d : Df} {ar sl : Nat} {mb : S} (e : d = ⟨ar, sl, mb⟩) (h : L2.PSs X b (TS Y mb)) : L2.PSs X b (TS Y d.body) := by
  rw [e]
  exact h
theorem callee_of {k n : Nat} {x q : Str} {params : Arguments} {body : List Stmt} {scope : Scope} {fd : FuncData} {ps : List Str} {m : Df} {c : Cx} (F : L2.FunD K x q params body scope [] [] (Γ.fa k) fd) (hb : L2.Binds K fd ps []) (h1 : m.ar = ps.length)
    (ok : L2.FnOk P w K mg base (L2N.CX P w) (n + 1) (Γ.fa k) fd ps (spD Γ K ps.length (fun ws h => runDf m ws c h))) : Callee P w K mg base Γ (n + 1) k (fun ws h => runDf m ws c h) :=
  ⟨⟨fd, ps, ok, F.kp, hb, fun ws h hl => runDf_len (by rw [h1]; exact hl)⟩⟩
theorem callee_zero {k : Nat} {x q : Str} {params : Arguments} {body : List Stmt} {scope : Scope} {fd : FuncData} {ps : List Str} (F : L2.FunD K x q params body scope [] [] (Γ.fa k) fd) (hb : L2.Binds K fd ps []) : Callee P w K mg base Γ 0 k (nod k) := by
  refine ⟨⟨fd, ps, ?_, F.kp, hb, fun ws h _ => rfl⟩⟩
  refine ⟨fun vs H Q E h => h.1, fun A outer s H args us vs Q E _ _ _ _ h => ?_⟩
  obtain ⟨_, ws, h, ρ, c, S, r, p⟩ := h
  exact p.elim
/-- all levels, by the step -/
theorem defs_all {defs : List Df} {sub : Nat → Nat → Bool} (hn : defs.length = Γ.nf) (h0 : ∀ k, k < Γ.nf → Callee P w K mg base Γ 0 k (nod k))
    (hs : ∀ n, (∀ m, m ≤ n → Defs P w K mg base Γ m (lev defs sub m).d) → ∀ k (d : Df), defs[k]? = some d → Callee P w K mg base Γ (n + 1) k (fun ws h => runDf d ws (lev defs sub n) h)) :
    ∀ n m, m ≤ n → Defs P w K mg base Γ m (lev defs sub m).d := by
  intro n
  induction n with
  | zero =>
    intro m hm k hk
    obtain rfl : m = 0 := by omega
    exact h0 k hk
  | succ n ih =>
    intro m hm
    by_cases h : m ≤ n
    · exact ih m h
    · obtain rfl : m = n + 1 := by omega
      intro k hk
      have hk' : k < defs.length := by rw [hn]; exact hk
      have e : defs[k]? = some defs[k] := List.getElem?_eq_getElem hk'
      have z := hs n ih k _ e
      have q : (lev defs sub (n + 1)).d k = fun ws h => runDf defs[k] ws (lev defs sub n) h := by
        funext ws h
        show (match defs[k]? with | some d => runDf d ws (lev defs sub n) h | none => .bad) = _
        rw [e]
      rw [q]
      exact z
/-- the heap at the law's entry -/
theorem sim_start {H : Hp} {a : Addr} {ns : List Int} (hex : Γ.exn = none) (hla : Γ.lam = none) (hbs : Γ.bs = []) (hT : LamX.Tabs Γ.T H) (hS : L2.SqL K H a (ns.map L2.V.int)) :
    ∃ o, (o = .ro (ns.map W.int) ∨ o = .lst (ns.map W.int)) ∧ Sim Γ K ⟨1, [o]⟩ (fun _ => a) H := by
  have rel : ∀ {n : Nat} {ρ : Nat → Addr} {H : Hp}, A2 (RV Γ K n ρ H) (ns.map W.int) (ns.map L2.V.int) := A2.map (fun i => RV.mkInt) ns
  have get : ∀ (o : O) (b : Nat) (o' : O), (⟨1, [o]⟩ : Hh).get b = some o' → b = 0 ∧ o' = o := by
    intro o b o' e
    have e : getA 1 [o] b = some o' := e
    unfold getA at e
    split at e
    · rename_i h
      have := Nat.eq_of_beq_eq_true h
      exact ⟨by omega, (Option.some.inj e).symm⟩
    · simp [getA] at e
  have mk : ∀ o : O, OR Γ K 1 (fun _ => a) H o a → Sim Γ K ⟨1, [o]⟩ (fun _ => a) H := fun o ho =>
    { len := rfl
      obj := fun b o' e => by
        obtain ⟨rfl, rfl⟩ := get o b o' e
        exact ho
      inj := fun b c ob oc eb ec _ _ _ => by
        obtain ⟨rfl, _⟩ := get o b ob eb
        obtain ⟨rfl, _⟩ := get o c oc ec
        rfl
      tab := hT
      exn := fun i b c d e => by rw [hex] at e; cases e
      lam := fun i b e => by rw [hla] at e; cases e
      bs := fun b hb => by rw [hbs] at hb; cases hb }
  rcases hS with h | h
  · rcases h with h | ⟨o, h⟩
    · exact ⟨_, .inr rfl, mk _ ⟨_, h, rel⟩⟩
    · exact ⟨_, .inl rfl, mk _ ⟨_, .inl ⟨o, h⟩, rel⟩⟩
  · exact ⟨_, .inl rfl, mk _ ⟨_, .inr h, rel⟩⟩
theorem law_sp {H : Hp} {a : Addr} {ns : List Int} {d : List W → Hh → R W} {c : Cx} (hex : Γ.exn = none) (hla : Γ.lam = none) (hbs : Γ.bs = []) (hT : LamX.Tabs Γ.T H) (hS : L2.SqL K H a (ns.map L2.V.int))
    (hd : ∀ o, (o = .ro (ns.map W.int) ∨ o = .lst (ns.map W.int)) → ∃ h', d [.ref 0] ⟨1, [o]⟩ = .ok (.bl true) h') : spD Γ K 1 d [.ref a] H (fun v _ => v = .bl true) fun _ _ _ => False := by
  obtain ⟨o, ho, S⟩ := sim_start hex hla hbs hT hS
  obtain ⟨h', e⟩ := hd o ho
  refine ⟨rfl, [.ref 0], ⟨1, [o]⟩, fun _ => a, c, S, ⟨RV.mkRef (ρ := fun _ => a) (Nat.lt_succ_self 0), trivial⟩, ?_⟩
  rw [e]
  intro ρ' H' v _ _ r
  exact r.bl_
theorem cxN_no {P : Program} {w : World} {H : Hp} {s : Shared} {e : Value} {s' : Shared} (h : L2N.CX P w [] H s (fun _ _ _ => False) e s') : False := by
  obtain ⟨_, _, _, _, _, _, _, _, _, _, _, _, z⟩ := h
  exact z
theorem ltb {k n : Nat} (h : Nat.ble (k + 1) n = true) : k < n := Nat.le_of_ble_eq_true h
section
variable {X : L2.Cx} {Y : Yv}
theorem q_lam {n : Nat} {x a : Str} {ga c T : Addr} {pg : Arguments} {bg : List Stmt} {sg : Scope} {fd : FuncData} {Ng : List Str} {params : Arguments} {body : Expr} {scope : Scope} {g : Df} {b : E} {p lpos pos : Pos}
    (hn : Y.c.lv = n) (hr : L2.Room n X.A) (hm : X.mg x = some (.ref ga)) (F : L2.FunD X.K x x pg bg sg [] [] ga fd) (hb : L2.Binds X.K fd [a] []) (Sg : L2.FnScope Ng [a] sg) (TB : LamX.TabB X.base X.mg c T) (hmT : (T, X.env.qual ++ "<lambda>") ∈ Y.Γ.T) (hu : ∀ p ∈ Y.Γ.T, p.1 = T → p.2 = X.env.qual ++ "<lambda>")
    (hbg : ∀ (cdv : Value) (s : Shared) (H : Hp) (τ : St) (i : Nat) (f : Addr) (bs : Nat × (Nat → Addr) × Hp), ThunkOk ((L2.cxOf C8.CX0 X.prog X.w X.K X.mg X.base Ng x sg ga cdv X.A X.stack s H C8.E0).nox) (yGiv Y b τ i f bs) a →
      L2.PSs ((L2.cxOf C8.CX0 X.prog X.w X.K X.mg X.base Ng x sg ga cdv X.A X.stack s H C8.E0).nox) bg (TS (yGiv Y b τ i f bs fun _ _ _ _ => False) g.body))
    (hbody : ∀ (A : Around) (outer : List Env) (s : Shared) (H : Hp) (E : L2.XK) (f c' : Addr) (m : Nat), n = m + 2 → L2.Room m (A.deeper (LamX.lamEnv X scope s.heap.objs.size f c')) → L2.PE (lamN X A outer s H E scope f c') body (rE (yDef Y.Γ Y.K E (cLam Y.c)) b))
    (hcode : X.env.code = .ref c := by rfl) (L : LamX.LamS X.env.scope scope := by exact LamX.lamS_by (by kernel_rfl)) (hg : KG X x := by kernel_rfl) (hNg : Ng[0]? = some a := by rfl) (hva : L2.Vis sg a := by first | exact .inl (by kernel_rfl!) | exact .inr (.inl (by kernel_rfl!))) (hsl : Ng.length = g.sl := by rfl) (har : g.ar = 1 := by rfl) (hdef : defaultsOf params X.env = ([], []) := by rfl)
    (hbind : ∀ (q : Str) (cl : List (Str × Addr)) (pm cv ctv : Value), bindArgs (PySem.W.kla_fn "<lambda>" q params body scope cl pm cv ctv) ⟨[], []⟩ = pure [] := by intro _ _ _ _ _; rfl)
    (hdb : (x == ("__debug__" : Str)) = false := by kernel_rfl) (hd : (a == ("__debug__" : Str)) = false := by kernel_rfl) (hcd : (a == ("__classdict__" : Str)) = false := by kernel_rfl) (hlam : Y.Γ.lam = none := by rfl) (hK : X.K = Y.K := by rfl) :
    L2.PE X (.Call (.Name x p) [.Lambda params body scope lpos] [] pos) (rE Y (eLam g b)) := by
  obtain ⟨oc, od, dV, kV, doc, pm, an, cdv, ct, osl, rfl, lk, hcd', _, _⟩ := F.ex
  exact r_lam hK hlam hn hr hg hm F.kp lk hcd' hb Sg hNg hva hsl har TB hcode hmT hu L hdef hbind (fun s H τ i f bs => hbg cdv s H τ i f bs) hbody hdb hd hcd
end
end
/-! ### the end of a law -/
theorem tabs_empty {T : List (Addr × Str)} {H : Hp} (h : ∀ p ∈ T, H p.1 = some (.tbl #[])) : LamX.Tabs T H := fun p hp =>
  ⟨#[], h p hp, by first | exact TriplesOk.nil | trivial | simp [TriplesOk], fun pos cv e => by simp [codeAmong] at e⟩
theorem law_at {l : PySem.W.OpenLaw} {w : World} {K : Fg} {mg : Str → Option Value} {h : Heap} {Γ : Gam} {fa : List He.Fa} {fn : List He.DefD} {ts : List He.Tab} {tf : List He.Defn} {ex : Fg → Bool} {n k li : Nat} {q x : Str} {params : Arguments} {body : List Stmt} {scope : Scope} {fd : FuncData} {f : Addr} {d : Df} {c : Cx}
    (KX : K.In h) (sx : He.SaysX fa fn ts tf ex w h K) (F : L2.FunD K q q params body scope [] [] (Γ.fa li) fd) (hf : f = Γ.fa li) (hb : ∀ (kV doc pm : Value) (an : Option Addr) (cdv ct : Value) (us : List Value), us.length = [x].length → bindArgs (PySem.W.fnOf q q params body scope .none kV doc pm an cdv ct) ⟨us, []⟩ = pure ([x].zip us))
    (hex : Γ.exn = none) (hla : Γ.lam = none) (hbs : Γ.bs = []) (hT : ∀ p ∈ Γ.T, p.1 ∈ tf.map fun p => (He.cT K p).2)
    (hlaw : ∀ ns : List Int, ns.length ≤ n → (∀ z ∈ ns, Builtin.Int.intBits z ≤ 1048576) → ∀ o, (o = .ro (ns.map W.int) ∨ o = .lst (ns.map W.int)) → ∃ h', runDf d [.ref 0] c ⟨1, [o]⟩ = .ok (.bl true) h')
    (hF : ∀ base : Heap, K.In base → base.Ns mainGlobals mg → (∀ p ∈ tf, LamX.TabB base mg (He.cT K p).1 (He.cT K p).2) → L2.FnOk l.prog w K mg base (L2N.CX l.prog w) k (Γ.fa li) fd [x] (spD Γ K 1 (fun ws h => runDf d ws c h))) :
    LamX.LawAtS l w K (L2N.CX l.prog w) k n x mg f h := by
  subst hf
  have mem : ∀ p ∈ tf.map (He.cT K), ∃ t ∈ tf, p = He.cT K t := fun p hp => by
    obtain ⟨t, ht, e⟩ := List.mem_map.mp hp
    exact ⟨t, ht, e.symm⟩
  refine ⟨fd, tf.map (He.cT K), spD Γ K 1 (fun ws h => runDf d ws c h), fun p hp => ?_, fun p hp => ?_, fun p hp => ?_, fun s v => L2.FunD.bindsA (ps := [x]) F hb s [v] rfl, fun H a ns hl hbits hH hS => ?_, fun base k1 k2 k3 => hF base k1 k2 fun p hp => k3 _ (List.mem_map_of_mem hp)⟩
  · obtain ⟨t, ht, rfl⟩ := mem p hp
    exact sx.empty t ht
  · obtain ⟨t, ht, rfl⟩ := mem p hp
    exact sx.out t ht
  · obtain ⟨t, ht, rfl⟩ := mem p hp
    exact PySem.W.codeHd_of_K KX (sx.hd t ht)
  · refine law_sp (c := c) hex hla hbs (tabs_empty fun p hp => ?_) hS (hlaw ns hl hbits)
    obtain ⟨t, ht, e⟩ := List.mem_map.mp (hT p hp)
    rw [← e]
    exact hH _ (List.mem_map_of_mem ht)
end PV

set_option Elab.async false
set_option linter.all false
set_option autoImplicit false
set_option maxRecDepth 100000
set_option maxHeartbeats 4000000
namespace Lk64
open PySem PV
def top (i : Nat) : Stmt := PySem.Challenge.pw_stretchtwice_k64_whole_plain_rows.main.body.getD i (.Pass ⟨0, 0, 0, 0⟩)
def fnl : List Str := ["is_row", "ended", "first_end", "is_plain", "_law_cup", "_law_roll", "_law_some", "_law_kind", "_law_like", "_law_row", "_law_error", "_law_end", "_law_fixed_right", "_law_right", "law"]
def cnl : List Str := ["StretchError", "InvalidNumber", "InvalidRow", "InvalidTree", "InvalidMachine", "NotFound", "TooMany"]
def tf : List He.Defn := [("_law_fixed_right", none)]
def Tt (K : Fg) : List (Addr × Str) := [((He.cT K ("_law_fixed_right", none)).2, ("_law_fixed_right" ++ ".<locals>.") ++ "<lambda>")]
abbrev Γz (K : Fg) : Gam := ⟨15, 7, fun k => He.ga K (fnl.getD k ""), fun k => He.ga K (cnl.getD k ""), "limit", none, none, Tt K, []⟩
theorem hT_mem {K : Fg} (p : Addr × Str) (hp : p ∈ (Γz K).T) : p.1 ∈ tf.map fun p => (He.cT K p).2 := by
  have : (Γz K).T.map (·.1) = tf.map fun p => (He.cT K p).2 := rfl
  rw [← this]
  exact List.mem_map_of_mem hp
structure Fz (K : Fg) (mg : Str → Option Value) : Prop where
  s_DEEDS : ∃ t, mg "DEEDS" = some (.str (SX.S [97, 98, 99, 100, 101, 102, 103, 104]) t)
  b_all : mg "all" = none
  b_len : mg "len" = none
  i_LONG_rows : ∃ t, mg "LONG_rows" = some (.int 4000 t)
  b_isinstance : mg "isinstance" = none
  b_str : mg "str" = none
  F_is_row : ∃ fd, L2.FunD K "is_row" "is_row" (L2.defArgs (top 11)) (L2.defBody (top 11)) (L2.defScope (top 11)) [] [] (He.ga K "is_row") fd
  g_is_row : mg "is_row" = some (.ref (He.ga K "is_row"))
  b_range : mg "range" = none
  F_ended : ∃ fd, L2.FunD K "ended" "ended" (L2.defArgs (top 14)) (L2.defBody (top 14)) (L2.defScope (top 14)) [] [] (He.ga K "ended") fd
  g_ended : mg "ended" = some (.ref (He.ga K "ended"))
  i_LONG_plainrows : ∃ t, mg "LONG_plainrows" = some (.int 400 t)
  e_InvalidRow : ErrC K mg "InvalidRow" (He.ga K "InvalidRow")
  F_first_end : ∃ fd, L2.FunD K "first_end" "first_end" (L2.defArgs (top 15)) (L2.defBody (top 15)) (L2.defScope (top 15)) [] [] (He.ga K "first_end") fd
  g_first_end : mg "first_end" = some (.ref (He.ga K "first_end"))
  F_is_plain : ∃ fd, L2.FunD K "is_plain" "is_plain" (L2.defArgs (top 16)) (L2.defBody (top 16)) (L2.defScope (top 16)) [] [] (He.ga K "is_plain") fd
  g_is_plain : mg "is_plain" = some (.ref (He.ga K "is_plain"))
  b_int : mg "int" = none
  b_list : mg "list" = none
  b_abs : mg "abs" = none
  F__law_cup : ∃ fd, L2.FunD K "_law_cup" "_law_cup" (L2.defArgs (top 18)) (L2.defBody (top 18)) (L2.defScope (top 18)) [] [] (He.ga K "_law_cup") fd
  g__law_cup : mg "_law_cup" = some (.ref (He.ga K "_law_cup"))
  F__law_roll : ∃ fd, L2.FunD K "_law_roll" "_law_roll" (L2.defArgs (top 19)) (L2.defBody (top 19)) (L2.defScope (top 19)) [] [] (He.ga K "_law_roll") fd
  g__law_roll : mg "_law_roll" = some (.ref (He.ga K "_law_roll"))
  F__law_some : ∃ fd, L2.FunD K "_law_some" "_law_some" (L2.defArgs (top 20)) (L2.defBody (top 20)) (L2.defScope (top 20)) [] [] (He.ga K "_law_some") fd
  g__law_some : mg "_law_some" = some (.ref (He.ga K "_law_some"))
  b_tuple : mg "tuple" = none
  b_bool : mg "bool" = none
  F__law_kind : ∃ fd, L2.FunD K "_law_kind" "_law_kind" (L2.defArgs (top 21)) (L2.defBody (top 21)) (L2.defScope (top 21)) [] [] (He.ga K "_law_kind") fd
  g__law_kind : mg "_law_kind" = some (.ref (He.ga K "_law_kind"))
  b_zip : mg "zip" = none
  g__law_like : mg "_law_like" = some (.ref (He.ga K "_law_like"))
  F__law_like : ∃ fd, L2.FunD K "_law_like" "_law_like" (L2.defArgs (top 22)) (L2.defBody (top 22)) (L2.defScope (top 22)) [] [] (He.ga K "_law_like") fd
  F__law_row : ∃ fd, L2.FunD K "_law_row" "_law_row" (L2.defArgs (top 23)) (L2.defBody (top 23)) (L2.defScope (top 23)) [] [] (He.ga K "_law_row") fd
  g__law_row : mg "_law_row" = some (.ref (He.ga K "_law_row"))
  g_NotFound : mg "NotFound" = some (.ref (He.ga K "NotFound"))
  g_InvalidMachine : mg "InvalidMachine" = some (.ref (He.ga K "InvalidMachine"))
  g_InvalidTree : mg "InvalidTree" = some (.ref (He.ga K "InvalidTree"))
  g_InvalidRow : mg "InvalidRow" = some (.ref (He.ga K "InvalidRow"))
  g_InvalidNumber : mg "InvalidNumber" = some (.ref (He.ga K "InvalidNumber"))
  g_TooMany : mg "TooMany" = some (.ref (He.ga K "TooMany"))
  g_StretchError : mg "StretchError" = some (.ref (He.ga K "StretchError"))
  F__law_error : ∃ fd, L2.FunD K "_law_error" "_law_error" (L2.defArgs (top 24)) (L2.defBody (top 24)) (L2.defScope (top 24)) [] [] (He.ga K "_law_error") fd
  g__law_error : mg "_law_error" = some (.ref (He.ga K "_law_error"))
  F__law_end : ∃ fd, L2.FunD K "_law_end" "_law_end" (L2.defArgs (top 25)) (L2.defBody (top 25)) (L2.defScope (top 25)) [] [] (He.ga K "_law_end") fd
  g__law_end : mg "_law_end" = some (.ref (He.ga K "_law_end"))
  F__law_fixed_right : ∃ fd, L2.FunD K "_law_fixed_right" "_law_fixed_right" (L2.defArgs (top 26)) (L2.defBody (top 26)) (L2.defScope (top 26)) [] [] (He.ga K "_law_fixed_right") fd
  g__law_fixed_right : mg "_law_fixed_right" = some (.ref (He.ga K "_law_fixed_right"))
  F__law_right : ∃ fd, L2.FunD K "_law_right" "_law_right" (L2.defArgs (top 27)) (L2.defBody (top 27)) (L2.defScope (top 27)) [] [] (He.ga K "_law_right") fd
  g__law_right : mg "_law_right" = some (.ref (He.ga K "_law_right"))
  F_law : ∃ fd, L2.FunD K "law" "law" (L2.defArgs (top 28)) (L2.defBody (top 28)) (L2.defScope (top 28)) [] [] (He.ga K "law") fd
  g_law : mg "law" = some (.ref (He.ga K "law"))
  hErr : ErrT K (Γz K).ca 7 sub
theorem sc_0 : L2.FnScope ["value", "deed"] ["value"] (L2.defScope (top 11)) := ⟨rfl, rfl, rfl, by decide +kernel, rfl, by decide +kernel, by decide +kernel⟩
theorem sc_1 : L2.FnScope ["row", "long"] ["row"] (L2.defScope (top 14)) := ⟨rfl, rfl, rfl, by decide +kernel, rfl, by decide +kernel, by decide +kernel⟩
theorem sc_2 : L2.FnScope ["row", "end", "long"] ["row"] (L2.defScope (top 15)) := ⟨rfl, rfl, rfl, by decide +kernel, rfl, by decide +kernel, by decide +kernel⟩
theorem sc_3 : L2.FnScope ["row"] ["row"] (L2.defScope (top 16)) := ⟨rfl, rfl, rfl, by decide +kernel, rfl, by decide +kernel, by decide +kernel⟩
theorem sc_4 : L2.FnScope ["script", "cell"] ["script"] (L2.defScope (top 18)) := ⟨rfl, rfl, rfl, by decide +kernel, rfl, by decide +kernel, by decide +kernel⟩
theorem sc_5 : L2.FnScope ["cup", "many", "deep", "found"] ["cup", "many"] (L2.defScope (top 19)) := ⟨rfl, rfl, rfl, by decide +kernel, rfl, by decide +kernel, by decide +kernel⟩
theorem sc_6 : L2.FnScope ["cup", "things"] ["cup", "things"] (L2.defScope (top 20)) := ⟨rfl, rfl, rfl, by decide +kernel, rfl, by decide +kernel, by decide +kernel⟩
theorem sc_7 : L2.FnScope ["value"] ["value"] (L2.defScope (top 21)) := ⟨rfl, rfl, rfl, by decide +kernel, rfl, by decide +kernel, by decide +kernel⟩
theorem sc_8 : L2.FnScope ["one", "other", "left", "right"] ["one", "other"] (L2.defScope (top 22)) := ⟨rfl, rfl, rfl, by decide +kernel, rfl, by decide +kernel, by decide +kernel⟩
theorem sc_9 : L2.FnScope ["cup", "deeds", "most", "row", "turn"] ["cup", "deeds", "most"] (L2.defScope (top 23)) := ⟨rfl, rfl, rfl, by decide +kernel, rfl, by decide +kernel, by decide +kernel⟩
theorem sc_10 : L2.FnScope ["call", "e", "words", "word", "is_so"] ["call"] (L2.defScope (top 24)) := ⟨rfl, rfl, rfl, by decide +kernel, rfl, by decide +kernel, by decide +kernel⟩
theorem sc_11 : L2.FnScope ["row", "end", "long"] ["row"] (L2.defScope (top 25)) := ⟨rfl, rfl, rfl, by decide +kernel, rfl, by decide +kernel, by decide +kernel⟩
theorem sc_12 : L2.FnScope ["rows", "due", "told", "words", "row", "odd", "one"] [] (L2.defScope (top 26)) := ⟨rfl, rfl, rfl, by decide +kernel, rfl, by decide +kernel, by decide +kernel⟩
theorem sc_13 : L2.FnScope ["cup", "row", "place", "end", "twice"] ["cup"] (L2.defScope (top 27)) := ⟨rfl, rfl, rfl, by decide +kernel, rfl, by decide +kernel, by decide +kernel⟩
theorem sc_14 : L2.FnScope ["script", "cup", "turn"] ["script"] (L2.defScope (top 28)) := ⟨rfl, rfl, rfl, by decide +kernel, rfl, by decide +kernel, by decide +kernel⟩
theorem body_10 {P : Program} {w : World} {K : Fg} {mg : Str → Option Value} {base : Heap} (z : Fz K mg) {Y : Yv} (hY : Y.K = K) (hG : Y.Γ = Γz K) (hsub : Y.c.sub = sub) {A : Around} {stack : List Env} {s : Shared} {H : Hp} {cdv : Value} {b : E} {τ : St} {i : Nat} {f : Addr} {bs : Nat × (Nat → Addr) × Hp} (hu : A.units + 3 + 65 < cLine)
    (T : ThunkOk ((L2.cxOf C8.CX0 P w K mg base ["call", "e", "words", "word", "is_so"] "_law_error" (L2.defScope (top 24)) (He.ga K "_law_error") cdv A stack s H C8.E0).nox) (yGiv Y b τ i f bs) "call") : L2.PSs ((L2.cxOf C8.CX0 P w K mg base ["call", "e", "words", "word", "is_so"] "_law_error" (L2.defScope (top 24)) (He.ga K "_law_error") cdv A stack s H C8.E0).nox) (L2.defBody (top 24)) (TS (yGiv Y b τ i f bs fun _ _ _ _ => False) d__law_error.body) := by
  obtain ⟨G, K', W, c⟩ := Y
  obtain rfl : K' = K := hY
  obtain rfl : G = Γz K' := hG
  have hErr : ErrT K' (Γz K').ca 7 c.sub := by rw [show c.sub = sub from hsub]; exact z.hErr
  have hN := sc_10.nd
  let Xe : L2.Cx := (L2.cxOf C8.CX0 P w K' mg base ["call", "e", "words", "word", "is_so"] "_law_error" (L2.defScope (top 24)) (He.ga K' "_law_error") cdv A stack s H C8.E0).nox
  let Ye : Yv := yGiv ⟨Γz K', K', W, c⟩ b τ i f bs fun _ _ _ _ => False
  refine pss_body (d := d__law_error) rfl ?_
  exact (r_cons (q_try 0 1 hErr hN (by exact takesN0) z.g_StretchError (ltb rfl) (fun W pn xe tk hp => (r_cons (r_thE T rfl tk)
  r_nil))
   (fun i a oe c pn hc hz hf => (r_cons (r_sif (q_tru (q_isX (X := Xe) (Y := Ye) 6 hErr hc hz hf z.b_isinstance z.g_TooMany (ltb rfl) (q_v 1))) (r_cons (r_ret r_bad)
  r_nil) r_nil)
  (r_cons (q_set 2 hN (r_lst (ra_cons (r_tup (ra_cons (q_str [110, 117, 109, 98, 101, 114]) (ra_cons (q_isX (X := Xe) (Y := Ye) 1 hErr hc hz hf z.b_isinstance z.g_InvalidNumber (ltb rfl) (q_v 1)) ra_nil))) (ra_cons (r_tup (ra_cons (q_str [114, 111, 119]) (ra_cons (q_isX (X := Xe) (Y := Ye) 2 hErr hc hz hf z.b_isinstance z.g_InvalidRow (ltb rfl) (q_v 1)) ra_nil))) (ra_cons (r_tup (ra_cons (q_str [116, 114, 101, 101]) (ra_cons (q_isX (X := Xe) (Y := Ye) 3 hErr hc hz hf z.b_isinstance z.g_InvalidTree (ltb rfl) (q_v 1)) ra_nil))) ra_nil)))))
  (r_cons (q_set 2 hN (q_bin .add (q_v 2) (r_lst (ra_cons (r_tup (ra_cons (q_str [109, 97, 99, 104, 105, 110, 101]) (ra_cons (q_isX (X := Xe) (Y := Ye) 4 hErr hc hz hf z.b_isinstance z.g_InvalidMachine (ltb rfl) (q_v 1)) ra_nil))) (ra_cons (r_tup (ra_cons (q_str [102, 111, 117, 110, 100]) (ra_cons (q_isX (X := Xe) (Y := Ye) 5 hErr hc hz hf z.b_isinstance z.g_NotFound (ltb rfl) (q_v 1)) ra_nil))) (ra_cons (r_tup (ra_cons (q_str [111, 116, 104, 101, 114]) (ra_cons r_bl ra_nil))) ra_nil))))))
  (r_cons (r_ret (q_ix (by exact hu) (q_lcH [("word", 3), ("is_so", 4)] (hot_suite hz hf) hN (q_v 2) (blk_by (by kernel_rfl)) (tg_tup (tgs_cons (by decide) (tgs_cons (by decide) tgs_nil))) (fun s H C cl fp hh => (pg_tup_hot hh (L2.pgs_cons (q_bv 3 hN) (L2.pgs_cons (q_bv 4 hN) L2.pgs_nil)))) (fun s H C cl fp => (q_one (q_tru (q_v 4)))) (fun s H C cl fp => (q_v 3))) r_int))
  r_nil))))))
  (r_cons (r_ret (q_str []))
  r_nil))
theorem ok_10 {P : Program} {w : World} {K : Fg} {mg : Str → Option Value} {base : Heap} (z : Fz K mg) {n : Nat} (hDs : ∀ m, m ≤ n → Defs P w K mg base (Γz K) m (lev defs sub m).d) {fd : FuncData} (F : L2.FunD K "_law_error" "_law_error" (L2.defArgs (top 24)) (L2.defBody (top 24)) (L2.defScope (top 24)) [] [] ((Γz K).fa 10) fd) :
    L2.FnOk P w K mg base (L2N.CX P w) (n + 1) ((Γz K).fa 10) fd ["call"] (spD (Γz K) K 1 (fun ws h => runDf d__law_error ws (lev defs sub n) h)) := by
  have hN := sc_10.nd
  refine fnok_of (p := ("_law_error", none)) F rfl sc_10 rfl rfl fun A outer s H E hr => ?_
  exact pss_bad fun τ h => thunk_bad (by cases n <;> rfl)
theorem ok_0 {P : Program} {w : World} {K : Fg} {mg : Str → Option Value} {base : Heap} (z : Fz K mg) {n : Nat} (hDs : ∀ m, m ≤ n → Defs P w K mg base (Γz K) m (lev defs sub m).d) {fd : FuncData} (F : L2.FunD K "is_row" "is_row" (L2.defArgs (top 11)) (L2.defBody (top 11)) (L2.defScope (top 11)) [] [] ((Γz K).fa 0) fd) :
    L2.FnOk P w K mg base (L2N.CX P w) (n + 1) ((Γz K).fa 0) fd ["value"] (spD (Γz K) K 1 (fun ws h => runDf d_is_row ws (lev defs sub n) h)) := by
  have hN := sc_0.nd
  refine fnok_of (p := ("is_row", none)) F rfl sc_0 rfl rfl fun A outer s H E hr => ?_
  exact (r_cons (r_ret (r_eand (q_isin .str z.b_isinstance z.b_str (q_v 0)) (r_eand (q_cmp (by exact units_of hr) .le (q_B call_len' un_len z.b_len (q_v 0)) (q_gi z.i_LONG_rows)) (r_eone (q_B (by exact L2.cr_all rfl) un_all z.b_all (q_lc [("deed", 1)] rfl hN (q_seq (q_v 0)) (blk_by (by kernel_rfl)) (tg_name (by decide)) (fun s H C cl fp => (q_bv 1 hN)) (fun s H C cl fp => rt_yes) (fun s H C cl fp => (q_cmp (by exact units_of hr) .inn (q_v 1) (q_gs z.s_DEEDS)))))))))
  r_nil)
theorem ok_1 {P : Program} {w : World} {K : Fg} {mg : Str → Option Value} {base : Heap} (z : Fz K mg) {n : Nat} (hDs : ∀ m, m ≤ n → Defs P w K mg base (Γz K) m (lev defs sub m).d) {fd : FuncData} (F : L2.FunD K "ended" "ended" (L2.defArgs (top 14)) (L2.defBody (top 14)) (L2.defScope (top 14)) [] [] ((Γz K).fa 1) fd) :
    L2.FnOk P w K mg base (L2N.CX P w) (n + 1) ((Γz K).fa 1) fd ["row"] (spD (Γz K) K 1 (fun ws h => runDf d_ended ws (lev defs sub n) h)) := by
  have hN := sc_1.nd
  refine fnok_of (p := ("ended", none)) F rfl sc_1 rfl rfl fun A outer s H E hr => ?_
  exact (r_cons (q_for (by exact hp_def) (q_range z.b_range r_int (q_bin .add (q_bin .fdiv (q_B call_len' un_len z.b_len (q_v 0)) r_int) r_int)) (q_gv 1 hN) (r_cons (r_sif (q_tcmp (by exact units_of hr) .eq (q_sl (q_v 0) (rp_some (r_neg (q_v 1))) rp_none) (q_sl (q_v 0) (rp_some (q_bin .mul (r_neg r_int) (q_v 1))) (rp_some (r_neg (q_v 1))))) (r_cons (r_ret (q_v 1))
  r_nil) r_nil)
  r_nil))
  (r_cons (r_ret r_int)
  r_nil))
theorem ok_2 {P : Program} {w : World} {K : Fg} {mg : Str → Option Value} {base : Heap} (z : Fz K mg) {n : Nat} (hDs : ∀ m, m ≤ n → Defs P w K mg base (Γz K) m (lev defs sub m).d) {fd : FuncData} (F : L2.FunD K "first_end" "first_end" (L2.defArgs (top 15)) (L2.defBody (top 15)) (L2.defScope (top 15)) [] [] ((Γz K).fa 2) fd) :
    L2.FnOk P w K mg base (L2N.CX P w) (n + 1) ((Γz K).fa 2) fd ["row"] (spD (Γz K) K 1 (fun ws h => runDf d_first_end ws (lev defs sub n) h)) := by
  have hN := sc_2.nd
  refine fnok_of (p := ("first_end", none)) F rfl sc_2 rfl rfl fun A outer s H E hr => ?_
  exact (r_cons (r_sif (L2.PW.pt (r_wor (r_tnot (q_tru (q_call 0 (by exact hDs _ (Nat.le_refl _)) (by exact tk_def) hr z.g_is_row (ltb rfl) (ra_cons (q_v 0) ra_nil)))) (r_wor1 (q_tcmp (by exact units_of hr) .gt (q_B call_len' un_len z.b_len (q_v 0)) (q_gi z.i_LONG_plainrows))))) (r_cons (q_raise 2 (by exact tk_def) z.e_InvalidRow (ltb rfl))
  r_nil) r_nil)
  (r_cons (q_for (by exact hp_def) (q_range z.b_range r_int (q_bin .add (q_B call_len' un_len z.b_len (q_v 0)) r_int)) (q_gv 1 hN) (r_cons (q_set 2 hN (q_call 1 (by exact hDs _ (Nat.le_refl _)) (by exact tk_def) hr z.g_ended (ltb rfl) (ra_cons (q_sl (q_v 0) rp_none (rp_some (q_v 1))) ra_nil)))
  (r_cons (r_sif (q_tcmp (by exact units_of hr) .gt (q_v 2) r_int) (r_cons (r_ret (r_tup (ra_cons (q_bin .sub (q_v 1) (q_bin .mul r_int (q_v 2))) (ra_cons (q_v 2) ra_nil))))
  r_nil) r_nil)
  r_nil)))
  (r_cons (r_ret r_non)
  r_nil)))
theorem ok_3 {P : Program} {w : World} {K : Fg} {mg : Str → Option Value} {base : Heap} (z : Fz K mg) {n : Nat} (hDs : ∀ m, m ≤ n → Defs P w K mg base (Γz K) m (lev defs sub m).d) {fd : FuncData} (F : L2.FunD K "is_plain" "is_plain" (L2.defArgs (top 16)) (L2.defBody (top 16)) (L2.defScope (top 16)) [] [] ((Γz K).fa 3) fd) :
    L2.FnOk P w K mg base (L2N.CX P w) (n + 1) ((Γz K).fa 3) fd ["row"] (spD (Γz K) K 1 (fun ws h => runDf d_is_plain ws (lev defs sub n) h)) := by
  have hN := sc_3.nd
  refine fnok_of (p := ("is_plain", none)) F rfl sc_3 rfl rfl fun A outer s H E hr => ?_
  exact (r_cons (r_ret (q_cmp (by exact units_of hr) .isn (q_call 2 (by exact hDs _ (Nat.le_refl _)) (by exact tk_def) hr z.g_first_end (ltb rfl) (ra_cons (q_v 0) ra_nil)) r_non))
  r_nil)
theorem ok_4 {P : Program} {w : World} {K : Fg} {mg : Str → Option Value} {base : Heap} (z : Fz K mg) {n : Nat} (hDs : ∀ m, m ≤ n → Defs P w K mg base (Γz K) m (lev defs sub m).d) {fd : FuncData} (F : L2.FunD K "_law_cup" "_law_cup" (L2.defArgs (top 18)) (L2.defBody (top 18)) (L2.defScope (top 18)) [] [] ((Γz K).fa 4) fd) :
    L2.FnOk P w K mg base (L2N.CX P w) (n + 1) ((Γz K).fa 4) fd ["script"] (spD (Γz K) K 1 (fun ws h => runDf d__law_cup ws (lev defs sub n) h)) := by
  have hN := sc_4.nd
  refine fnok_of (p := ("_law_cup", none)) F rfl sc_4 rfl rfl fun A outer s H E hr => ?_
  exact (r_cons (q_set 1 hN (q_B L2.call_abs un_abs z.b_abs (q_ix (by exact units_of hr) (q_bin .add (q_Ty L2.call_list_of un_list z.b_list (q_v 0)) (r_lst (ra_cons r_int ra_nil))) r_int)))
  (r_cons (r_ret (r_lst (ra_cons (r_if (q_tcmp (by exact units_of hr) .ge (q_v 1) (q_bin .pow r_int r_int)) (q_bin .fdiv (q_v 1) r_int) r_int) (ra_cons (q_bin .add (q_bin .mod (q_Ty L2.call_int1 un_int z.b_int (q_bin .add (q_bin .mul (q_v 1) r_int) r_int)) r_int) r_int) ra_nil))))
  r_nil))
theorem ok_5 {P : Program} {w : World} {K : Fg} {mg : Str → Option Value} {base : Heap} (z : Fz K mg) {n : Nat} (hDs : ∀ m, m ≤ n → Defs P w K mg base (Γz K) m (lev defs sub m).d) {fd : FuncData} (F : L2.FunD K "_law_roll" "_law_roll" (L2.defArgs (top 19)) (L2.defBody (top 19)) (L2.defScope (top 19)) [] [] ((Γz K).fa 5) fd) :
    L2.FnOk P w K mg base (L2N.CX P w) (n + 1) ((Γz K).fa 5) fd ["cup", "many"] (spD (Γz K) K 2 (fun ws h => runDf d__law_roll ws (lev defs sub n) h)) := by
  have hN := sc_5.nd
  refine fnok_of (p := ("_law_roll", none)) F rfl sc_5 rfl rfl fun A outer s H E hr => ?_
  exact (r_cons (r_sif (q_tcmp (by exact units_of hr) .gt (q_ix (by exact units_of hr) (q_v 0) r_int) r_int) (r_cons (q_set 3 hN (q_bin .mod (q_Ty L2.call_int1 un_int z.b_int (q_ix (by exact units_of hr) (q_v 0) r_int)) (q_v 1)))
  (r_cons (r_asg (q_bin .fdiv (q_ix (by exact units_of hr) (q_v 0) r_int) (q_v 1)) (rg_ix (by exact units_of hr) (q_v 0) r_int))
  (r_cons (r_ret (q_v 3))
  r_nil))) r_nil)
  (r_cons (r_asg (q_bin .mod (q_Ty L2.call_int1 un_int z.b_int (q_bin .add (q_bin .mul (q_ix (by exact units_of hr) (q_v 0) r_int) r_int) r_int)) r_int) (rg_ix (by exact units_of hr) (q_v 0) r_int))
  (r_cons (q_set 2 hN (q_bin .mod (q_Ty L2.call_int1 un_int z.b_int (q_bin .mul (q_ix (by exact units_of hr) (q_v 0) r_int) (q_bin .add (q_ix (by exact units_of hr) (q_v 0) r_int) r_int))) r_int))
  (r_cons (r_ret (q_bin .mod (q_Ty L2.call_int1 un_int z.b_int (q_bin .fdiv (q_v 2) r_int)) (q_v 1)))
  r_nil))))
theorem ok_6 {P : Program} {w : World} {K : Fg} {mg : Str → Option Value} {base : Heap} (z : Fz K mg) {n : Nat} (hDs : ∀ m, m ≤ n → Defs P w K mg base (Γz K) m (lev defs sub m).d) {fd : FuncData} (F : L2.FunD K "_law_some" "_law_some" (L2.defArgs (top 20)) (L2.defBody (top 20)) (L2.defScope (top 20)) [] [] ((Γz K).fa 6) fd) :
    L2.FnOk P w K mg base (L2N.CX P w) (n + 1) ((Γz K).fa 6) fd ["cup", "things"] (spD (Γz K) K 2 (fun ws h => runDf d__law_some ws (lev defs sub n) h)) := by
  have hN := sc_6.nd
  refine fnok_of (p := ("_law_some", none)) F rfl sc_6 rfl rfl fun A outer s H E hr => ?_
  exact (r_cons (r_ret (q_ix (by exact units_of hr) (q_v 1) (q_call 5 (by exact hDs _ (Nat.le_refl _)) (by exact tk_def) hr z.g__law_roll (ltb rfl) (ra_cons (q_v 0) (ra_cons (q_B call_len' un_len z.b_len (q_v 1)) ra_nil)))))
  r_nil)
theorem ok_7 {P : Program} {w : World} {K : Fg} {mg : Str → Option Value} {base : Heap} (z : Fz K mg) {n : Nat} (hDs : ∀ m, m ≤ n → Defs P w K mg base (Γz K) m (lev defs sub m).d) {fd : FuncData} (F : L2.FunD K "_law_kind" "_law_kind" (L2.defArgs (top 21)) (L2.defBody (top 21)) (L2.defScope (top 21)) [] [] ((Γz K).fa 7) fd) :
    L2.FnOk P w K mg base (L2N.CX P w) (n + 1) ((Γz K).fa 7) fd ["value"] (spD (Γz K) K 1 (fun ws h => runDf d__law_kind ws (lev defs sub n) h)) := by
  have hN := sc_7.nd
  refine fnok_of (p := ("_law_kind", none)) F rfl sc_7 rfl rfl fun A outer s H E hr => ?_
  exact (r_cons (r_sif (q_tru (q_isin .bool z.b_isinstance z.b_bool (q_v 0))) (r_cons (r_ret r_int)
  r_nil) r_nil)
  (r_cons (r_sif (q_tru (q_isin .tuple z.b_isinstance z.b_tuple (q_v 0))) (r_cons (r_ret r_int)
  r_nil) r_nil)
  (r_cons (r_ret (r_if (q_tru (q_isin .list z.b_isinstance z.b_list (q_v 0))) r_int r_int))
  r_nil)))
theorem ok_8 {P : Program} {w : World} {K : Fg} {mg : Str → Option Value} {base : Heap} (z : Fz K mg) {n : Nat} (hDs : ∀ m, m ≤ n → Defs P w K mg base (Γz K) m (lev defs sub m).d) {fd : FuncData} (F : L2.FunD K "_law_like" "_law_like" (L2.defArgs (top 22)) (L2.defBody (top 22)) (L2.defScope (top 22)) [] [] ((Γz K).fa 8) fd) :
    L2.FnOk P w K mg base (L2N.CX P w) (n + 1) ((Γz K).fa 8) fd ["one", "other"] (spD (Γz K) K 2 (fun ws h => runDf d__law_like ws (lev defs sub n) h)) := by
  have hN := sc_8.nd
  refine fnok_of (p := ("_law_like", none)) F rfl sc_8 rfl rfl fun A outer s H E hr => ?_
  exact (r_cons (r_sif (q_tcmp (by exact units_of hr) .ne (q_call 7 (by exact hDs _ (Nat.le_refl _)) (by exact tk_def) hr z.g__law_kind (ltb rfl) (ra_cons (q_v 0) ra_nil)) (q_call 7 (by exact hDs _ (Nat.le_refl _)) (by exact tk_def) hr z.g__law_kind (ltb rfl) (ra_cons (q_v 1) ra_nil))) (r_cons (r_ret r_bl)
  r_nil) r_nil)
  (r_cons (r_sif (q_tcmp (by exact units_of hr) .inn (q_call 7 (by exact hDs _ (Nat.le_refl _)) (by exact tk_def) hr z.g__law_kind (ltb rfl) (ra_cons (q_v 0) ra_nil)) (r_tup (ra_cons r_int (ra_cons r_int ra_nil)))) (r_cons (r_ret (r_eand (q_cmp (by exact units_of hr) .eq (q_B call_len' un_len z.b_len (q_v 0)) (q_B call_len' un_len z.b_len (q_v 1))) (r_eone (q_cmp (by exact units_of hr) .eq (q_lc [("left", 2), ("right", 3)] rfl hN (q_zip z.b_zip (q_v 0) (q_v 1)) (blk_by (by kernel_rfl)) (tg_tup (tgs_cons (by decide) (tgs_cons (by decide) tgs_nil))) (fun s H C cl fp => (L2.pg_tup rfl (L2.pgs_cons (q_bv 2 hN) (L2.pgs_cons (q_bv 3 hN) L2.pgs_nil)))) (fun s H C cl fp => (q_one (r_tnot (q_tru (q_call 8 (by exact hDs _ (Nat.le_refl _)) (by exact takesN0) hr z.g__law_like (ltb rfl) (ra_cons (q_v 2) (ra_cons (q_v 3) ra_nil))))))) (fun s H C cl fp => r_int)) (r_lst ra_nil)))))
  r_nil) r_nil)
  (r_cons (r_ret (q_cmp (by exact units_of hr) .eq (q_v 0) (q_v 1)))
  r_nil)))
theorem ok_9 {P : Program} {w : World} {K : Fg} {mg : Str → Option Value} {base : Heap} (z : Fz K mg) {n : Nat} (hDs : ∀ m, m ≤ n → Defs P w K mg base (Γz K) m (lev defs sub m).d) {fd : FuncData} (F : L2.FunD K "_law_row" "_law_row" (L2.defArgs (top 23)) (L2.defBody (top 23)) (L2.defScope (top 23)) [] [] ((Γz K).fa 9) fd) :
    L2.FnOk P w K mg base (L2N.CX P w) (n + 1) ((Γz K).fa 9) fd ["cup", "deeds", "most"] (spD (Γz K) K 3 (fun ws h => runDf d__law_row ws (lev defs sub n) h)) := by
  have hN := sc_9.nd
  refine fnok_of (p := ("_law_row", none)) F rfl sc_9 rfl rfl fun A outer s H E hr => ?_
  exact (r_cons (q_set 3 hN (q_str []))
  (r_cons (q_for (by exact hp_def) (q_range1 z.b_range (q_call 5 (by exact hDs _ (Nat.le_refl _)) (by exact tk_def) hr z.g__law_roll (ltb rfl) (ra_cons (q_v 0) (ra_cons (q_bin .add (q_v 2) r_int) ra_nil)))) (q_gv 4 hN) (r_cons (q_set 3 hN (q_bin .add (q_v 3) (q_call 6 (by exact hDs _ (Nat.le_refl _)) (by exact tk_def) hr z.g__law_some (ltb rfl) (ra_cons (q_v 0) (ra_cons (q_v 1) ra_nil)))))
  r_nil))
  (r_cons (r_ret (q_v 3))
  r_nil)))
theorem ok_11 {P : Program} {w : World} {K : Fg} {mg : Str → Option Value} {base : Heap} (z : Fz K mg) {n : Nat} (hDs : ∀ m, m ≤ n → Defs P w K mg base (Γz K) m (lev defs sub m).d) {fd : FuncData} (F : L2.FunD K "_law_end" "_law_end" (L2.defArgs (top 25)) (L2.defBody (top 25)) (L2.defScope (top 25)) [] [] ((Γz K).fa 11) fd) :
    L2.FnOk P w K mg base (L2N.CX P w) (n + 1) ((Γz K).fa 11) fd ["row"] (spD (Γz K) K 1 (fun ws h => runDf d__law_end ws (lev defs sub n) h)) := by
  have hN := sc_11.nd
  refine fnok_of (p := ("_law_end", none)) F rfl sc_11 rfl rfl fun A outer s H E hr => ?_
  exact (r_cons (q_for (by exact hp_def) (q_range1 z.b_range (q_bin .add (q_B call_len' un_len z.b_len (q_v 0)) r_int)) (q_gv 1 hN) (r_cons (q_for (by exact hp_def) (q_range z.b_range r_int (q_bin .add (q_B call_len' un_len z.b_len (q_v 0)) r_int)) (q_gv 2 hN) (r_cons (r_sif (L2.PW.pt (r_wand (q_tcmp (by exact units_of hr) .ge (q_v 1) (q_bin .mul r_int (q_v 2))) (r_wand1 (q_tcmp (by exact units_of hr) .eq (q_sl (q_v 0) (rp_some (q_bin .sub (q_v 1) (q_v 2))) (rp_some (q_v 1))) (q_sl (q_v 0) (rp_some (q_bin .sub (q_v 1) (q_bin .mul r_int (q_v 2)))) (rp_some (q_bin .sub (q_v 1) (q_v 2)))))))) (r_cons (r_ret (r_tup (ra_cons (q_bin .sub (q_v 1) (q_bin .mul r_int (q_v 2))) (ra_cons (q_v 2) ra_nil))))
  r_nil) r_nil)
  r_nil))
  r_nil))
  (r_cons (r_ret r_non)
  r_nil))
theorem ok_12 {P : Program} {w : World} {K : Fg} {mg : Str → Option Value} {base : Heap} (z : Fz K mg) {n : Nat} (hDs : ∀ m, m ≤ n → Defs P w K mg base (Γz K) m (lev defs sub m).d) (hTB : LamX.TabB base mg (He.cT K ("_law_fixed_right", none)).1 (He.cT K ("_law_fixed_right", none)).2) {fd : FuncData} (F : L2.FunD K "_law_fixed_right" "_law_fixed_right" (L2.defArgs (top 26)) (L2.defBody (top 26)) (L2.defScope (top 26)) [] [] ((Γz K).fa 12) fd) :
    L2.FnOk P w K mg base (L2N.CX P w) (n + 1) ((Γz K).fa 12) fd [] (spD (Γz K) K 0 (fun ws h => runDf d__law_fixed_right ws (lev defs sub n) h)) := by
  have hN := sc_12.nd
  obtain ⟨fe, hFe⟩ := z.F__law_error
  have bFe : L2.Binds K fe ["call"] [] := hFe.bindsN fun _ _ _ _ _ _ us hl => match us, hl with | [_], _ => rfl
  have hT1 : ((He.cT K ("_law_fixed_right", none)).2, (("_law_fixed_right" ++ ".<locals>.") ++ "<lambda>" : Str)) ∈ (Γz K).T := List.mem_cons_self
  have hT2 : ∀ p ∈ (Γz K).T, p.1 = (He.cT K ("_law_fixed_right", none)).2 → p.2 = (("_law_fixed_right" ++ ".<locals>.") ++ "<lambda>" : Str) := fun p hp _ => by
    have e := List.mem_singleton.mp (show p ∈ [_] from hp)
    rw [e]
  refine fnok_of (p := ("_law_fixed_right", none)) F rfl sc_12 rfl rfl fun A outer s H E hr => ?_
  exact (r_cons (q_set 0 hN (r_lst (ra_cons (q_str [97, 98, 97, 99]) (ra_cons (q_str [97, 98, 97, 98]) (ra_cons (q_str [99, 97, 98, 97, 98]) (ra_cons (q_str [97, 97, 98]) (ra_cons (q_str [97, 98, 99, 97, 98, 99]) (ra_cons (q_str []) (ra_cons (q_str [97]) (ra_cons (q_str [97, 98, 99, 98, 97, 98, 99]) (ra_cons (q_str [97, 97, 97, 97]) (ra_cons (q_str [97, 98, 99, 97, 98, 99, 99]) (ra_cons (q_str [97, 98, 99, 100, 97, 98, 99, 100]) (ra_cons (q_str [97, 98, 97, 98, 97, 98]) (ra_cons (q_str [98, 99, 99]) ra_nil)))))))))))))))
  (r_cons (q_set 1 hN (r_lst (ra_cons r_non (ra_cons (r_tup (ra_cons r_int (ra_cons r_int ra_nil))) (ra_cons (r_tup (ra_cons r_int (ra_cons r_int ra_nil))) (ra_cons (r_tup (ra_cons r_int (ra_cons r_int ra_nil))) (ra_cons (r_tup (ra_cons r_int (ra_cons r_int ra_nil))) (ra_cons r_non (ra_cons r_non (ra_cons r_non (ra_cons (r_tup (ra_cons r_int (ra_cons r_int ra_nil))) (ra_cons (r_tup (ra_cons r_int (ra_cons r_int ra_nil))) (ra_cons (r_tup (ra_cons r_int (ra_cons r_int ra_nil))) (ra_cons (r_tup (ra_cons r_int (ra_cons r_int ra_nil))) (ra_cons (r_tup (ra_cons r_int (ra_cons r_int ra_nil))) ra_nil)))))))))))))))
  (r_cons (q_setLc 2 [("row", 4)] rfl hN (q_seq (q_v 0)) (blk_by (by kernel_rfl)) (tg_name (by decide)) (fun s H C cl fp => (q_bv 4 hN)) (fun s H C cl fp => rt_yes) (fun s H C cl fp => (q_call 2 (by exact hDs _ (Nat.le_refl _)) (by exact takesN0) hr z.g_first_end (ltb rfl) (ra_cons (q_v 4) ra_nil))))
  (r_cons (r_sif (L2.PW.pt (r_wor (r_tnot (q_tru (q_call 8 (by exact hDs _ (Nat.le_refl _)) (by exact tk_def) hr z.g__law_like (ltb rfl) (ra_cons (q_v 2) (ra_cons (q_v 1) ra_nil))))) (r_wor1 (r_tnot (q_tru (q_call 8 (by exact hDs _ (Nat.le_refl _)) (by exact tk_def) hr z.g__law_like (ltb rfl) (ra_cons (q_lc [("row", 4)] rfl hN (q_seq (q_v 0)) (blk_by (by kernel_rfl)) (tg_name (by decide)) (fun s H C cl fp => (q_bv 4 hN)) (fun s H C cl fp => rt_yes) (fun s H C cl fp => (q_call 3 (by exact hDs _ (Nat.le_refl _)) (by exact takesN0) hr z.g_is_plain (ltb rfl) (ra_cons (q_v 4) ra_nil)))) (ra_cons (q_lc [("one", 6)] rfl hN (q_seq (q_v 1)) (blk_by (by kernel_rfl)) (tg_name (by decide)) (fun s H C cl fp => (q_bv 6 hN)) (fun s H C cl fp => rt_yes) (fun s H C cl fp => (q_cmp (by exact units_of hr) .isn (q_v 6) r_non))) ra_nil)))))))) (r_cons (r_ret r_bl)
  r_nil) r_nil)
  (r_cons (q_set 2 hN (r_lst (ra_cons (q_call 2 (by exact hDs _ (Nat.le_refl _)) (by exact tk_def) hr z.g_first_end (ltb rfl) (ra_cons (q_bin .mul (q_str [97, 98, 99, 100, 101, 102, 103, 104]) r_int) ra_nil)) (ra_cons (q_call 2 (by exact hDs _ (Nat.le_refl _)) (by exact tk_def) hr z.g_first_end (ltb rfl) (ra_cons (q_bin .mul (q_str [97]) r_int) ra_nil)) (ra_cons (q_call 3 (by exact hDs _ (Nat.le_refl _)) (by exact tk_def) hr z.g_is_plain (ltb rfl) (ra_cons (q_bin .mul (q_str [97, 98, 99, 100, 101, 102, 103, 104]) r_int) ra_nil)) ra_nil)))))
  (r_cons (r_sif (r_tnot (q_tru (q_call 8 (by exact hDs _ (Nat.le_refl _)) (by exact tk_def) hr z.g__law_like (ltb rfl) (ra_cons (q_v 2) (ra_cons (r_lst (ra_cons (r_tup (ra_cons r_int (ra_cons r_int ra_nil))) (ra_cons (r_tup (ra_cons r_int (ra_cons r_int ra_nil))) (ra_cons r_bl ra_nil)))) ra_nil))))) (r_cons (r_ret r_bl)
  r_nil) r_nil)
  (r_cons (q_setLc 3 [("odd", 5)] rfl hN (q_seq (r_tup (ra_cons (q_str [97, 98, 105]) (ra_cons (q_str [65]) (ra_cons r_non (ra_cons (r_tup (ra_cons (q_str [97]) ra_nil)) (ra_cons (q_bin .mul (q_str [97]) r_int) (ra_cons r_int ra_nil)))))))) (blk_by (by kernel_rfl)) (tg_name (by decide)) (fun s H C cl fp => (q_bv 5 hN)) (fun s H C cl fp => rt_yes) (fun s H C cl fp => (q_lam (lev_lv _) hr z.g__law_error hFe bFe sc_10 hTB hT1 hT2 (fun cdv s H τ i f bs => body_10 z rfl rfl (lev_sub _) (by exact units_lam hr))
   (fun A outer s H E f c' m hm hr2 => by subst hm; exact (q_call 2 (by exact hDs m (by omega)) (by exact tk_lam) hr2 z.g_first_end (ltb rfl) (ra_cons (q_v 5) ra_nil))))))
  (r_cons (q_set 3 hN (q_bin .add (q_v 3) (q_lc [("odd", 5)] rfl hN (q_seq (r_tup (ra_cons (q_str [97, 98, 105]) (ra_cons (q_str [65]) (ra_cons r_non (ra_cons (r_tup (ra_cons (q_str [97]) ra_nil)) (ra_cons (q_bin .mul (q_str [97]) r_int) (ra_cons r_int ra_nil)))))))) (blk_by (by kernel_rfl)) (tg_name (by decide)) (fun s H C cl fp => (q_bv 5 hN)) (fun s H C cl fp => rt_yes) (fun s H C cl fp => (q_lam (lev_lv _) hr z.g__law_error hFe bFe sc_10 hTB hT1 hT2 (fun cdv s H τ i f bs => body_10 z rfl rfl (lev_sub _) (by exact units_lam hr))
   (fun A outer s H E f c' m hm hr2 => by subst hm; exact (q_call 3 (by exact hDs m (by omega)) (by exact tk_lam) hr2 z.g_is_plain (ltb rfl) (ra_cons (q_v 5) ra_nil))))))))
  (r_cons (r_ret (q_cmp (by exact units_of hr) .eq (q_v 3) (q_bin .mul (r_lst (ra_cons (q_str [114, 111, 119]) ra_nil)) r_int)))
  r_nil)))))))))
theorem ok_13 {P : Program} {w : World} {K : Fg} {mg : Str → Option Value} {base : Heap} (z : Fz K mg) {n : Nat} (hDs : ∀ m, m ≤ n → Defs P w K mg base (Γz K) m (lev defs sub m).d) {fd : FuncData} (F : L2.FunD K "_law_right" "_law_right" (L2.defArgs (top 27)) (L2.defBody (top 27)) (L2.defScope (top 27)) [] [] ((Γz K).fa 13) fd) :
    L2.FnOk P w K mg base (L2N.CX P w) (n + 1) ((Γz K).fa 13) fd ["cup"] (spD (Γz K) K 1 (fun ws h => runDf d__law_right ws (lev defs sub n) h)) := by
  have hN := sc_13.nd
  refine fnok_of (p := ("_law_right", none)) F rfl sc_13 rfl rfl fun A outer s H E hr => ?_
  exact (r_cons (q_set 1 hN (q_call 9 (by exact hDs _ (Nat.le_refl _)) (by exact tk_def) hr z.g__law_row (ltb rfl) (ra_cons (q_v 0) (ra_cons (q_call 6 (by exact hDs _ (Nat.le_refl _)) (by exact tk_def) hr z.g__law_some (ltb rfl) (ra_cons (q_v 0) (ra_cons (r_lst (ra_cons (q_str [97, 98]) (ra_cons (q_str [97, 98, 99]) (ra_cons (q_str [97, 98, 99, 100]) (ra_cons (q_str [97, 98, 99, 100, 101, 102, 103, 104]) ra_nil))))) ra_nil))) (ra_cons r_int ra_nil)))))
  (r_cons (r_sif (r_tnot (q_tru (q_call 8 (by exact hDs _ (Nat.le_refl _)) (by exact tk_def) hr z.g__law_like (ltb rfl) (ra_cons (r_lst (ra_cons (q_call 2 (by exact hDs _ (Nat.le_refl _)) (by exact tk_def) hr z.g_first_end (ltb rfl) (ra_cons (q_v 1) ra_nil)) (ra_cons (q_call 3 (by exact hDs _ (Nat.le_refl _)) (by exact tk_def) hr z.g_is_plain (ltb rfl) (ra_cons (q_v 1) ra_nil)) ra_nil))) (ra_cons (r_lst (ra_cons (q_call 11 (by exact hDs _ (Nat.le_refl _)) (by exact tk_def) hr z.g__law_end (ltb rfl) (ra_cons (q_v 1) ra_nil)) (ra_cons (q_cmp (by exact units_of hr) .isn (q_call 11 (by exact hDs _ (Nat.le_refl _)) (by exact tk_def) hr z.g__law_end (ltb rfl) (ra_cons (q_v 1) ra_nil)) r_non) ra_nil))) ra_nil))))) (r_cons (r_ret r_bl)
  r_nil) r_nil)
  (r_cons (r_sif (q_tcmp (by exact units_of hr) .eq (q_v 1) (q_str [])) (r_cons (r_ret r_bl)
  r_nil) r_nil)
  (r_cons (q_set 2 hN (q_call 5 (by exact hDs _ (Nat.le_refl _)) (by exact tk_def) hr z.g__law_roll (ltb rfl) (ra_cons (q_v 0) (ra_cons (q_B call_len' un_len z.b_len (q_v 1)) ra_nil))))
  (r_cons (q_set 3 hN (q_bin .add (q_bin .add (q_v 2) r_int) (q_call 5 (by exact hDs _ (Nat.le_refl _)) (by exact tk_def) hr z.g__law_roll (ltb rfl) (ra_cons (q_v 0) (ra_cons (q_bin .sub (q_B call_len' un_len z.b_len (q_v 1)) (q_v 2)) ra_nil)))))
  (r_cons (q_set 4 hN (q_bin .add (q_bin .add (q_sl (q_v 1) rp_none (rp_some (q_v 3))) (q_sl (q_v 1) (rp_some (q_v 2)) (rp_some (q_v 3)))) (q_sl (q_v 1) (rp_some (q_v 3)) rp_none)))
  (r_cons (r_ret (q_call 8 (by exact hDs _ (Nat.le_refl _)) (by exact tk_def) hr z.g__law_like (ltb rfl) (ra_cons (r_lst (ra_cons (q_call 2 (by exact hDs _ (Nat.le_refl _)) (by exact tk_def) hr z.g_first_end (ltb rfl) (ra_cons (q_v 4) ra_nil)) (ra_cons (q_call 3 (by exact hDs _ (Nat.le_refl _)) (by exact tk_def) hr z.g_is_plain (ltb rfl) (ra_cons (q_v 4) ra_nil)) ra_nil))) (ra_cons (r_lst (ra_cons (q_call 11 (by exact hDs _ (Nat.le_refl _)) (by exact tk_def) hr z.g__law_end (ltb rfl) (ra_cons (q_v 4) ra_nil)) (ra_cons r_bl ra_nil))) ra_nil))))
  r_nil)))))))
theorem ok_14 {P : Program} {w : World} {K : Fg} {mg : Str → Option Value} {base : Heap} (z : Fz K mg) {n : Nat} (hDs : ∀ m, m ≤ n → Defs P w K mg base (Γz K) m (lev defs sub m).d) {fd : FuncData} (F : L2.FunD K "law" "law" (L2.defArgs (top 28)) (L2.defBody (top 28)) (L2.defScope (top 28)) [] [] ((Γz K).fa 14) fd) :
    L2.FnOk P w K mg base (L2N.CX P w) (n + 1) ((Γz K).fa 14) fd ["script"] (spD (Γz K) K 1 (fun ws h => runDf d_law ws (lev defs sub n) h)) := by
  have hN := sc_14.nd
  refine fnok_of (p := ("law", none)) F rfl sc_14 rfl rfl fun A outer s H E hr => ?_
  exact (r_cons (r_sif (r_tnot (q_tru (q_call0 12 (by exact hDs _ (Nat.le_refl _)) hr z.g__law_fixed_right (ltb rfl)))) (r_cons (r_ret r_bl)
  r_nil) r_nil)
  (r_cons (q_set 1 hN (q_call 4 (by exact hDs _ (Nat.le_refl _)) (by exact tk_def) hr z.g__law_cup (ltb rfl) (ra_cons (q_v 0) ra_nil)))
  (r_cons (q_for (by exact hp_def) (q_range1 z.b_range r_int) (q_gv 2 hN) (r_cons (r_sif (r_tnot (q_tru (q_call 13 (by exact hDs _ (Nat.le_refl _)) (by exact tk_def) hr z.g__law_right (ltb rfl) (ra_cons (q_v 1) ra_nil)))) (r_cons (r_ret r_bl)
  r_nil) r_nil)
  r_nil))
  (r_cons (r_ret r_bl)
  r_nil))))
def dd_0 : He.DefD := ⟨("is_row", none), "is_row", "is_row", L2.defArgs (top 11), L2.defBody (top 11), L2.defScope (top 11), [], []⟩
def dd_1 : He.DefD := ⟨("ended", none), "ended", "ended", L2.defArgs (top 14), L2.defBody (top 14), L2.defScope (top 14), [], []⟩
def dd_2 : He.DefD := ⟨("first_end", none), "first_end", "first_end", L2.defArgs (top 15), L2.defBody (top 15), L2.defScope (top 15), [], []⟩
def dd_3 : He.DefD := ⟨("is_plain", none), "is_plain", "is_plain", L2.defArgs (top 16), L2.defBody (top 16), L2.defScope (top 16), [], []⟩
def dd_4 : He.DefD := ⟨("_law_cup", none), "_law_cup", "_law_cup", L2.defArgs (top 18), L2.defBody (top 18), L2.defScope (top 18), [], []⟩
def dd_5 : He.DefD := ⟨("_law_roll", none), "_law_roll", "_law_roll", L2.defArgs (top 19), L2.defBody (top 19), L2.defScope (top 19), [], []⟩
def dd_6 : He.DefD := ⟨("_law_some", none), "_law_some", "_law_some", L2.defArgs (top 20), L2.defBody (top 20), L2.defScope (top 20), [], []⟩
def dd_7 : He.DefD := ⟨("_law_kind", none), "_law_kind", "_law_kind", L2.defArgs (top 21), L2.defBody (top 21), L2.defScope (top 21), [], []⟩
def dd_8 : He.DefD := ⟨("_law_like", none), "_law_like", "_law_like", L2.defArgs (top 22), L2.defBody (top 22), L2.defScope (top 22), [], []⟩
def dd_9 : He.DefD := ⟨("_law_row", none), "_law_row", "_law_row", L2.defArgs (top 23), L2.defBody (top 23), L2.defScope (top 23), [], []⟩
def dd_10 : He.DefD := ⟨("_law_error", none), "_law_error", "_law_error", L2.defArgs (top 24), L2.defBody (top 24), L2.defScope (top 24), [], []⟩
def dd_11 : He.DefD := ⟨("_law_end", none), "_law_end", "_law_end", L2.defArgs (top 25), L2.defBody (top 25), L2.defScope (top 25), [], []⟩
def dd_12 : He.DefD := ⟨("_law_fixed_right", none), "_law_fixed_right", "_law_fixed_right", L2.defArgs (top 26), L2.defBody (top 26), L2.defScope (top 26), [], []⟩
def dd_13 : He.DefD := ⟨("_law_right", none), "_law_right", "_law_right", L2.defArgs (top 27), L2.defBody (top 27), L2.defScope (top 27), [], []⟩
def dd_14 : He.DefD := ⟨("law", none), "law", "law", L2.defArgs (top 28), L2.defBody (top 28), L2.defScope (top 28), [], []⟩
def fn : List He.DefD := ([dd_0, dd_1, dd_2, dd_3, dd_4, dd_5, dd_6, dd_7, dd_8, dd_9, dd_10, dd_11, dd_12, dd_13, dd_14] : List He.DefD)
def fa : List He.Fa := ([.str "DEEDS" "abcdefgh", .free "all", .free "len", .int "LONG_rows" 4000, .free "isinstance", .free "str", .glo "is_row", .free "range", .glo "ended", .int "LONG_plainrows" 400, .exc "InvalidRow", .glo "InvalidRow", .glo "first_end", .glo "is_plain", .free "int", .free "list", .free "abs", .glo "_law_cup", .glo "_law_roll", .glo "_law_some", .free "tuple", .free "bool", .glo "_law_kind", .free "zip", .glo "_law_like", .glo "_law_row", .glo "NotFound", .glo "InvalidMachine", .glo "InvalidTree", .glo "InvalidNumber", .glo "TooMany", .glo "StretchError", .glo "_law_error", .glo "_law_end", .glo "_law_fixed_right", .glo "_law_right", .glo "law"] : List He.Fa)
def exz (K : Fg) : Bool := errB K (Γz K).ca 7 sub
abbrev hk : PySem.W.Hook := He.hookX 5 fa fn [] tf exz
def ob (s : PySem.W.SharedT) : He.AlX := He.obsX 5 fa fn [] tf exz (HandSHeadRun.getT s)
theorem ob_eq (s : PySem.W.SharedT) : ob s = hk.obs s.abs := He.obsX_eq (HandSHeadRun.getT_eq s)
def loose : List Str := (["StretchError", "InvalidNumber", "InvalidRow", "InvalidTree", "InvalidMachine", "NotFound", "TooMany", "DEEDS", "LONG_rows", "is_row", "LONG_plainrows", "ended", "first_end", "is_plain", "_law_cup", "_law_roll", "_law_some", "_law_kind", "_law_like", "_law_row", "_law_error", "_law_end", "_law_fixed_right", "_law_right"] : List Str)
abbrev Rz : PySem.W.OpenRow := PySem.W.OpenLaw.row PySem.Challenge.rw_stretchtwice_k64_whole_plain_rows
theorem run (w : World) : HandSHeadRun.RunEq Rz (PySem.W.view Rz.prog [28]) hk ob 6000 loose w := by
  intro os
  kernel_rfl
theorem fz_of {K : Fg} {h : Heap} {mg : Str → Option Value} (X : K.In h) (G : h.Ns mainGlobals mg) (c : He.SaysD fa fn K) (m : exz K = true) : Fz K mg where
  s_DEEDS := He.str_ok X G (c.fact 0 (f := .str "DEEDS" "abcdefgh") rfl)
  b_all := He.free_ok X G (c.fact 1 (f := .free "all") rfl)
  b_len := He.free_ok X G (c.fact 2 (f := .free "len") rfl)
  i_LONG_rows := He.int_ok X G (c.fact 3 (f := .int "LONG_rows" 4000) rfl)
  b_isinstance := He.free_ok X G (c.fact 4 (f := .free "isinstance") rfl)
  b_str := He.free_ok X G (c.fact 5 (f := .free "str") rfl)
  F_is_row := c.def_ 0 (d := dd_0) rfl
  g_is_row := He.glo_ok X G (c.fact 6 (f := .glo "is_row") rfl)
  b_range := He.free_ok X G (c.fact 7 (f := .free "range") rfl)
  F_ended := c.def_ 1 (d := dd_1) rfl
  g_ended := He.glo_ok X G (c.fact 8 (f := .glo "ended") rfl)
  i_LONG_plainrows := He.int_ok X G (c.fact 9 (f := .int "LONG_plainrows" 400) rfl)
  e_InvalidRow := errC_of X G (c.fact 10 (f := .exc "InvalidRow") rfl) (c.fact 11 (f := .glo "InvalidRow") rfl)
  F_first_end := c.def_ 2 (d := dd_2) rfl
  g_first_end := He.glo_ok X G (c.fact 12 (f := .glo "first_end") rfl)
  F_is_plain := c.def_ 3 (d := dd_3) rfl
  g_is_plain := He.glo_ok X G (c.fact 13 (f := .glo "is_plain") rfl)
  b_int := He.free_ok X G (c.fact 14 (f := .free "int") rfl)
  b_list := He.free_ok X G (c.fact 15 (f := .free "list") rfl)
  b_abs := He.free_ok X G (c.fact 16 (f := .free "abs") rfl)
  F__law_cup := c.def_ 4 (d := dd_4) rfl
  g__law_cup := He.glo_ok X G (c.fact 17 (f := .glo "_law_cup") rfl)
  F__law_roll := c.def_ 5 (d := dd_5) rfl
  g__law_roll := He.glo_ok X G (c.fact 18 (f := .glo "_law_roll") rfl)
  F__law_some := c.def_ 6 (d := dd_6) rfl
  g__law_some := He.glo_ok X G (c.fact 19 (f := .glo "_law_some") rfl)
  b_tuple := He.free_ok X G (c.fact 20 (f := .free "tuple") rfl)
  b_bool := He.free_ok X G (c.fact 21 (f := .free "bool") rfl)
  F__law_kind := c.def_ 7 (d := dd_7) rfl
  g__law_kind := He.glo_ok X G (c.fact 22 (f := .glo "_law_kind") rfl)
  b_zip := He.free_ok X G (c.fact 23 (f := .free "zip") rfl)
  g__law_like := He.glo_ok X G (c.fact 24 (f := .glo "_law_like") rfl)
  F__law_like := c.def_ 8 (d := dd_8) rfl
  F__law_row := c.def_ 9 (d := dd_9) rfl
  g__law_row := He.glo_ok X G (c.fact 25 (f := .glo "_law_row") rfl)
  g_NotFound := He.glo_ok X G (c.fact 26 (f := .glo "NotFound") rfl)
  g_InvalidMachine := He.glo_ok X G (c.fact 27 (f := .glo "InvalidMachine") rfl)
  g_InvalidTree := He.glo_ok X G (c.fact 28 (f := .glo "InvalidTree") rfl)
  g_InvalidRow := He.glo_ok X G (c.fact 11 (f := .glo "InvalidRow") rfl)
  g_InvalidNumber := He.glo_ok X G (c.fact 29 (f := .glo "InvalidNumber") rfl)
  g_TooMany := He.glo_ok X G (c.fact 30 (f := .glo "TooMany") rfl)
  g_StretchError := He.glo_ok X G (c.fact 31 (f := .glo "StretchError") rfl)
  F__law_error := c.def_ 10 (d := dd_10) rfl
  g__law_error := He.glo_ok X G (c.fact 32 (f := .glo "_law_error") rfl)
  F__law_end := c.def_ 11 (d := dd_11) rfl
  g__law_end := He.glo_ok X G (c.fact 33 (f := .glo "_law_end") rfl)
  F__law_fixed_right := c.def_ 12 (d := dd_12) rfl
  g__law_fixed_right := He.glo_ok X G (c.fact 34 (f := .glo "_law_fixed_right") rfl)
  F__law_right := c.def_ 13 (d := dd_13) rfl
  g__law_right := He.glo_ok X G (c.fact 35 (f := .glo "_law_right") rfl)
  F_law := c.def_ 14 (d := dd_14) rfl
  g_law := He.glo_ok X G (c.fact 36 (f := .glo "law") rfl)
  hErr := errB_ok m
theorem all_ok {P : Program} {w : World} {K : Fg} {mg : Str → Option Value} {base : Heap} (z : Fz K mg) (TB : ∀ p ∈ tf, LamX.TabB base mg (He.cT K p).1 (He.cT K p).2) : ∀ n m, m ≤ n → Defs P w K mg base (Γz K) m (lev defs sub m).d := by
  refine defs_all rfl (fun k hk => ?_) fun n hDs k d hd => ?_
  · match k, hk with
    | 0, _ => obtain ⟨fd, F⟩ := z.F_is_row; exact callee_zero (k := 0) (ps := ["value"]) F (F.bindsN (fun _ _ _ _ _ _ us hl => match us, hl with | [_], _ => rfl))
    | 1, _ => obtain ⟨fd, F⟩ := z.F_ended; exact callee_zero (k := 1) (ps := ["row"]) F (F.bindsN (fun _ _ _ _ _ _ us hl => match us, hl with | [_], _ => rfl))
    | 2, _ => obtain ⟨fd, F⟩ := z.F_first_end; exact callee_zero (k := 2) (ps := ["row"]) F (F.bindsN (fun _ _ _ _ _ _ us hl => match us, hl with | [_], _ => rfl))
    | 3, _ => obtain ⟨fd, F⟩ := z.F_is_plain; exact callee_zero (k := 3) (ps := ["row"]) F (F.bindsN (fun _ _ _ _ _ _ us hl => match us, hl with | [_], _ => rfl))
    | 4, _ => obtain ⟨fd, F⟩ := z.F__law_cup; exact callee_zero (k := 4) (ps := ["script"]) F (F.bindsN (fun _ _ _ _ _ _ us hl => match us, hl with | [_], _ => rfl))
    | 5, _ => obtain ⟨fd, F⟩ := z.F__law_roll; exact callee_zero (k := 5) (ps := ["cup", "many"]) F (F.bindsN (fun _ _ _ _ _ _ us hl => match us, hl with | [_, _], _ => rfl))
    | 6, _ => obtain ⟨fd, F⟩ := z.F__law_some; exact callee_zero (k := 6) (ps := ["cup", "things"]) F (F.bindsN (fun _ _ _ _ _ _ us hl => match us, hl with | [_, _], _ => rfl))
    | 7, _ => obtain ⟨fd, F⟩ := z.F__law_kind; exact callee_zero (k := 7) (ps := ["value"]) F (F.bindsN (fun _ _ _ _ _ _ us hl => match us, hl with | [_], _ => rfl))
    | 8, _ => obtain ⟨fd, F⟩ := z.F__law_like; exact callee_zero (k := 8) (ps := ["one", "other"]) F (F.bindsN (fun _ _ _ _ _ _ us hl => match us, hl with | [_, _], _ => rfl))
    | 9, _ => obtain ⟨fd, F⟩ := z.F__law_row; exact callee_zero (k := 9) (ps := ["cup", "deeds", "most"]) F (F.bindsN (fun _ _ _ _ _ _ us hl => match us, hl with | [_, _, _], _ => rfl))
    | 10, _ => obtain ⟨fd, F⟩ := z.F__law_error; exact callee_zero (k := 10) (ps := ["call"]) F (F.bindsN (fun _ _ _ _ _ _ us hl => match us, hl with | [_], _ => rfl))
    | 11, _ => obtain ⟨fd, F⟩ := z.F__law_end; exact callee_zero (k := 11) (ps := ["row"]) F (F.bindsN (fun _ _ _ _ _ _ us hl => match us, hl with | [_], _ => rfl))
    | 12, _ => obtain ⟨fd, F⟩ := z.F__law_fixed_right; exact callee_zero (k := 12) (ps := []) F (F.bindsN (fun _ _ _ _ _ _ us hl => match us, hl with | [], _ => rfl))
    | 13, _ => obtain ⟨fd, F⟩ := z.F__law_right; exact callee_zero (k := 13) (ps := ["cup"]) F (F.bindsN (fun _ _ _ _ _ _ us hl => match us, hl with | [_], _ => rfl))
    | 14, _ => obtain ⟨fd, F⟩ := z.F_law; exact callee_zero (k := 14) (ps := ["script"]) F (F.bindsN (fun _ _ _ _ _ _ us hl => match us, hl with | [_], _ => rfl))
    | n + 15, h => exact absurd h (by show ¬ (n + 15 < 15); omega)
  · match k, hd with
    | 0, e => cases e; obtain ⟨fd, F⟩ := z.F_is_row; exact callee_of (k := 0) (ps := ["value"]) F (F.bindsN (fun _ _ _ _ _ _ us hl => match us, hl with | [_], _ => rfl)) rfl (ok_0 z hDs F)
    | 1, e => cases e; obtain ⟨fd, F⟩ := z.F_ended; exact callee_of (k := 1) (ps := ["row"]) F (F.bindsN (fun _ _ _ _ _ _ us hl => match us, hl with | [_], _ => rfl)) rfl (ok_1 z hDs F)
    | 2, e => cases e; obtain ⟨fd, F⟩ := z.F_first_end; exact callee_of (k := 2) (ps := ["row"]) F (F.bindsN (fun _ _ _ _ _ _ us hl => match us, hl with | [_], _ => rfl)) rfl (ok_2 z hDs F)
    | 3, e => cases e; obtain ⟨fd, F⟩ := z.F_is_plain; exact callee_of (k := 3) (ps := ["row"]) F (F.bindsN (fun _ _ _ _ _ _ us hl => match us, hl with | [_], _ => rfl)) rfl (ok_3 z hDs F)
    | 4, e => cases e; obtain ⟨fd, F⟩ := z.F__law_cup; exact callee_of (k := 4) (ps := ["script"]) F (F.bindsN (fun _ _ _ _ _ _ us hl => match us, hl with | [_], _ => rfl)) rfl (ok_4 z hDs F)
    | 5, e => cases e; obtain ⟨fd, F⟩ := z.F__law_roll; exact callee_of (k := 5) (ps := ["cup", "many"]) F (F.bindsN (fun _ _ _ _ _ _ us hl => match us, hl with | [_, _], _ => rfl)) rfl (ok_5 z hDs F)
    | 6, e => cases e; obtain ⟨fd, F⟩ := z.F__law_some; exact callee_of (k := 6) (ps := ["cup", "things"]) F (F.bindsN (fun _ _ _ _ _ _ us hl => match us, hl with | [_, _], _ => rfl)) rfl (ok_6 z hDs F)
    | 7, e => cases e; obtain ⟨fd, F⟩ := z.F__law_kind; exact callee_of (k := 7) (ps := ["value"]) F (F.bindsN (fun _ _ _ _ _ _ us hl => match us, hl with | [_], _ => rfl)) rfl (ok_7 z hDs F)
    | 8, e => cases e; obtain ⟨fd, F⟩ := z.F__law_like; exact callee_of (k := 8) (ps := ["one", "other"]) F (F.bindsN (fun _ _ _ _ _ _ us hl => match us, hl with | [_, _], _ => rfl)) rfl (ok_8 z hDs F)
    | 9, e => cases e; obtain ⟨fd, F⟩ := z.F__law_row; exact callee_of (k := 9) (ps := ["cup", "deeds", "most"]) F (F.bindsN (fun _ _ _ _ _ _ us hl => match us, hl with | [_, _, _], _ => rfl)) rfl (ok_9 z hDs F)
    | 10, e => cases e; obtain ⟨fd, F⟩ := z.F__law_error; exact callee_of (k := 10) (ps := ["call"]) F (F.bindsN (fun _ _ _ _ _ _ us hl => match us, hl with | [_], _ => rfl)) rfl (ok_10 z hDs F)
    | 11, e => cases e; obtain ⟨fd, F⟩ := z.F__law_end; exact callee_of (k := 11) (ps := ["row"]) F (F.bindsN (fun _ _ _ _ _ _ us hl => match us, hl with | [_], _ => rfl)) rfl (ok_11 z hDs F)
    | 12, e => cases e; obtain ⟨fd, F⟩ := z.F__law_fixed_right; exact callee_of (k := 12) (ps := []) F (F.bindsN (fun _ _ _ _ _ _ us hl => match us, hl with | [], _ => rfl)) rfl (ok_12 z hDs (TB ("_law_fixed_right", none) (by decide)) F)
    | 13, e => cases e; obtain ⟨fd, F⟩ := z.F__law_right; exact callee_of (k := 13) (ps := ["cup"]) F (F.bindsN (fun _ _ _ _ _ _ us hl => match us, hl with | [_], _ => rfl)) rfl (ok_13 z hDs F)
    | 14, e => cases e; obtain ⟨fd, F⟩ := z.F_law; exact callee_of (k := 14) (ps := ["script"]) F (F.bindsN (fun _ _ _ _ _ _ us hl => match us, hl with | [_], _ => rfl)) rfl (ok_14 z hDs F)
    | n + 15, e => cases e
theorem holds {N : Nat} (hr : L2.Room (N + 1) callerA) (hlaw : ∀ ns : List Int, ns.length ≤ 63 → (∀ z ∈ ns, Builtin.Int.intBits z ≤ 1048576) → ∀ o, (o = .ro (ns.map W.int) ∨ o = .lst (ns.map W.int)) → ∃ h', runDf d_law [.ref 0] (lev defs sub N) ⟨1, [o]⟩ = .ok (.bl true) h') : PySem.Challenge.rw_stretchtwice_k64_whole_plain_rows.Holds := by
  w_on; o_law
  refine HandSHeadRun.head_any (r := PySem.W.OpenLaw.row PySem.Challenge.rw_stretchtwice_k64_whole_plain_rows) (q := PySem.W.view (PySem.W.OpenLaw.row PySem.Challenge.rw_stretchtwice_k64_whole_plain_rows).prog [28]) (H := hk) (ob := ob) (M := 6000) (loose := loose) (d := HandSHeadRun.topDef (PySem.W.OpenLaw.row PySem.Challenge.rw_stretchtwice_k64_whole_plain_rows).prog 28) (kwd := []) ob_eq
    (by kernel_rfl) (fun s => by kernel_rfl) run (by kernel_rfl) (by kernel_rfl) (by kernel_rfl) (by rfl) (by first | assumption | decide +kernel) (by decide +kernel) ⟨rfl, rfl, rfl, rfl, rfl, by decide +kernel⟩ ?hw ?hc
  case hw => w_witness2
  case hc =>
    refine LamX.walk_ofTsE (l := PySem.Challenge.rw_stretchtwice_k64_whole_plain_rows) (n := 63) (k := N + 1) (x := "script") (CX := fun w => L2N.CX PySem.Challenge.rw_stretchtwice_k64_whole_plain_rows.prog w) rfl (by decide) (by kernel_rfl) hr ?F (fun _ _ _ _ _ z => cxN_no z)
    intro w mg f h Y G hmg0
    obtain ⟨K, KX, c⟩ := Y
    have hmg : mg ("law" : Str) = some (.ref f) := by
      have e : (HandSHeadRun.topDef (PySem.W.OpenLaw.row PySem.Challenge.rw_stretchtwice_k64_whole_plain_rows).prog 28).name = ("law" : Str) := by kernel_rfl
      rw [← e]
      exact hmg0
    have z : Fz K mg := fz_of KX G c.t.d c.more
    obtain ⟨fd, F⟩ := z.F_law
    have e := hmg.symm.trans z.g_law
    have ef : f = (Γz K).fa 14 := by cases e; rfl
    refine ⟨K, KX, law_at (li := 14) (d := d_law) (c := lev defs sub N) KX c F ef (fun _ _ _ _ _ _ us hl => match us, hl with | [_], _ => rfl) rfl rfl rfl ?_ hlaw fun base k1 k2 TB => ok_14 z (all_ok z TB N) F⟩
    intro p hp
    exact hT_mem p hp
end Lk64

theorem PySem.Challenge.cw_stretchtwice_k64_whole_plain_rows_holds : PySem.Challenge.rw_stretchtwice_k64_whole_plain_rows.Holds := by
  exact Lk64.holds (N := 11) ⟨rfl, by decide, by decide⟩ fun ns hl _ o ho => Mk64.law_ok ns hl o ho
