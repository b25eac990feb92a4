import PyProof.Rows.All
import Wide.All
import OpenK.AllK
import Wide.FinOn
import HandS.ForMost
import HandS.ForExc
import HandS.Flow
import HandS.Style
import HandS.TupAny
import HandS.Zip
import HandS.CallSlots
import HandS.CallLocal
import HandS.Defaults
import HandS.TryMany
import HandS.ExcIs
import HandS.Lambda
import HandS.IsInst
import KE.DataCmp
import KE.DataMinMax
import KE.DataFind
import KE.DataAny
import KE.DataIsa
import KE.SortData
import HandS.Wide
import PyProof.MinMaxWalk
import HandS.TupMul
import HandS.RaiseMore
import HandS.Conv
import HandS.WordsExc
import HandS.ExcCtx
import HandS.ExcOwn
import HandS.HeadHook1
import KE.GoesZip
import KE.GoesEnum
import KE.GoesMore
import HandS.Iter
import HandS.Hot
import HandS.HotCalls
import HandS.Comp
import HandS.SortInts
import HandS.Text
import KE.KDictZip
import PyProof.ListNew
import HandS.ExcValue
import HandS.TupSets
import HandS.Head0
import HandS.Head1
import HandS.Head2
import HandS.HeadEnd
import HandS.HeadHook2
import HandS.HeadHook3
import HandS.HeadHook4
import HandS.HeadWalk
import KE.KStateDown
import PySem.Challenge.RW_leadlights_k81_whole_errors_of_outlines
/-! Ev: an executable meaning for a part of Python, in plain Lean: data, cells that change, denotations. -/
set_option autoImplicit false
namespace Py

/-- data: what never changes -/
inductive D where
  | non | bl (b : Bool) | int (i : Int) | str (s : List Nat) | tup (xs : List D) | lst (xs : List D) | dct (ks vs : List D) | fn (f : Nat)
  deriving Inhabited

/-! ### forcing, for the kernel's sake: each of these hands its argument on -/
section
variable {α : Type}
def frNat : Nat → (Nat → α) → α
  | 0, k => k 0
  | n + 1, k => k (n + 1)
def frInt : Int → (Int → α) → α
  | .ofNat n, k => frNat n fun n => k (.ofNat n)
  | .negSucc n, k => frNat n fun n => k (.negSucc n)
def frBool : Bool → (Bool → α) → α
  | true, k => k true
  | false, k => k false
def frD : D → (D → α) → α
  | .non, k => k .non
  | .bl b, k => frBool b fun b => k (.bl b)
  | .int i, k => frInt i fun i => k (.int i)
  | .str s, k => k (.str s)
  | .tup xs, k => k (.tup xs)
  | .lst xs, k => k (.lst xs)
  | .dct ks vs, k => k (.dct ks vs)
  | .fn f, k => k (.fn f)
def frL {β : Type} : List β → (List β → α) → α
  | [], k => k []
  | x :: xs, k => frL xs fun ys => k (x :: ys)
@[simp] theorem frNat_eq (n : Nat) (k : Nat → α) : frNat n k = k n := by cases n <;> rfl
@[simp] theorem frInt_eq (i : Int) (k : Int → α) : frInt i k = k i := by cases i <;> simp [frInt]
@[simp] theorem frBool_eq (b : Bool) (k : Bool → α) : frBool b k = k b := by cases b <;> rfl
@[simp] theorem frD_eq (d : D) (k : D → α) : frD d k = k d := by cases d <;> simp [frD]
@[simp] theorem frL_eq {β : Type} (xs : List β) (k : List β → α) : frL xs k = k xs := by
  induction xs generalizing k with
  | nil => rfl
  | cons x xs ih => simp [frL, ih]
end

/-! ### ints, texts -/
def ieq : Int → Int → Bool
  | .ofNat a, .ofNat b => Nat.beq a b
  | .negSucc a, .negSucc b => Nat.beq a b
  | _, _ => false
def ilt : Int → Int → Bool
  | .ofNat a, .ofNat b => Nat.blt a b
  | .negSucc a, .negSucc b => Nat.blt b a
  | .negSucc _, .ofNat _ => true
  | .ofNat _, .negSucc _ => false
theorem ieq_eq (i j : Int) : ieq i j = decide (i = j) := by
  cases i with
  | ofNat a => cases j with
    | ofNat b => exact Bool.eq_iff_iff.mpr ⟨fun h => decide_eq_true (congrArg Int.ofNat (Nat.eq_of_beq_eq_true h)), fun h => by have := Int.ofNat.inj (of_decide_eq_true h); subst this; exact Nat.beq_refl a⟩
    | negSucc b => exact (decide_eq_false (fun h => nomatch h)).symm
  | negSucc a => cases j with
    | ofNat b => exact (decide_eq_false (fun h => nomatch h)).symm
    | negSucc b => exact Bool.eq_iff_iff.mpr ⟨fun h => decide_eq_true (congrArg Int.negSucc (Nat.eq_of_beq_eq_true h)), fun h => by have := Int.negSucc.inj (of_decide_eq_true h); subst this; exact Nat.beq_refl a⟩
theorem blt_eq (a b : Nat) : Nat.blt a b = decide (a < b) := by
  cases h : Nat.blt a b with
  | true => exact (decide_eq_true (Nat.blt_eq.mp h)).symm
  | false => exact (decide_eq_false fun q => by rw [Nat.blt_eq.mpr q] at h; cases h).symm
theorem ilt_eq (i j : Int) : ilt i j = decide (i < j) := by
  cases i with
  | ofNat a => cases j with
    | ofNat b => show Nat.blt a b = _; rw [blt_eq]; exact decide_eq_decide.mpr Int.ofNat_lt.symm
    | negSucc b => exact (decide_eq_false (fun h => by have h : Int.ofNat a < Int.negSucc b := h; rw [Int.negSucc_eq] at h; have : (0 : Int) ≤ Int.ofNat a := Int.natCast_nonneg a; omega)).symm
  | negSucc a => cases j with
    | ofNat b => exact (decide_eq_true (by rw [Int.negSucc_eq]; have : (0 : Int) ≤ Int.ofNat b := Int.natCast_nonneg b; omega)).symm
    | negSucc b => show Nat.blt b a = _; rw [blt_eq]; exact decide_eq_decide.mpr (by rw [Int.negSucc_eq, Int.negSucc_eq]; omega)
def seq : List Nat → List Nat → Bool
  | [], [] => true
  | a :: x, b :: y => Nat.beq a b && seq x y
  | _, _ => false
def slt : List Nat → List Nat → Bool
  | [], _ :: _ => true
  | _, [] => false
  | a :: x, b :: y => if Nat.beq a b then slt x y else Nat.blt a b
theorem seq_eq : ∀ x y : List Nat, seq x y = decide (x = y)
  | [], [] => rfl
  | [], _ :: _ => rfl
  | _ :: _, [] => rfl
  | a :: x, b :: y => by
    rw [seq, seq_eq x y, Bool.eq_iff_iff]
    simp [Nat.beq_eq]

/-! ### comparisons of data -/
namespace D
mutual
/-- ==, as Python has it, of data without dicts and defs -/
def eqv : D → D → Bool
  | .non, .non => true
  | .bl a, .bl b => a == b
  | .bl a, .int j => ieq (if a then 1 else 0) j
  | .int i, .bl b => ieq i (if b then 1 else 0)
  | .int i, .int j => ieq i j
  | .str x, .str y => seq x y
  | .lst xs, .lst ys => eqvAll xs ys
  | .tup xs, .tup ys => eqvAll xs ys
  | _, _ => false
def eqvAll : List D → List D → Bool
  | [], [] => true
  | x :: xs, y :: ys => eqv x y && eqvAll xs ys
  | _, _ => false
end
mutual
/-- no dict, no def within; nested so deep at most -/
def okd : Nat → D → Bool
  | _, .non => true
  | _, .bl _ => true
  | _, .int _ => true
  | _, .str _ => true
  | 0, _ => false
  | n + 1, .tup xs => okdAll n xs
  | n + 1, .lst xs => okdAll n xs
  | _, .dct _ _ => false
  | _, .fn _ => false
def okdAll : Nat → List D → Bool
  | _, [] => true
  | n, x :: xs => okd n x && okdAll n xs
end
mutual
/-- the two can be compared by < -/
def alike : D → D → Bool
  | .non, .non => true
  | .bl _, .bl _ => true
  | .int _, .int _ => true
  | .str _, .str _ => true
  | .lst xs, .lst ys => alikeAll xs ys
  | .tup xs, .tup ys => alikeAll xs ys
  | _, _ => false
def alikeAll : List D → List D → Bool
  | x :: xs, y :: ys => alike x y && alikeAll xs ys
  | [], _ => true
  | _ :: _, [] => true
end
mutual
/-- <, of alike data -/
def lt : D → D → Bool
  | .bl a, .bl b => !a && b
  | .int i, .int j => ilt i j
  | .str x, .str y => slt x y
  | .lst xs, .lst ys => ltAll xs ys
  | .tup xs, .tup ys => ltAll xs ys
  | _, _ => false
def ltAll : List D → List D → Bool
  | x :: xs, y :: ys => if eqv x y then ltAll xs ys else lt x y
  | [], _ :: _ => true
  | _, [] => false
end
def isNon : D → Bool
  | .non => true
  | _ => false
/-- how deep data may be -/
def deep : Nat := 40
def truthy : D → Option Bool
  | .non => some false
  | .bl b => some b
  | .int i => some (!ieq i 0)
  | .str s => if Nat.ble s.length 16777216 then some (!s.isEmpty) else none
  | .tup xs => some (!xs.isEmpty)
  | .lst xs => some (!xs.isEmpty)
  | .dct _ _ => none
  | .fn _ => none
def mem (x : D) : List D → Bool
  | [] => false
  | y :: ys => eqv y x || mem x ys
/-- a kind of which any two are alike; none: not told -/
inductive Ty where
  | bl | int | str | rows (t : Ty) | het (ts : List Ty)
mutual
def Ty.same : Ty → Ty → Bool
  | .bl, .bl => true
  | .int, .int => true
  | .str, .str => true
  | .rows s, .rows t => Ty.same s t
  | .het ss, .het ts => Ty.sameAll ss ts
  | _, _ => false
def Ty.sameAll : List Ty → List Ty → Bool
  | [], [] => true
  | s :: ss, t :: ts => Ty.same s t && Ty.sameAll ss ts
  | _, _ => false
end
def Ty.all (t : Ty) : List Ty → Bool
  | [] => true
  | s :: ss => Ty.same s t && Ty.all t ss
mutual
def ty : D → Option Ty
  | .bl _ => some .bl
  | .int _ => some .int
  | .str _ => some .str
  | .tup xs => match tys xs with
    | some (t :: ts) => some (if Ty.all t ts then .rows t else .het (t :: ts))
    | _ => none
  | _ => none
def tys : List D → Option (List Ty)
  | [] => some []
  | x :: xs => match ty x with
    | some t => (match tys xs with
      | some ts => some (t :: ts)
      | none => none)
    | none => none
end
/-- data that can be sorted, or asked for the least: all of one kind -/
def sortable (xs : List D) : Bool := match xs with
  | [] => true
  | x :: xs => match ty x with
    | some t => (match tys xs with
      | some ts => Ty.all t ts && (okd deep x && okdAll deep xs)
      | none => false)
    | none => false
end D

/-! ### what changes: cells told by their numbers -/
structure Exn where
  cls : Nat
  arg : Option Int
inductive MO where
  | ml (xs : List D) | md (ks vs : List D) | mdl (ks : List D) (vs : List (List D)) | lk (xs : List D) | lkl (ks : List D) (vs : List (List D)) | fz (xs : List D) | gone
abbrev Heap := List MO
inductive Res (α : Type) where
  | ok (a : α) (h : Heap) | exc (x : Exn) (h : Heap) | stuck
/-- what a name holds, or an expression gives: data; data in a new object that nothing else knows; a cell; a lambda; an exception -/
inductive Sl where
  | no | d (x : D) | f (x : D) | m (i : Nat) | clo (f : Heap → Res D) | ex (x : Exn)
abbrev Ev := List Sl
abbrev CallF := Nat → List Sl → Heap → Res Sl
abbrev Dn := CallF → Ev → Heap → Res Sl
abbrev Tn := CallF → Ev → Heap → Res Bool
abbrev An := CallF → Ev → Heap → Res (List Sl)
/-- what is walked: the items, and the cell that is walked -/
abbrev In := CallF → Ev → Heap → Res (List D × Option Nat)
abbrev Gn := D → Ev → Option Ev
inductive SRes where
  | nx (e : Ev) (h : Heap) | ct (e : Ev) (h : Heap) | ret (x : Sl) (h : Heap) | exc (x : Exn) (e : Ev) (h : Heap) | stuck
abbrev Sn := CallF → Ev → Heap → SRes

section
variable {α β : Type}
def Res.bind (r : Res α) (k : α → Heap → Res β) : Res β := match r with
  | .ok a h => k a h
  | .exc x h => .exc x h
  | .stuck => .stuck
def Res.of (o : Option α) (k : α → Res β) : Res β := match o with
  | some a => k a
  | none => .stuck
def nth : List α → Nat → Option α
  | [], _ => none
  | x :: _, 0 => some x
  | _ :: xs, n + 1 => nth xs n
def setAt : List α → Nat → α → List α
  | [], _, _ => []
  | _ :: xs, 0, v => v :: xs
  | x :: xs, n + 1, v => x :: setAt xs n v
theorem nth_eq : ∀ (xs : List α) (n : Nat), nth xs n = xs[n]?
  | [], n => by simp [nth]
  | x :: _, 0 => rfl
  | _ :: xs, n + 1 => by rw [nth, nth_eq xs n]; rfl
theorem setAt_eq : ∀ (xs : List α) (n : Nat) (v : α), setAt xs n v = xs.set n v
  | [], n, v => by simp [setAt]
  | _ :: _, 0, v => rfl
  | _ :: xs, n + 1, v => by rw [setAt, setAt_eq xs n v]; rfl
end
/-- what a name holds, read -/
def rd : Sl → Heap → Option D
  | .d x, _ => some x
  | .f x, _ => some x
  | .m i, h => match nth h i with
    | some (.ml xs) => some (.lst xs)
    | some (.lk xs) => some (.lst xs)
    | some (.md ks vs) => some (.dct ks vs)
    | _ => none
  | _, _ => none
/-- a whole line of read values -/
def rds : List Sl → Heap → Option (List D)
  | [], _ => some []
  | x :: xs, h => match rd x h with
    | some d => (match rds xs h with
      | some ds => some (d :: ds)
      | none => none)
    | none => none
/-- data alone -/
def pds : List Sl → Option (List D)
  | [] => some []
  | x :: xs => match x with
    | .d x => (match pds xs with
      | some ds => some (x :: ds)
      | none => none)
    | _ => none
/-- data, new or not -/
def pd : Sl → Option D
  | .d x => some x
  | _ => none
/-- as data, whether new or not -/
def ofS (x : Sl) : Sl := match x with
  | .f x => .d x
  | x => x

/-! ### expressions -/
def eVar (i : Nat) : Dn := fun _ env h => match nth env i with
  | some .no => .stuck
  | some x => .ok x h
  | none => .stuck
def eCst (d : D) : Dn := fun _ _ h => .ok (.d d) h
def op1 (f : D → Option D) (a : Dn) : Dn := fun cf env h => (a cf env h).bind fun x h1 => Res.of (rd x h1) fun u => Res.of (f u) fun r => .ok (.d r) h1
def op2 (f : D → D → Option D) (a b : Dn) : Dn := fun cf env h => (a cf env h).bind fun x h1 => (b cf env h1).bind fun y h2 =>
  Res.of (rd x h2) fun u => Res.of (rd y h2) fun v => Res.of (f u v) fun r => .ok (.d r) h2
/-- a list's longest length -/
def line : Nat := 16777216
def small (i : Int) : Bool := Nat.blt i.natAbs 18446744073709551616
def vAdd : D → D → Option D
  | .int i, .int j => frInt (i + j) fun k => some (.int k)
  | .str x, .str y => if Nat.ble (x.length + y.length) line then some (.str (x ++ y)) else none
  | .lst x, .lst y => if Nat.ble (x.length + y.length) line then some (.lst (x ++ y)) else none
  | .tup x, .tup y => if Nat.ble (x.length + y.length) line then some (.tup (x ++ y)) else none
  | _, _ => none
def vSub : D → D → Option D
  | .int i, .int j => frInt (i - j) fun k => some (.int k)
  | _, _ => none
def reps {α : Type} (xs : List α) : Nat → List α
  | 0 => []
  | n + 1 => xs ++ reps xs n
def vMul : D → D → Option D
  | .int i, .int j => if small i || small j then frInt (i * j) fun k => some (.int k) else none
  | .lst x, .int j => if Nat.ble (x.length * j.toNat) line && Nat.blt j.natAbs 9223372036854775808 then some (.lst (reps x j.toNat)) else none
  | .tup x, .int j => if ilt 1 j && (ilt j 1001 && (Nat.ble x.length 1000 && !x.isEmpty)) then some (.tup (reps x j.toNat)) else none
  | _, _ => none
def vFdiv : D → D → Option D
  | .int i, .int j => if ieq j 0 || !Nat.blt j.natAbs 1073741824 then none else frInt (i.fdiv j) fun k => some (.int k)
  | _, _ => none
def vMod : D → D → Option D
  | .int i, .int j => if ieq j 0 then none else frInt (i.fmod j) fun k => some (.int k)
  | _, _ => none
def vPow : D → D → Option D
  | .int i, .int j => if ilt j 0 || (ilt 1000 j || !small i) then none else frInt (i ^ j.toNat) fun k => some (.int k)
  | _, _ => none
def vNeg : D → Option D
  | .int i => frInt (-i) fun k => some (.int k)
  | _ => none
def vNot (x : D) : Option D := match x.truthy with
  | some b => some (.bl (!b))
  | none => none

/-! comparisons -/
def both (x y : D) : Bool := x.okd D.deep && y.okd D.deep
def cEq (x y : D) : Option Bool := if both x y then some (x.eqv y) else none
def cNe (x y : D) : Option Bool := match cEq x y with
  | some b => some (!b)
  | none => none
def ord (x y : D) : Bool := x.alike y && (both x y && !x.isNon)
def cLt (x y : D) : Option Bool := if ord x y then some (x.lt y) else none
def cGt (x y : D) : Option Bool := if ord x y then some (y.lt x) else none
def cLe (x y : D) : Option Bool := if ord x y then some (!y.lt x) else none
def cGe (x y : D) : Option Bool := if ord x y then some (!x.lt y) else none
/-- what may be a dict's key: whole numbers and texts; or rows of such -/
def flatKey : D → Bool
  | .int _ => true
  | .str _ => true
  | _ => false
def rowKey : D → Bool
  | .tup xs => xs.all flatKey
  | _ => false
/-- one may be asked for among the keys -/
def keyFor (k : D) (ks : List D) : Bool := (flatKey k && ks.all flatKey) || (rowKey k && ks.all rowKey)
def look (k : D) : List D → List D → Option D
  | k' :: ks, v :: vs => if k'.eqv k then some v else look k ks vs
  | _, _ => none
def sign1 : List Nat → Option Nat
  | [c] => some c
  | _ => none
def inS (c : Nat) : List Nat → Bool
  | [] => false
  | a :: x => Nat.beq a c || inS c x
def cIn : D → D → Option Bool
  | x, .lst ys => if x.okd D.deep && D.okdAll D.deep ys then some (D.mem x ys) else none
  | x, .tup ys => if x.okd D.deep && D.okdAll D.deep ys then some (D.mem x ys) else none
  | .str x, .str y => match sign1 x with
    | some c => some (inS c y)
    | none => none
  | _, _ => none
def cNotIn (x y : D) : Option Bool := match cIn x y with
  | some b => some (!b)
  | none => none
def cIs : D → D → Option Bool
  | x, .non => some x.isNon
  | .bl a, .bl b => some (a == b)
  | _, _ => none
def cIsNot (x y : D) : Option Bool := match cIs x y with
  | some b => some (!b)
  | none => none
def eCmp (c : D → D → Option Bool) : Dn → Dn → Dn := op2 fun x y => match c x y with
  | some b => some (.bl b)
  | none => none
def eChain (c c' : D → D → Option Bool) (a b e : Dn) : Dn := fun cf env h => (a cf env h).bind fun x h1 => (b cf env h1).bind fun y h2 =>
  Res.of (rd x h2) fun u => Res.of (rd y h2) fun v => Res.of (c u v) fun k => match k with
    | true => (e cf env h2).bind fun z h3 => Res.of (rd y h3) fun v => Res.of (rd z h3) fun w => Res.of (c' v w) fun k => .ok (.d (.bl k)) h3
    | false => .ok (.d (.bl false)) h2

/-! truth, tests -/
def tru (x : Sl) (h : Heap) : Option Bool := match rd x h with
  | some d => d.truthy
  | none => none
def tVal (a : Dn) : Tn := fun cf env h => (a cf env h).bind fun x h1 => Res.of (tru x h1) fun b => .ok b h1
def tAnd (a b : Tn) : Tn := fun cf env h => (a cf env h).bind fun x h1 => match x with
  | true => b cf env h1
  | false => .ok false h1
def tOr (a b : Tn) : Tn := fun cf env h => (a cf env h).bind fun x h1 => match x with
  | true => .ok true h1
  | false => b cf env h1
def tNot (a : Tn) : Tn := fun cf env h => (a cf env h).bind fun x h1 => .ok (!x) h1
def tIfe (c a b : Tn) : Tn := fun cf env h => (c cf env h).bind fun x h1 => match x with
  | true => a cf env h1
  | false => b cf env h1
def eAnd (a b : Dn) : Dn := fun cf env h => (a cf env h).bind fun x h1 => Res.of (tru x h1) fun k => match k with
  | true => b cf env h1
  | false => .ok x h1
def eOr (a b : Dn) : Dn := fun cf env h => (a cf env h).bind fun x h1 => Res.of (tru x h1) fun k => match k with
  | true => .ok x h1
  | false => b cf env h1
def eIfe (c : Tn) (a b : Dn) : Dn := fun cf env h => (c cf env h).bind fun x h1 => match x with
  | true => a cf env h1
  | false => b cf env h1

/-! argument lists, displays -/
def aNil : An := fun _ _ h => .ok [] h
def aCons (a : Dn) (r : An) : An := fun cf env h => (a cf env h).bind fun x h1 => (r cf env h1).bind fun xs h2 => .ok (x :: xs) h2
def eTup (as : An) : Dn := fun cf env h => (as cf env h).bind fun xs h1 => Res.of (pds xs) fun ds => if Nat.ble ds.length line then .ok (.d (.tup ds)) h1 else .stuck
def eLst (as : An) : Dn := fun cf env h => (as cf env h).bind fun xs h1 => Res.of (pds xs) fun ds => if Nat.ble ds.length line then .ok (.d (.lst ds)) h1 else .stuck
/-- a key more, or another value of a key -/
def putK (k v : D) : List D → List D → List D × List D
  | k' :: ks, u :: vs => if k'.eqv k then (k' :: ks, v :: vs) else match putK k v ks vs with
    | (a, b) => (k' :: a, u :: b)
  | _, _ => ([k], [v])
/-- keys and values, one pair after the other -/
def putAll : List D → List D → List D → List D → Option (List D × List D)
  | k :: ks, v :: vs, as, bs => if keyFor k as then (match putK k v as bs with
    | (a, b) => putAll ks vs a b) else none
  | [], [], as, bs => some (as, bs)
  | _, _, _, _ => none
def mkDct (ks vs : List D) : Option D := match putAll ks vs [] [] with
  | some (a, b) => some (.dct a b)
  | none => none
/-- a written dict: keys and values in turn -/
def eDct (as : An) : Dn := fun cf env h => (as cf env h).bind fun xs h1 => Res.of (pds xs) fun ds =>
  let rec split : List D → Option (List D × List D)
    | k :: v :: r => (match split r with
      | some (a, b) => some (k :: a, v :: b)
      | none => none)
    | [] => some ([], [])
    | _ => none
  Res.of (split ds) fun p => Res.of (mkDct p.1 p.2) fun d => .ok (.d d) h1

/-! places, slices -/
/-- the place that an index tells -/
def place (n : Nat) (i : Int) : Option Nat := match i with
  | .ofNat k => if Nat.blt k n then some k else none
  | .negSucc k => if Nat.blt k n then some (n - (k + 1)) else none
def vIdx : D → D → Option D
  | .lst xs, .int i => match place xs.length i with
    | some k => nth xs k
    | none => none
  | .tup xs, .int i => match place xs.length i with
    | some k => nth xs k
    | none => none
  | .str s, .int i => if Nat.ble s.length line then (match place s.length i with
    | some k => (match nth s k with
      | some c => some (.str [c])
      | none => none)
    | none => none) else none
  | _, _ => none
/-- a slice's end -/
def clip (n : Nat) (dflt : Nat) : Option Int → Nat
  | none => dflt
  | some (.ofNat k) => if Nat.ble k n then k else n
  | some (.negSucc k) => if Nat.blt k n then n - (k + 1) else 0
def cut {α : Type} (xs : List α) (lo hi : Option Int) : List α :=
  let n := xs.length
  frNat (clip n 0 lo) fun a => frNat (clip n n hi) fun b => (xs.drop a).take (b - a)
def vCut (x : D) (lo hi : Option Int) : Option D := match x with
  | .lst xs => some (.lst (cut xs lo hi))
  | .tup xs => some (.tup (cut xs lo hi))
  | _ => none
def oNone : CallF → Ev → Heap → Res (Option Int) := fun _ _ h => .ok none h
def oSome (a : Dn) : CallF → Ev → Heap → Res (Option Int) := fun cf env h => (a cf env h).bind fun x h1 => match x with
  | .d (.int i) => .ok (some i) h1
  | _ => .stuck
def eCut (a : Dn) (lo hi : CallF → Ev → Heap → Res (Option Int)) : Dn := fun cf env h => (a cf env h).bind fun x h1 => (lo cf env h1).bind fun l h2 => (hi cf env h2).bind fun u h3 =>
  Res.of (rd x h3) fun d => Res.of (vCut d l u) fun r => .ok (.d r) h3
def vRev : D → Option D
  | .lst xs => some (.lst xs.reverse)
  | .tup xs => some (.tup xs.reverse)
  | .str xs => some (.str xs.reverse)
  | _ => none

/-! ### targets -/
def gName (i : Nat) : Gn := fun d env => frD d fun d => some (setAt env i (.d d))
def gNil : List D → Ev → Option Ev := fun ds env => match ds with
  | [] => some env
  | _ => none
def gCons (g : Gn) (r : List D → Ev → Option Ev) : List D → Ev → Option Ev := fun ds env => match ds with
  | d :: ds => (match g d env with
    | some env => r ds env
    | none => none)
  | [] => none
def gTup (g : List D → Ev → Option Ev) : Gn := fun d env => match d with
  | .tup ds => g ds env
  | _ => none

/-! ### what is walked -/
def itemsOf : D → Option (List D)
  | .lst xs => some xs
  | .tup xs => some xs
  | .str s => some (s.map fun c => .str [c])
  | _ => none
def lock (x : Sl) (h : Heap) : Res (List D × Option Nat) := match x with
  | .d d => Res.of (itemsOf d) fun xs => .ok (xs, none) h
  | .m i => (match nth h i with
    | some (.ml xs) => .ok (xs, some i) (setAt h i (.lk xs))
    | some (.lk xs) => .ok (xs, none) h
    | _ => .stuck)
  | _ => .stuck
def unlock (l : Option Nat) (h : Heap) : Heap := match l with
  | none => h
  | some i => match nth h i with
    | some (.lk xs) => setAt h i (.ml xs)
    | some (.lkl ks vs) => setAt h i (.mdl ks vs)
    | _ => h
def iVal (a : Dn) : In := fun cf env h => (a cf env h).bind fun x h1 => lock x h1
def upFrom (i : Int) : Nat → List D
  | 0 => []
  | n + 1 => .int i :: upFrom (i + 1) n
/-- range's ints are told only so far -/
def rngOk (i j : Int) : Bool := Nat.blt i.natAbs 2305843009213693952 && Nat.blt j.natAbs 2305843009213693952
def iRng1 (a : Dn) : In := fun cf env h => (a cf env h).bind fun x h1 => match x with
  | .d (.int j) => if rngOk 0 j then .ok (upFrom 0 j.toNat, none) h1 else .stuck
  | _ => .stuck
def iRng2 (a b : Dn) : In := fun cf env h => (a cf env h).bind fun x h1 => (b cf env h1).bind fun y h2 => match x, y with
  | .d (.int i), .d (.int j) => if rngOk i j then .ok (upFrom i (j - i).toNat, none) h2 else .stuck
  | _, _ => .stuck
def zipD : List D → List D → List D
  | x :: xs, y :: ys => .tup [x, y] :: zipD xs ys
  | _, _ => []
def seqOf : D → Option (List D)
  | .lst xs => some xs
  | .tup xs => some xs
  | _ => none
/-- the items of what is walked, and the cell that has to be kept -/
def src (x : Sl) (h : Heap) : Option (List D × Option Nat) := match x with
  | .d d => (match seqOf d with
    | some xs => some (xs, none)
    | none => none)
  | .m i => (match nth h i with
    | some (.ml xs) => some (xs, some i)
    | some (.lk xs) => some (xs, none)
    | _ => none)
  | _ => none
def lockAt (l : Option Nat) (xs : List D) (h : Heap) : Heap := match l with
  | none => h
  | some i => setAt h i (.lk xs)
def iZip (a b : Dn) : In := fun cf env h => (a cf env h).bind fun x h1 => (b cf env h1).bind fun y h2 =>
  Res.of (src x h2) fun p => Res.of (src y h2) fun q => match p.2, q.2 with
    | none, l => .ok (zipD p.1 q.1, l) (lockAt l q.1 h2)
    | l, none => .ok (zipD p.1 q.1, l) (lockAt l p.1 h2)
    | _, _ => .stuck
def enumD (i : Int) : List D → List D
  | x :: xs => .tup [.int i, x] :: enumD (i + 1) xs
  | [] => []
def iEnum (a : Dn) : In := fun cf env h => (a cf env h).bind fun x h1 => Res.of (src x h1) fun p => .ok (enumD 0 p.1, p.2) (lockAt p.2 p.1 h1)

/-- x[k], x a dict of lists of its own: walked -/
def lookL (k : D) : List D → List (List D) → Option (List D)
  | k' :: ks, v :: vs => if k'.eqv k then some v else lookL k ks vs
  | _, _ => none
def iLL (i : Nat) (k : Dn) : In := fun cf env h => match nth env i with
  | some (.m c) => (k cf env h).bind fun x h1 => Res.of (pd x) fun k => (match nth h1 c with
    | some (.mdl ks vs) => if keyFor k ks then Res.of (lookL k ks vs) fun xs => .ok (xs, some c) (setAt h1 c (.lkl ks vs)) else .stuck
    | _ => .stuck)
  | _ => .stuck

/-! ### comprehensions: an exception out of one is not told -/
def compLoop (g : Gn) (t : Tn) (e : Dn) (cf : CallF) (env : Ev) : List D → Heap → Res (List D)
  | [], h => .ok [] h
  | x :: xs, h => Res.of (g x env) fun env' => match t cf env' h with
    | .ok false h1 => compLoop g t e cf env xs h1
    | .ok true h1 => (match e cf env' h1 with
      | .ok x h2 => Res.of (pd x) fun d => (compLoop g t e cf env xs h2).bind fun ds h3 => .ok (d :: ds) h3
      | _ => .stuck)
    | _ => .stuck
def tYes : Tn := fun _ _ h => .ok true h
/-- the block's own names are not yet bound -/
def wipeE : List Nat → Ev → Ev
  | [], env => env
  | i :: is, env => setAt (wipeE is env) i .no
/-- [e for g in i if t] -/
def eComp (vs : List Nat) (i : In) (g : Gn) (t : Tn) (e : Dn) : Dn := fun cf env h => (i cf env h).bind fun p h1 => (compLoop g t e cf (wipeE vs env) p.1 h1).bind fun ds h2 =>
  if Nat.ble ds.length line then .ok (.d (.lst ds)) (unlock p.2 h2) else .stuck
/-- [e for g in i if t for g' in i' if t'] -/
def compLoop2 (g : Gn) (t : Tn) (i' : In) (g' : Gn) (t' : Tn) (e : Dn) (cf : CallF) (env : Ev) : List D → Heap → Res (List D)
  | [], h => .ok [] h
  | x :: xs, h => Res.of (g x env) fun env' => match t cf env' h with
    | .ok false h1 => compLoop2 g t i' g' t' e cf env xs h1
    | .ok true h1 => (match i' cf env' h1 with
      | .ok (ys, none) h2 => (match compLoop g' t' e cf env' ys h2 with
        | .ok ds h3 => (compLoop2 g t i' g' t' e cf env xs h3).bind fun es h4 => .ok (ds ++ es) h4
        | _ => .stuck)
      | _ => .stuck)
    | _ => .stuck
def eComp2 (vs : List Nat) (i : In) (g : Gn) (t : Tn) (i' : In) (g' : Gn) (t' : Tn) (e : Dn) : Dn := fun cf env h => (i cf env h).bind fun p h1 => (compLoop2 g t i' g' t' e cf (wipeE vs env) p.1 h1).bind fun ds h2 =>
  if Nat.ble ds.length line then .ok (.d (.lst ds)) (unlock p.2 h2) else .stuck
/-- {k: v for g in i} -/
def dcompLoop (g : Gn) (k v : Dn) (cf : CallF) (env : Ev) : List D → Heap → List D → List D → Res (List D × List D)
  | [], h, as, bs => .ok (as, bs) h
  | x :: xs, h, as, bs => Res.of (g x env) fun env' => match k cf env' h with
    | .ok k' h1 => (match v cf env' h1 with
      | .ok v' h2 => Res.of (pd k') fun k' => Res.of (pd v') fun v' => if keyFor k' as then (match putK k' v' as bs with
        | (a, b) => dcompLoop g k v cf env xs h2 a b) else .stuck
      | _ => .stuck)
    | _ => .stuck
def eDcomp (vs : List Nat) (i : In) (g : Gn) (k v : Dn) : Dn := fun cf env h => (i cf env h).bind fun p h1 => (dcompLoop g k v cf (wipeE vs env) p.1 h1 [] []).bind fun q h2 =>
  if Nat.ble q.1.length line then .ok (.d (.dct q.1 q.2)) (unlock p.2 h2) else .stuck

/-! ### built-in calls of data -/
def vLen : D → Option D
  | .str s => if Nat.ble s.length line then some (.int s.length) else none
  | .tup s => some (.int s.length)
  | .lst s => some (.int s.length)
  | _ => none
def vAbs : D → Option D
  | .int i => frNat i.natAbs fun n => some (.int n)
  | _ => none
/-- no list: what is told again is the same thing -/
def noLst : D → Bool
  | .lst _ => false
  | .dct _ _ => false
  | _ => true
def vMin2 (x y : D) : Option D := if noLst x && noLst y then (match cLt y x with
  | some true => some y
  | some false => some x
  | none => none) else none
def vMax2 (x y : D) : Option D := if noLst x && noLst y then (match cGt y x with
  | some true => some y
  | some false => some x
  | none => none) else none
def least (x : D) : List D → D
  | [] => x
  | y :: ys => if y.lt x then least y ys else least x ys
def most (x : D) : List D → D
  | [] => x
  | y :: ys => if x.lt y then most y ys else most x ys
def vMin1 (x : D) : Option D := match seqOf x with
  | some (y :: ys) => if D.sortable (y :: ys) then some (least y ys) else none
  | _ => none
def vMax1 (x : D) : Option D := match seqOf x with
  | some (y :: ys) => if D.sortable (y :: ys) then some (most y ys) else none
  | _ => none
def sumI (i : Int) : List D → Option Int
  | [] => some i
  | .int j :: xs => frInt (i + j) fun k => sumI k xs
  | _ => none
def vSum (x : D) : Option D := match x with
  | .lst xs => (match sumI 0 xs with
    | some i => some (.int i)
    | none => none)
  | _ => none
/-- truth values alone -/
def bools : List D → Option (List Bool)
  | [] => some []
  | .bl b :: xs => (match bools xs with
    | some bs => some (b :: bs)
    | none => none)
  | _ => none
def allT (xs : List D) : Option Bool := match bools xs with
  | some bs => some (bs.all id)
  | none => none
def anyT (xs : List D) : Option Bool := match bools xs with
  | some bs => some (bs.any id)
  | none => none
def vAll (x : D) : Option D := match seqOf x with
  | some xs => (match allT xs with
    | some b => some (.bl b)
    | none => none)
  | none => none
def vAny (x : D) : Option D := match seqOf x with
  | some xs => (match anyT xs with
    | some b => some (.bl b)
    | none => none)
  | none => none
/-- isinstance: of a built-in class -/
inductive Cls where
  | int | bool | str | tuple | list
def isI (c : Cls) : D → Option D
  | .fn _ => none
  | .dct _ _ => none
  | .non => some (.bl false)
  | .bl _ => some (.bl (match c with | .int => true | .bool => true | _ => false))
  | .int _ => some (.bl (match c with | .int => true | _ => false))
  | .str _ => some (.bl (match c with | .str => true | _ => false))
  | .tup _ => some (.bl (match c with | .tuple => true | _ => false))
  | .lst _ => some (.bl (match c with | .list => true | _ => false))
def vIsI (c : Cls) (x : D) : Option D := isI c x
def vInt : D → Option D
  | .int i => some (.int i)
  | .bl b => some (.int (if b then 1 else 0))
  | _ => none
def digs : Nat → Nat → List Nat → List Nat
  | 0, _, acc => acc
  | f + 1, n, acc => frNat (n / 10) fun q => frNat (n % 10) fun r => match q with
    | 0 => (48 + r) :: acc
    | q + 1 => digs f (q + 1) ((48 + r) :: acc)
def natS (n : Nat) : List Nat := digs (n + 1) n []
def vStr : D → Option D
  | .str s => some (.str s)
  | _ => none
def vTuple : D → Option D
  | .lst xs => some (.tup xs)
  | .tup xs => some (.tup xs)
  | _ => none
def vList : D → Option D
  | .lst xs => some (.lst xs)
  | .tup xs => some (.lst xs)
  | _ => none
/-- the script is told as a def of this number; its items stand in cell 0 -/
def scr : Nat := 99999
/-- list(x), x the script -/
def eListZ (i : Nat) : Dn := fun _ env h => match nth env i with
  | some (.d (.fn f)) => if Nat.beq f scr then (match nth h 0 with
    | some (.fz xs) => .ok (.d (.lst xs)) h
    | _ => .stuck) else .stuck
  | _ => .stuck
/-- in order, equal ones as they stood -/
def insD (x : D) : List D → List D
  | [] => [x]
  | y :: ys => if x.lt y then x :: y :: ys else y :: insD x ys
def sortD : List D → List D → List D
  | [], acc => acc
  | x :: xs, acc => sortD xs (insD x acc)
/-- whole numbers alone -/
def intL : List D → Option (List Int)
  | [] => some []
  | .int i :: xs => (match intL xs with
    | some is => some (i :: is)
    | none => none)
  | _ => none
def insI (x : Int) : List Int → List Int
  | [] => [x]
  | y :: ys => if ilt x y then x :: y :: ys else y :: insI x ys
def sortI : List Int → List Int → List Int
  | [], acc => acc
  | x :: xs, acc => sortI xs (insI x acc)
def vSorted (x : D) : Option D := match x with
  | .lst xs => (match intL xs with
    | some is => some (.lst ((sortI is []).map .int))
    | none => none)
  | _ => none
/-- without doubles, each where it first stands -/
def uniq : List D → List D → List D
  | [], acc => acc
  | x :: xs, acc => if D.mem x acc then uniq xs acc else uniq xs (acc ++ [x])
def setable (xs : List D) : Bool := D.sortable xs
def rowsI : List D → Option (List (List Int))
  | [] => some []
  | .tup r :: xs => (match intL r with
    | some n => (match rowsI xs with
      | some ns => some (n :: ns)
      | none => none)
    | none => none)
  | _ => none
def eqR : List Int → List Int → Bool
  | [], [] => true
  | x :: xs, y :: ys => if ieq x y then eqR xs ys else false
  | _, _ => false
def memR (x : List Int) : List (List Int) → Bool
  | [] => false
  | y :: ys => if eqR x y then true else memR x ys
def distinct : List (List Int) → Nat
  | [] => 0
  | x :: xs => if memR x xs then distinct xs else Nat.succ (distinct xs)
/-- len(set(x)) -/
def vLenSet (x : D) : Option D := match seqOf x with
  | some xs => (match rowsI xs with
    | some r => if Nat.blt r.length 64 then some (.int (distinct r)) else none
    | none => none)
  | none => none
/-- sorted(set(x)) -/
def vSortedSet (x : D) : Option D := match seqOf x with
  | some xs => if setable xs then some (.lst (sortD (uniq xs []) [])) else none
  | none => none
def unpair : List D → Option (List D × List D)
  | [] => some ([], [])
  | .tup [a, b] :: r => (match unpair r with
    | some (x, y) => some (a :: x, b :: y)
    | none => none)
  | _ => none
def vDict (x : D) : Option D := match x with
  | .dct ks vs => some (.dct ks vs)
  | _ => match seqOf x with
    | some xs => (match unpair xs with
      | some (a, b) => mkDct a b
      | none => none)
    | none => none
def vCount (x y : D) : Option D := match seqOf x with
  | some xs => if y.okd D.deep && D.okdAll D.deep xs then some (.int (xs.countP fun z => z.eqv y)) else none
  | none => none
def findD (y : D) : List D → Nat → Option Nat
  | [], _ => none
  | x :: xs, n => if x.eqv y then some n else findD y xs (n + 1)
def vIndex (x y : D) : Option D := match seqOf x with
  | some xs => if y.okd D.deep && D.okdAll D.deep xs then (match findD y xs 0 with
    | some n => some (.int n)
    | none => none) else none
  | none => none
def joinS (sep : List Nat) : List D → Option (List Nat)
  | [] => some []
  | [.str s] => some s
  | .str s :: r => (match joinS sep r with
    | some t => some (s ++ (sep ++ t))
    | none => none)
  | _ => none
def vJoin : D → D → Option D
  | .str sep, .lst xs => match joinS sep xs with
    | some s => if Nat.ble (Nat.add s.length sep.length) line then some (.str s) else none
    | none => none
  | _, _ => none
def vGet (d k e : D) : Option D := match d with
  | .dct ks vs => if keyFor k ks then (match look k ks vs with
    | some v => some v
    | none => some e) else none
  | _ => none
def vValues : D → Option D
  | .dct _ vs => some (.lst vs)
  | _ => none
/-- a walk's items, as a list (list(zip(..)), list(range(..))) -/
def eListOf (i : In) : Dn := fun cf env h => (i cf env h).bind fun p h1 => .ok (.d (.lst p.1)) (unlock p.2 h1)
def op3 (f : D → D → D → Option D) (a b c : Dn) : Dn := fun cf env h => (a cf env h).bind fun x h1 => (b cf env h1).bind fun y h2 => (c cf env h2).bind fun z h3 =>
  Res.of (rd x h3) fun u => Res.of (rd y h3) fun v => Res.of (rd z h3) fun w => Res.of (f u v w) fun r => .ok (.d r) h3
/-- keys, one for each item -/
def keysOf (g : Gn) (e : Dn) (cf : CallF) (env : Ev) : List D → Heap → Res (List D)
  | [], h => .ok [] h
  | x :: xs, h => Res.of (g x env) fun env' => match e cf env' h with
    | .ok x h1 => Res.of (pd x) fun d => (keysOf g e cf env xs h1).bind fun ds h2 => .ok (d :: ds) h2
    | _ => .stuck

/-- the sorted items, by their keys; the first of the least -/
def insK (k x : D) : List (D × D) → List (D × D)
  | [] => [(k, x)]
  | (l, y) :: r => if k.lt l then (k, x) :: (l, y) :: r else (l, y) :: insK k x r
def sortK : List D → List D → List (D × D) → Option (List (D × D))
  | [], [], acc => some acc
  | k :: ks, x :: xs, acc => sortK ks xs (insK k x acc)
  | _, _, _ => none
def eSortedK (i : In) (g : Gn) (e : Dn) : Dn := fun cf env h => (i cf env h).bind fun p h1 => (keysOf g e cf env p.1 h1).bind fun ks h2 =>
  if D.sortable ks then Res.of (sortK ks p.1 []) fun r => .ok (.d (.lst (r.map (·.2)))) (unlock p.2 h2) else .stuck
def leastK (k x : D) : List D → List D → Option D
  | [], [] => some x
  | l :: ks, y :: xs => if l.lt k then leastK l y ks xs else leastK k x ks xs
  | _, _ => none
def eMinK (i : In) (g : Gn) (e : Dn) : Dn := fun cf env h => (i cf env h).bind fun p h1 => (keysOf g e cf env p.1 h1).bind fun ks h2 =>
  if D.sortable ks then (match ks, p.1 with
    | k :: ks, x :: xs => Res.of (leastK k x ks xs) fun r => .ok (.d r) (unlock p.2 h2)
    | _, _ => .stuck) else .stuck

/-! ### calls -/
def noF : List Sl → Bool
  | [] => true
  | x :: xs => match x with
    | .d _ => noF xs
    | .m _ => noF xs
    | _ => false
def eCallN (f : Nat) (as : An) : Dn := fun cf env h => (as cf env h).bind fun xs h1 => if noF xs then cf f xs h1 else .stuck
def eCall (f : Nat) (as : An) : Dn := fun cf env h => (eCallN f as cf env h).bind fun x h1 => .ok (ofS x) h1
/-- x(..), x a name that holds one of the n defs -/
def eCallV (n i : Nat) (as : An) : Dn := fun cf env h => match nth env i with
  | some (.d (.fn f)) => if Nat.blt f n then eCall f as cf env h else .stuck
  | _ => .stuck
/-- x(), x a lambda that was handed in -/
def eCallC (i : Nat) : Dn := fun _ env h => match nth env i with
  | some (.clo k) => (k h).bind fun d h1 => .ok (.d d) h1
  | _ => .stuck
/-- what a lambda may see: data alone -/
def dSl : Sl → Sl
  | .d d => .d d
  | _ => .no
def dEnv : Ev → Ev
  | [] => []
  | x :: r => dSl x :: dEnv r
/-- the lambda itself -/
def cloOf (e : Dn) (cf : CallF) (env : Ev) : Heap → Res D := fun h => (e cf (dEnv env) h).bind fun x h1 => Res.of (pd x) fun d => .ok d h1
/-- f(lambda: e) -/
def eCallL (f : Nat) (e : Dn) : Dn := fun cf env h => (cf f [.clo (cloOf e cf env)] h).bind fun x h1 => .ok (ofS x) h1
/-- a new list or dict, told as such -/
def eF (a : Dn) : Dn := fun cf env h => (a cf env h).bind fun x h1 => match x with
  | .d (.lst xs) => .ok (.f (.lst xs)) h1
  | .d (.dct ks vs) => .ok (.f (.dct ks vs)) h1
  | _ => .stuck

/-! ### methods that change -/
def isLs : MO → Bool
  | .ml _ => true
  | .lk _ => true
  | _ => false
/-- the list in slot i changes: no argument, one, two -/
def upL (i : Nat) (f : List D → Option (D × List D)) : Dn := fun _ env h => match nth env i with
  | some (.m c) => (match nth h c with
    | some (.ml xs) => Res.of (f xs) fun p => frL (setAt h c (.ml p.2)) fun h => .ok (.d p.1) h
    | _ => .stuck)
  | _ => .stuck
def upL1 (i : Nat) (a : Dn) (f : D → List D → Option (D × List D)) : Dn := fun cf env h => match nth env i with
  | some (.m c) => Res.of (nth h c) fun o => if isLs o then (a cf env h).bind fun x h1 => Res.of (pd x) fun d => (match nth h1 c with
    | some (.ml xs) => Res.of (f d xs) fun p => frL (setAt h1 c (.ml p.2)) fun h2 => .ok (.d p.1) h2
    | _ => .stuck) else .stuck
  | _ => .stuck
def upL2 (i : Nat) (a b : Dn) (f : D → D → List D → Option (D × List D)) : Dn := fun cf env h => match nth env i with
  | some (.m c) => Res.of (nth h c) fun o => if isLs o then (a cf env h).bind fun x h1 => (b cf env h1).bind fun y h2 => Res.of (pd x) fun d => Res.of (pd y) fun e => (match nth h2 c with
    | some (.ml xs) => Res.of (f d e xs) fun p => frL (setAt h2 c (.ml p.2)) fun h3 => .ok (.d p.1) h3
    | _ => .stuck) else .stuck
  | _ => .stuck
def lAppend : D → List D → Option (D × List D) := fun d xs => if Nat.blt xs.length line then some (.non, xs ++ [d]) else none
def insAt {α : Type} (v : α) : Nat → List α → List α
  | 0, xs => v :: xs
  | n + 1, x :: xs => x :: insAt v n xs
  | _ + 1, [] => [v]
def lInsert : D → D → List D → Option (D × List D) := fun i d xs => match i with
  | .int (.ofNat n) => if Nat.ble n xs.length && Nat.blt xs.length line then some (.non, insAt d n xs) else none
  | _ => none
def lastD : List D → Option (List D × D)
  | [] => none
  | x :: xs => match xs with
    | [] => some ([], x)
    | xs => match lastD xs with
      | some (r, y) => some (x :: r, y)
      | none => none
def lPop : List D → Option (D × List D) := fun xs => match lastD xs with
  | some (r, y) => some (y, r)
  | none => none
def rem1 (d : D) : List D → Option (List D)
  | [] => none
  | x :: xs => if x.eqv d then some xs else match rem1 d xs with
    | some r => some (x :: r)
    | none => none
def lRemove : D → List D → Option (D × List D) := fun d xs => if d.okd D.deep && D.okdAll D.deep xs then (match rem1 d xs with
    | some r => some (.non, r)
    | none => none) else none
def mUpdate : D → MO → Option (D × MO) := fun d o => match d, o with
  | .dct ks vs, .md as bs => (match putAll ks vs as bs with
    | some (a, b) => if Nat.ble a.length line then some (.non, .md a b) else none
    | none => none)
  | _, _ => none
def mSetItem : D → D → MO → Option (D × MO) := fun i d o => match o with
  | .ml xs => (match i with
    | .int i => (match place xs.length i with
      | some k => some (.non, .ml (setAt xs k d))
      | none => none)
    | _ => none)
  | _ => none
/-- x[k].insert(n, v), x a dict of lists of its own -/
def insLL (k : D) (n : Nat) (v : D) : List D → List (List D) → Option (List (List D))
  | k' :: ks, xs :: vs => if k'.eqv k then (if Nat.ble n xs.length && Nat.blt xs.length line then some (insAt v n xs :: vs) else none) else (match insLL k n v ks vs with
    | some r => some (xs :: r)
    | none => none)
  | _, _ => none
def eInsLL (i : Nat) (k a b : Dn) : Dn := fun cf env h => match nth env i with
  | some (.m c) => (k cf env h).bind fun kx h0 => (a cf env h0).bind fun x h1 => (b cf env h1).bind fun y h2 => (match kx, x with
    | .d kd, .d (.int (.ofNat n)) => Res.of (pd y) fun e => (match nth h2 c with
      | some (.mdl ks vs) => if keyFor kd ks then Res.of (insLL kd n e ks vs) fun vs' => frL (setAt h2 c (.mdl ks vs')) fun h3 => .ok (.d .non) h3 else .stuck
      | _ => .stuck)
    | _, _ => .stuck)
  | _ => .stuck
/-! ### statements -/
def sBind {α : Type} (r : Res α) (env : Ev) (k : α → Heap → SRes) : SRes := match r with
  | .ok a h => k a h
  | .exc x h => .exc x env h
  | .stuck => .stuck
def frSl {α : Type} (x : Sl) (k : Sl → α) : α := match x with
  | .d d => frD d fun d => k (.d d)
  | x => k x
@[simp] theorem frSl_eq {α : Type} (x : Sl) (k : Sl → α) : frSl x k = k x := by cases x <;> simp [frSl]
def sPass : Sn := fun _ env h => .nx env h
def sCont : Sn := fun _ env h => .ct env h
def sSeq (a b : Sn) : Sn := fun cf env h => match a cf env h with
  | .nx e h1 => b cf e h1
  | r => r
def sExpr (a : Dn) : Sn := fun cf env h => sBind (a cf env h) env fun _ h1 => .nx env h1
/-- x = e -/
def isF : Sl → Bool
  | .f _ => true
  | _ => false
def sAsg (i : Nat) (a : Dn) : Sn := fun cf env h => sBind (a cf env h) env fun x h1 => if isF x then .stuck else frSl x fun x => frL (setAt env i x) fun env => .nx env h1
/-- a new cell for a new list or dict -/
def cell : D → Option MO
  | .lst xs => some (.ml xs)
  | .dct ks vs => some (.md ks vs)
  | _ => none
def sNew (i : Nat) (a : Dn) : Sn := fun cf env h => sBind (a cf env h) env fun x h1 => match x with
  | .f d => (match cell d with
    | some o => .nx (setAt env i (.m h1.length)) (h1 ++ [o])
    | none => .stuck)
  | _ => .stuck
/-- x = {k: [] for ..} -/
def sNewLL (i : Nat) (a : Dn) : Sn := fun cf env h => sBind (a cf env h) env fun x h1 => match x with
  | .d (.dct ks vs) => if vs.all (fun v => match v with | .lst [] => true | _ => false) then .nx (setAt env i (.m h1.length)) (h1 ++ [.mdl ks (vs.map fun _ => [])]) else .stuck
  | _ => .stuck
/-- a, b = e -/
def sAsgG (g : Gn) (a : Dn) : Sn := fun cf env h => sBind (a cf env h) env fun x h1 => match pd x with
  | some d => (match g d env with
    | some env => .nx env h1
    | none => .stuck)
  | none => .stuck
/-- a, b, .. = e, f, ..: all are reckoned first; each with its way of storing: false as it is, true a cell of its own -/
def storeOne : Nat × Nat → Sl → Ev → Heap → Option (Ev × Heap)
  | (i, 0), x, env, h => if isF x then none else frSl x fun x => some (setAt env i x, h)
  | (i, 1), .f d, env, h => (match cell d with
      | some o => some (setAt env i (.m h.length), h ++ [o])
      | none => none)
  | (i, 2), .d (.dct ks vs), env, h => if vs.all (fun v => match v with | .lst [] => true | _ => false) then some (setAt env i (.m h.length), h ++ [.mdl ks (vs.map fun _ => [])]) else none
  | _, _, _, _ => none
def storeAllLL : List (Nat × Nat) → List Sl → Ev → Heap → Option (Ev × Heap)
  | [], [], env, h => some (env, h)
  | i :: r, x :: xs, env, h => (match storeOne i x env h with
    | some (env, h) => storeAllLL r xs env h
    | none => none)
  | _, _, _, _ => none
def sParLL (is : List (Nat × Nat)) (as : An) : Sn := fun cf env h => sBind (as cf env h) env fun xs h1 => match storeAllLL is xs env h1 with
  | some (env, h2) => frL env fun env => .nx env h2
  | none => .stuck
def storeAll : List (Nat × Bool) → List Sl → Ev → Heap → Option (Ev × Heap)
  | [], [], env, h => some (env, h)
  | (i, false) :: r, x :: xs, env, h => if isF x then none else frSl x fun x => storeAll r xs (setAt env i x) h
  | (i, true) :: r, x :: xs, env, h => (match x with
    | .f d => (match cell d with
      | some o => storeAll r xs (setAt env i (.m h.length)) (h ++ [o])
      | none => none)
    | _ => none)
  | _, _, _, _ => none
def sPar (is : List (Nat × Bool)) (as : An) : Sn := fun cf env h => sBind (as cf env h) env fun xs h1 => match storeAll is xs env h1 with
  | some (env, h2) => frL env fun env => .nx env h2
  | none => .stuck
/-- x[i] = e -/
def sSetI (i : Nat) (k a : Dn) : Sn := fun cf env h => sBind (a cf env h) env fun x h1 => match nth env i with
  | some (.m c) => sBind (k cf env h1) env fun y h2 => (match pd x, pd y with
    | some d, some j => (match nth h2 c with
      | some o => (match mSetItem j d o with
        | some (_, o') => frL (setAt h2 c o') fun h3 => .nx env h3
        | none => .stuck)
      | none => .stuck)
    | _, _ => .stuck)
  | _ => .stuck
/-- x += e, of numbers, texts, rows: x is bound anew (a list that is grown is no such) -/
def sAug (i : Nat) (f : D → D → Option D) (a : Dn) : Sn := fun cf env h => match nth env i with
  | some (.d u) => (match u with
    | .lst _ => .stuck
    | u => sBind (a cf env h) env fun x h1 => match x with
      | .d v => (match f u v with
        | some r => frD r fun r => frL (setAt env i (.d r)) fun env => .nx env h1
        | none => .stuck)
      | _ => .stuck)
  | _ => .stuck
/-- x[k] += e, x a dict of numbers -/
def sAugS (i : Nat) (k a : Dn) : Sn := fun cf env h => match nth env i with
  | some (.m c) => sBind (k cf env h) env fun y h1 => (match y with
    | .d j => (match nth h1 c with
      | some (.md ks vs) => if keyFor j ks then (match look j ks vs with
        | some (.int u) => sBind (a cf env h1) env fun x h2 => (match x with
          | .d (.int v) => (match nth h2 c with
            | some o => (match mSetItem j (.int (u + v)) o with
              | some (_, o') => frL (setAt h2 c o') fun h3 => .nx env h3
              | none => .stuck)
            | none => .stuck)
          | _ => .stuck)
        | _ => .stuck) else .stuck
      | _ => .stuck)
    | _ => .stuck)
  | _ => .stuck
def sRet (a : Dn) : Sn := fun cf env h => sBind (a cf env h) env fun x h1 => match x with
  | .d d => .ret (.d d) h1
  | .f d => .ret (.f d) h1
  | .m c => (match nth h1 c with
    | some (.ml xs) => .ret (.d (.lst xs)) (setAt h1 c .gone)
    | some (.md ks vs) => .ret (.d (.dct ks vs)) (setAt h1 c .gone)
    | _ => .stuck)
  | _ => .stuck
def sRetN : Sn := fun _ _ h => .ret (.d .non) h
def sIf (t : Tn) (a b : Sn) : Sn := fun cf env h => sBind (t cf env h) env fun x h1 => match x with
  | true => a cf env h1
  | false => b cf env h1
def forLoop (g : Gn) (body : Sn) (l : Option Nat) (cf : CallF) : List D → Ev → Heap → SRes
  | [], env, h => .nx env (unlock l h)
  | x :: xs, env, h => match g x env with
    | some env => (match body cf env h with
      | .nx e h1 => frL e fun e => forLoop g body l cf xs e h1
      | .ct e h1 => frL e fun e => forLoop g body l cf xs e h1
      | .ret d h1 => .ret d (unlock l h1)
      | .exc x e h1 => .exc x e (unlock l h1)
      | .stuck => .stuck)
    | none => .stuck
def sFor (i : In) (g : Gn) (body : Sn) : Sn := fun cf env h => sBind (i cf env h) env fun p h1 => forLoop g body p.2 cf p.1 env h1
def whileLoop (t : Tn) (body : Sn) (cf : CallF) : Nat → Ev → Heap → SRes
  | 0, _, _ => .stuck
  | n + 1, env, h => sBind (t cf env h) env fun x h1 => match x with
    | true => (match body cf env h1 with
      | .nx e h2 => frL e fun e => whileLoop t body cf n e h2
      | .ct e h2 => frL e fun e => whileLoop t body cf n e h2
      | r => r)
    | false => .nx env h1
def sWhile (fuel : Nat) (t : Tn) (body : Sn) : Sn := fun cf env h => whileLoop t body cf fuel env h
def sRaise (c : Nat) : Sn := fun _ env h => .exc ⟨c, none⟩ env h
def sRaise1 (c : Nat) (a : Dn) : Sn := fun cf env h => sBind (a cf env h) env fun x h1 => match x with
  | .d (.int i) => .exc ⟨c, some i⟩ env h1
  | _ => .stuck
/-- the except clauses: the classes that each takes, the slot of its name; each returns -/
def tryOn (nc : Nat) (x : Exn) (e : Ev) (h : Heap) (cf : CallF) : List (List Nat × Nat × Sn) → SRes
  | [] => .exc x e h
  | (cs, i, s) :: r => if Nat.blt x.cls nc then (if cs.any (Nat.beq x.cls) then (match s cf (setAt e i (.ex x)) h with
    | .ret (.d d) h2 => .ret (.d d) h2
    | .ret (.f d) h2 => .ret (.f d) h2
    | _ => .stuck) else tryOn nc x e h cf r) else .stuck
/-- try: body, except clauses; nc: how many classes there are -/
def sTry (nc : Nat) (body : Sn) (hs : List (List Nat × Nat × Sn)) : Sn := fun cf env h => match body cf env h with
  | .exc x e h1 => tryOn nc x e h1 cf hs
  | r => r
/-- isinstance(e, C), e the exception at hand, one without an argument that is kept -/
def eIsX (nc i : Nat) (cs : List Nat) : Dn := fun _ env h => match nth env i with
  | some (.ex ⟨k, none⟩) => if Nat.blt k nc then .ok (.d (.bl (cs.any (Nat.beq k)))) h else .stuck
  | _ => .stuck
/-- e.limit -/
def eArgX (i : Nat) : Dn := fun _ env h => match nth env i with
  | some (.ex ⟨_, some n⟩) => .ok (.d (.int n)) h
  | _ => .stuck

/-! ### a def -/
structure Fn where
  params : Nat
  slots : Nat
  body : Sn
def nos : Nat → Ev
  | 0 => []
  | n + 1 => .no :: nos n
def SRes.out (n : Nat) : SRes → Res Sl
  | .nx _ h => .ok (.d .non) (h.take n)
  | .ret x h => (match x with
    | .d d => .ok (.d d) (h.take n)
    | .f d => .ok (.f d) (h.take n)
    | _ => .stuck)
  | .exc x _ h => .exc x (h.take n)
  | _ => .stuck
/-- a call, so many calls deep at most -/
def callF (fns : List Fn) : Nat → CallF
  | 0 => fun _ _ _ => .stuck
  | n + 1 => fun f xs h => match nth fns f with
    | some fd => if Nat.beq xs.length fd.params then (fd.body (callF fns n) (xs ++ nos (fd.slots - fd.params)) h).out h.length else .stuck
    | none => .stuck
end Py

set_option autoImplicit false
set_option linter.all false
set_option maxRecDepth 100000
set_option maxHeartbeats 2000000
/-! SndA: how the evaluator's data stand in the heap. -/
namespace Sd
open PySem L2

abbrev D := Py.D
def keyK : D → Option Key
  | .int i => some (.inl i)
  | .str s => some (.inr ⟨s.toArray⟩)
  | _ => none
def keysT : List D → Option (List Key)
  | [] => some []
  | d :: ds => match keyK d with
    | some k => (match keysT ds with
      | some ks => some (k :: ks)
      | none => none)
    | none => none
def keyT : D → Option (List Key)
  | .tup ds => keysT ds
  | _ => none
/-- keys, one by one -/
inductive Keys {κ : Type} (f : D → Option κ) : List D → List κ → Prop
  | nil : Keys f [] []
  | cons {d : D} {k : κ} {ds : List D} {ks : List κ} : f d = some k → Keys f ds ks → Keys f (d :: ds) (k :: ks)

section
variable (K : PySem.W.Frag) (fa : Nat → Addr) (M : Addr → Prop) (H : Hp)
mutual
/-- the value v is the data d; M: the cells -/
inductive RD : D → V → Prop
  | non : RD .non .non
  | bl (b : Bool) : RD (.bl b) (.bl b)
  | int (i : Int) : RD (.int i) (.int i)
  | str (s : List Nat) : RD (.str s) (.str ⟨s.toArray⟩)
  | tup {a : Addr} {ds : List D} {vs : List V} : SqT K H a vs → RDs ds vs → RD (.tup ds) (.ref a)
  | lst {a : Addr} {ds : List D} {vs : List V} : H a = some (.lst vs) → ¬ M a → RDs ds vs → RD (.lst ds) (.ref a)
  | dctK {a : Addr} {kvs : List (Key × V)} {ks ds : List D} : H a = some (.dK kvs) → ¬ M a → Keys keyK ks (kvs.map (·.1)) → RDs ds (kvs.map (·.2)) → RD (.dct ks ds) (.ref a)
  | dctT {a : Addr} {kvs : List (List Key × V)} {ks ds : List D} : H a = some (.dT kvs) → ¬ M a → Keys keyT ks (kvs.map (·.1)) → RDs ds (kvs.map (·.2)) → RD (.dct ks ds) (.ref a)
  | fn (f : Nat) : RD (.fn f) (.ref (fa f))
inductive RDs : List D → List V → Prop
  | nil : RDs [] []
  | cons {d : D} {ds : List D} {v : V} {vs : List V} : RD d v → RDs ds vs → RDs (d :: ds) (v :: vs)
end
/-- a dict's entries -/
inductive RK (a : Addr) (ks ds : List D) : Prop
  | k {kvs : List (Key × V)} : H a = some (.dK kvs) → Keys keyK ks (kvs.map (·.1)) → RDs K fa M H ds (kvs.map (·.2)) → RK a ks ds
  | t {kvs : List (List Key × V)} : H a = some (.dT kvs) → Keys keyT ks (kvs.map (·.1)) → RDs K fa M H ds (kvs.map (·.2)) → RK a ks ds
/-- read at this very moment: the list or dict itself may be a cell -/
def RT (d : D) (v : V) : Prop := match d with
  | .lst ds => ∃ a vs, v = .ref a ∧ H a = some (.lst vs) ∧ RDs K fa M H ds vs
  | .dct ks ds => ∃ a, v = .ref a ∧ RK K fa M H a ks ds
  | d => RD K fa M H d v
end

/-- what was tracked stands as it stood, but for cells and tables -/
structure Frm (M : Addr → Prop) (H H' : Hp) : Prop where
  keep : ∀ a o, H a = some o → ¬ M a → (∀ ps, o ≠ .tbl ps) → H' a = some o
  there : ∀ a o, H a = some o → ∃ o', H' a = some o'
section
variable {K : PySem.W.Frag} {fa : Nat → Addr} {M M' : Addr → Prop} {H H' H'' : Hp}
theorem Frm.refl (M : Addr → Prop) (H : Hp) : Frm M H H := ⟨fun _ _ h _ _ => h, fun _ o h => ⟨o, h⟩⟩
theorem Frm.trans (a : Frm M H H') (hM : ∀ x, M' x → M x) (b : Frm M' H' H'') : Frm M H H'' :=
  ⟨fun x o h n t => b.keep x o (a.keep x o h n t) (fun z => n (hM x z)) t, fun x o h => let ⟨_, h1⟩ := a.there x o h; b.there x _ h1⟩
theorem Frm.same (h : Same H H') : Frm M H H' := ⟨fun a o e _ _ => h a o e, fun a o e => ⟨o, h a o e⟩⟩
theorem Frm.upd {a : Addr} {o : HO} (n : H a = none) : Frm M H (upd H a o) := .same fun b u e => by rw [upd_ne (ne_of_none e n)]; exact e
theorem same_upd {a : Addr} {o : HO} (n : H a = none) : Same H (upd H a o) := fun b u e => by rw [upd_ne (ne_of_none e n)]; exact e
theorem Frm.mono (a : Frm M H H') (h : ∀ x, M x → M' x) : Frm M' H H' := ⟨fun x o e n t => a.keep x o e (fun z => n (h x z)) t, a.there⟩

theorem sqT_same {a : Addr} {vs : List V} (f : Same H H') (h : SqT K H a vs) : SqT K H' a vs := by
  rcases h with (h | ⟨o, h⟩) | h
  · exact .inl (.inl (f _ _ h))
  · exact .inl (.inr ⟨o, f _ _ h⟩)
  · exact .inr h
/-- tuples are never cells -/
def NoTup (M : Addr → Prop) (H : Hp) : Prop := ∀ a, M a → (∃ vs, H a = some (.lst vs)) ∨ (∃ kvs, H a = some (.dK kvs)) ∨ (∃ kvs, H a = some (.dT kvs))
theorem NoTup.there (n : NoTup M H) {a : Addr} (h : M a) : H a ≠ none := by
  rcases n a h with ⟨_, e⟩ | ⟨_, e⟩ | ⟨_, e⟩ <;> rw [e] <;> exact fun z => nomatch z
theorem sqT_keep {a : Addr} {vs : List V} (f : Frm M H H') (n : NoTup M H) (h : SqT K H a vs) : SqT K H' a vs := by
  have nM : ∀ {o}, H a = some o → (o = .tup vs ∨ ∃ ob, o = .frz ob (.tup vs)) → ¬ M a := fun {o} e q z => by
    rcases n a z with ⟨_, e'⟩ | ⟨_, e'⟩ | ⟨_, e'⟩ <;> rw [e] at e' <;> rcases q with q | ⟨_, q⟩ <;> rw [q] at e' <;> cases e'
  rcases h with (h | ⟨o, h⟩) | h
  · exact .inl (.inl (f.keep _ _ h (nM h (.inl rfl)) (fun ps q => by cases q)))
  · exact .inl (.inr ⟨o, f.keep _ _ h (nM h (.inr ⟨_, rfl⟩)) (fun ps q => by cases q)⟩)
  · exact .inr h
mutual
theorem RD.keep (f : Frm M H H') (n : NoTup M H) (hM : ∀ x, M' x → M x ∨ H x = none) : ∀ {d : D} {v : V}, RD K fa M H d v → RD K fa M' H' d v
  | _, _, .non => .non
  | _, _, .bl b => .bl b
  | _, _, .int i => .int i
  | _, _, .str s => .str s
  | _, _, .tup h r => .tup (sqT_keep f n h) (RDs.keep f n hM r)
  | _, _, .lst (a := a) h q r => .lst (f.keep _ _ h q (fun ps z => by cases z)) (fun z => by
      rcases hM a z with z | z
      · exact q z
      · rw [h] at z; cases z) (RDs.keep f n hM r)
  | _, _, .dctK (a := a) h q k r => .dctK (f.keep _ _ h q (fun ps z => by cases z)) (fun z => by
      rcases hM a z with z | z
      · exact q z
      · rw [h] at z; cases z) k (RDs.keep f n hM r)
  | _, _, .dctT (a := a) h q k r => .dctT (f.keep _ _ h q (fun ps z => by cases z)) (fun z => by
      rcases hM a z with z | z
      · exact q z
      · rw [h] at z; cases z) k (RDs.keep f n hM r)
  | _, _, .fn g => .fn g
theorem RDs.keep (f : Frm M H H') (n : NoTup M H) (hM : ∀ x, M' x → M x ∨ H x = none) : ∀ {ds : List D} {vs : List V}, RDs K fa M H ds vs → RDs K fa M' H' ds vs
  | _, _, .nil => .nil
  | _, _, .cons h r => .cons (RD.keep f n hM h) (RDs.keep f n hM r)
end
end
end Sd

set_option autoImplicit false
set_option linter.all false
set_option maxRecDepth 100000
set_option maxHeartbeats 2000000
/-! SndB: the evaluator's data beside the library's PyData. -/
namespace Sd
open PySem L2

def sOf (s : List Nat) : Str := ⟨s.toArray⟩
mutual
def toP : D → PyData
  | .non => .none
  | .bl b => .bool b
  | .int i => .int i
  | .str s => .str (sOf s)
  | .tup ds => .tuple (toPs ds)
  | .lst ds => .list (toPs ds)
  | .dct _ _ => .none
  | .fn _ => .none
def toPs : List D → List PyData
  | [] => []
  | d :: ds => toP d :: toPs ds
end
theorem toPs_map : ∀ ds : List D, toPs ds = ds.map toP
  | [] => by simp [toPs]
  | d :: ds => by simp [toPs, toPs_map ds]
theorem sOf_inj {x y : List Nat} (h : sOf x = sOf y) : x = y := by
  have := congrArg (fun z : Str => z.cps.toList) h
  simpa [sOf] using this
theorem sOf_beq (x y : List Nat) : (sOf x == sOf y) = Py.seq x y := by
  rw [Py.seq_eq, Bool.eq_iff_iff]
  simp only [beq_iff_eq, decide_eq_true_eq]
  exact ⟨sOf_inj, fun h => by rw [h]⟩
mutual
theorem plain_of {n : Nat} : ∀ {d : D}, Py.D.okd n d = true → (toP d).plain = true
  | .non, _ => by simp [toP, PyData.plain]
  | .bl _, _ => by simp [toP, PyData.plain]
  | .int _, _ => by simp [toP, PyData.plain]
  | .str _, _ => by simp [toP, PyData.plain]
  | .tup ds, h => by
    cases n with
    | zero => simp [Py.D.okd] at h
    | succ n => simp only [toP, PyData.plain]; exact plainAll_of (by simpa [Py.D.okd] using h)
  | .lst ds, h => by
    cases n with
    | zero => simp [Py.D.okd] at h
    | succ n => simp only [toP, PyData.plain]; exact plainAll_of (by simpa [Py.D.okd] using h)
  | .dct _ _, h => by cases n <;> simp [Py.D.okd] at h
  | .fn _, h => by cases n <;> simp [Py.D.okd] at h
theorem plainAll_of {n : Nat} : ∀ {ds : List D}, Py.D.okdAll n ds = true → PyData.plainAll (toPs ds) = true
  | [], _ => by simp [toPs, PyData.plainAll]
  | d :: ds, h => by
    simp only [Py.D.okdAll, Bool.and_eq_true] at h
    simp only [toPs, PyData.plainAll, Bool.and_eq_true]
    exact ⟨plain_of h.1, plainAll_of h.2⟩
end
mutual
theorem depth_of {n : Nat} : ∀ {d : D}, Py.D.okd n d = true → (toP d).depth ≤ n
  | .non, _ => by simp [toP, PyData.depth]
  | .bl _, _ => by simp [toP, PyData.depth]
  | .int _, _ => by simp [toP, PyData.depth]
  | .str _, _ => by simp [toP, PyData.depth]
  | .tup ds, h => by
    cases n with
    | zero => simp [Py.D.okd] at h
    | succ n => simp only [toP, PyData.depth]; exact Nat.succ_le_succ (depthAll_of (by simpa [Py.D.okd] using h))
  | .lst ds, h => by
    cases n with
    | zero => simp [Py.D.okd] at h
    | succ n => simp only [toP, PyData.depth]; exact Nat.succ_le_succ (depthAll_of (by simpa [Py.D.okd] using h))
  | .dct _ _, h => by cases n <;> simp [Py.D.okd] at h
  | .fn _, h => by cases n <;> simp [Py.D.okd] at h
theorem depthAll_of {n : Nat} : ∀ {ds : List D}, Py.D.okdAll n ds = true → PyData.depthAll (toPs ds) ≤ n
  | [], _ => by simp [toPs, PyData.depthAll]
  | d :: ds, h => by
    simp only [Py.D.okdAll, Bool.and_eq_true] at h
    simp only [toPs, PyData.depthAll]
    exact Nat.max_le.mpr ⟨depth_of h.1, depthAll_of h.2⟩
end
mutual
theorem eqv_of {n m : Nat} : ∀ {a b : D}, Py.D.okd n a = true → Py.D.okd m b = true → PyData.eqv (toP a) (toP b) = a.eqv b
  | .non, b, _, h => by cases b <;> first | (simp [toP, PyData.eqv, Py.D.eqv]; done) | (cases m <;> simp [Py.D.okd] at h)
  | .bl x, b, _, h => by
    cases b <;> first
      | (simp [toP, PyData.eqv, Py.D.eqv]; done)
      | (simp only [toP, PyData.eqv, Py.D.eqv, Py.ieq_eq]; rw [Bool.eq_iff_iff]; simp; done)
      | (cases m <;> simp [Py.D.okd] at h)
  | .int x, b, _, h => by
    cases b <;> first
      | (simp [toP, PyData.eqv, Py.D.eqv]; done)
      | (simp only [toP, PyData.eqv, Py.D.eqv, Py.ieq_eq]; rw [Bool.eq_iff_iff]; simp; done)
      | (cases m <;> simp [Py.D.okd] at h)
  | .str x, b, _, h => by
    cases b <;> first
      | (simp [toP, PyData.eqv, Py.D.eqv]; done)
      | (simp only [toP, PyData.eqv, Py.D.eqv]; exact sOf_beq _ _)
      | (cases m <;> simp [Py.D.okd] at h)
  | .tup x, b, h1, h => by
    cases n with
    | zero => simp [Py.D.okd] at h1
    | succ n =>
      cases b with
      | tup y =>
        cases m with
        | zero => simp [Py.D.okd] at h
        | succ m => simp only [toP, PyData.eqv, Py.D.eqv]; exact eqvAll_of (by simpa [Py.D.okd] using h1) (by simpa [Py.D.okd] using h)
      | dct _ _ => cases m <;> simp [Py.D.okd] at h
      | fn _ => cases m <;> simp [Py.D.okd] at h
      | _ => simp [toP, PyData.eqv, Py.D.eqv]
  | .lst x, b, h1, h => by
    cases n with
    | zero => simp [Py.D.okd] at h1
    | succ n =>
      cases b with
      | lst y =>
        cases m with
        | zero => simp [Py.D.okd] at h
        | succ m => simp only [toP, PyData.eqv, Py.D.eqv]; exact eqvAll_of (by simpa [Py.D.okd] using h1) (by simpa [Py.D.okd] using h)
      | dct _ _ => cases m <;> simp [Py.D.okd] at h
      | fn _ => cases m <;> simp [Py.D.okd] at h
      | _ => simp [toP, PyData.eqv, Py.D.eqv]
  | .dct _ _, _, h, _ => by cases n <;> simp [Py.D.okd] at h
  | .fn _, _, h, _ => by cases n <;> simp [Py.D.okd] at h
theorem eqvAll_of {n m : Nat} : ∀ {a b : List D}, Py.D.okdAll n a = true → Py.D.okdAll m b = true → PyData.eqvAll (toPs a) (toPs b) = Py.D.eqvAll a b
  | [], [], _, _ => by simp [toPs, PyData.eqvAll, Py.D.eqvAll]
  | [], _ :: _, _, _ => by simp [toPs, PyData.eqvAll, Py.D.eqvAll]
  | _ :: _, [], _, _ => by simp [toPs, PyData.eqvAll, Py.D.eqvAll]
  | x :: xs, y :: ys, h1, h2 => by
    simp only [Py.D.okdAll, Bool.and_eq_true] at h1 h2
    simp only [toPs, PyData.eqvAll, Py.D.eqvAll]
    rw [eqv_of h1.1 h2.1, eqvAll_of h1.2 h2.2]
end
mutual
theorem alike_of {n m : Nat} : ∀ {a b : D}, Py.D.okd n a = true → Py.D.okd m b = true → PySem.W.alike (toP a) (toP b) = a.alike b
  | .non, b, _, h => by cases b <;> first | (simp [toP, PySem.W.alike, Py.D.alike]; done) | (cases m <;> simp [Py.D.okd] at h)
  | .bl x, b, _, h => by cases b <;> first | (simp [toP, PySem.W.alike, Py.D.alike]; done) | (cases m <;> simp [Py.D.okd] at h)
  | .int x, b, _, h => by cases b <;> first | (simp [toP, PySem.W.alike, Py.D.alike]; done) | (cases m <;> simp [Py.D.okd] at h)
  | .str x, b, _, h => by cases b <;> first | (simp [toP, PySem.W.alike, Py.D.alike]; done) | (cases m <;> simp [Py.D.okd] at h)
  | .tup x, b, h1, h => by
    cases n with
    | zero => simp [Py.D.okd] at h1
    | succ n =>
      cases b with
      | tup y =>
        cases m with
        | zero => simp [Py.D.okd] at h
        | succ m => simp only [toP, PySem.W.alike, Py.D.alike]; exact alikeAll_of (by simpa [Py.D.okd] using h1) (by simpa [Py.D.okd] using h)
      | dct _ _ => cases m <;> simp [Py.D.okd] at h
      | fn _ => cases m <;> simp [Py.D.okd] at h
      | _ => simp [toP, PySem.W.alike, Py.D.alike]
  | .lst x, b, h1, h => by
    cases n with
    | zero => simp [Py.D.okd] at h1
    | succ n =>
      cases b with
      | lst y =>
        cases m with
        | zero => simp [Py.D.okd] at h
        | succ m => simp only [toP, PySem.W.alike, Py.D.alike]; exact alikeAll_of (by simpa [Py.D.okd] using h1) (by simpa [Py.D.okd] using h)
      | dct _ _ => cases m <;> simp [Py.D.okd] at h
      | fn _ => cases m <;> simp [Py.D.okd] at h
      | _ => simp [toP, PySem.W.alike, Py.D.alike]
  | .dct _ _, _, h, _ => by cases n <;> simp [Py.D.okd] at h
  | .fn _, _, h, _ => by cases n <;> simp [Py.D.okd] at h
theorem alikeAll_of {n m : Nat} : ∀ {a b : List D}, Py.D.okdAll n a = true → Py.D.okdAll m b = true → PySem.W.alikeAll (toPs a) (toPs b) = Py.D.alikeAll a b
  | [], [], _, _ => by simp [toPs, PySem.W.alikeAll, Py.D.alikeAll]
  | [], _ :: _, _, _ => by simp [toPs, PySem.W.alikeAll, Py.D.alikeAll]
  | _ :: _, [], _, _ => by simp [toPs, PySem.W.alikeAll, Py.D.alikeAll]
  | x :: xs, y :: ys, h1, h2 => by
    simp only [Py.D.okdAll, Bool.and_eq_true] at h1 h2
    simp only [toPs, PySem.W.alikeAll, Py.D.alikeAll]
    rw [alike_of h1.1 h2.1, alikeAll_of h1.2 h2.2]
end
theorem slt_eq : ∀ x y : List Nat, Py.slt x y = decide (x < y)
  | [], [] => by simp [Py.slt]
  | [], _ :: _ => by simp [Py.slt]
  | _ :: _, [] => by simp [Py.slt]
  | a :: x, b :: y => by
    rw [Py.slt, slt_eq x y, Py.blt_eq]
    by_cases h : a = b
    · subst h
      rw [if_pos (Nat.beq_refl a), Bool.eq_iff_iff]
      simp [List.cons_lt_cons_iff]
    · rw [if_neg (fun q => h (Nat.eq_of_beq_eq_true q)), Bool.eq_iff_iff]
      simp [List.cons_lt_cons_iff, h]
mutual
theorem lt_of {n m : Nat} : ∀ {a b : D}, Py.D.okd n a = true → Py.D.okd m b = true → Py.D.alike a b = true → PySem.W.dataLt (toP a) (toP b) = a.lt b
  | .non, b, _, h, al => by
    cases b with
    | non => simp only [toP, Py.D.lt]; unfold PySem.W.dataLt; simp only [PySem.W.keyToks]; rfl
    | _ => simp [Py.D.alike] at al
  | .bl x, b, _, h, al => by
    cases b with
    | bl y => simp only [toP, Py.D.lt, PySem.W.dataLt_bool]; cases x <;> cases y <;> rfl
    | _ => simp [Py.D.alike] at al
  | .int x, b, _, h, al => by
    cases b with
    | int y => simp only [toP, Py.D.lt, PySem.W.dataLt_int, Py.ilt_eq]
    | _ => simp [Py.D.alike] at al
  | .str x, b, _, h, al => by
    cases b with
    | str y => simp only [toP, Py.D.lt, PySem.W.dataLt_str, slt_eq]; exact decide_eq_decide.mpr Iff.rfl
    | _ => simp [Py.D.alike] at al
  | .tup x, b, h1, h, al => by
    cases n with
    | zero => simp [Py.D.okd] at h1
    | succ n =>
      cases b with
      | tup y =>
        cases m with
        | zero => simp [Py.D.okd] at h
        | succ m => simp only [toP, PySem.W.dataLt_tuple, Py.D.lt]; exact ltAll_of (by simpa [Py.D.okd] using h1) (by simpa [Py.D.okd] using h) (by simpa [Py.D.alike] using al)
      | _ => simp [Py.D.alike] at al
  | .lst x, b, h1, h, al => by
    cases n with
    | zero => simp [Py.D.okd] at h1
    | succ n =>
      cases b with
      | lst y =>
        cases m with
        | zero => simp [Py.D.okd] at h
        | succ m => simp only [toP, PySem.W.dataLt_list, Py.D.lt]; exact ltAll_of (by simpa [Py.D.okd] using h1) (by simpa [Py.D.okd] using h) (by simpa [Py.D.alike] using al)
      | _ => simp [Py.D.alike] at al
  | .dct _ _, _, h, _, _ => by cases n <;> simp [Py.D.okd] at h
  | .fn _, _, h, _, _ => by cases n <;> simp [Py.D.okd] at h
theorem ltAll_of {n m : Nat} : ∀ {a b : List D}, Py.D.okdAll n a = true → Py.D.okdAll m b = true → Py.D.alikeAll a b = true →
    PyProof.Rows.lexLt PyProof.Rows.itemOrd (PySem.W.keyToksAll (toPs a)) (PySem.W.keyToksAll (toPs b)) = Py.D.ltAll a b
  | [], [], _, _, _ => by simp only [toPs, PySem.W.keyToksAll, Py.D.ltAll]; rfl
  | [], y :: ys, _, _, _ => by
    simp only [toPs, PySem.W.toks_all_cons, PySem.W.keyToksAll, Py.D.ltAll]
    rw [PyProof.Rows.lex_diff (O := PyProof.Rows.itemOrd) (by simp)]
    rfl
  | x :: xs, [], _, _, _ => by
    simp only [toPs, PySem.W.toks_all_cons, PySem.W.keyToksAll, Py.D.ltAll]
    rw [PyProof.Rows.lex_diff (O := PyProof.Rows.itemOrd) (by simp)]
    rfl
  | x :: xs, y :: ys, h1, h2, al => by
    simp only [Py.D.okdAll, Bool.and_eq_true] at h1 h2
    simp only [Py.D.alikeAll, Bool.and_eq_true] at al
    simp only [toPs, Py.D.ltAll]
    have a1 : PySem.W.alike (toP x) (toP y) = true := by rw [alike_of h1.1 h2.1]; exact al.1
    rw [← eqv_of h1.1 h2.1]
    cases e : PyData.eqv (toP x) (toP y) with
    | true => rw [PySem.W.dataLt_all_yes a1 e]; simp only [if_true]; exact ltAll_of h1.2 h2.2 al.2
    | false => rw [PySem.W.dataLt_all_no a1 e]; simp only [Bool.false_eq_true, if_false]; exact lt_of h1.1 h2.1 al.1
end

section
variable {K : PySem.W.Frag} {fa : Nat → Addr} {M : Addr → Prop} {H : Hp}
theorem RDs.length : ∀ {ds : List D} {vs : List V}, RDs K fa M H ds vs → ds.length = vs.length
  | _, _, .nil => rfl
  | _, _, .cons _ r => by rw [List.length_cons, List.length_cons, RDs.length r]
theorem RDs.get : ∀ {ds : List D} {vs : List V}, RDs K fa M H ds vs → ∀ {i : Nat} {d : D}, ds[i]? = some d → ∃ v, vs[i]? = some v ∧ RD K fa M H d v
  | _, _, .nil, i, d, h => by simp at h
  | _, _, .cons h r, 0, d, e => by simp at e; subst e; exact ⟨_, rfl, h⟩
  | _, _, .cons h r, i + 1, d, e => by
    obtain ⟨v, e1, e2⟩ := RDs.get r (i := i) (by simpa using e)
    exact ⟨v, by simpa using e1, e2⟩
theorem RDs.append : ∀ {ds es : List D} {vs ws : List V}, RDs K fa M H ds vs → RDs K fa M H es ws → RDs K fa M H (ds ++ es) (vs ++ ws)
  | _, _, _, _, .nil, s => s
  | _, _, _, _, .cons h r, s => .cons h (RDs.append r s)
theorem RDs.drop : ∀ {ds : List D} {vs : List V} (n : Nat), RDs K fa M H ds vs → RDs K fa M H (ds.drop n) (vs.drop n)
  | _, _, 0, r => r
  | _, _, _ + 1, .nil => .nil
  | _, _, n + 1, .cons _ r => RDs.drop n r
theorem RDs.take : ∀ {ds : List D} {vs : List V} (n : Nat), RDs K fa M H ds vs → RDs K fa M H (ds.take n) (vs.take n)
  | _, _, 0, _ => .nil
  | _, _, _ + 1, .nil => .nil
  | _, _, n + 1, .cons h r => .cons h (RDs.take n r)
theorem RD.rt {d : D} {v : V} (h : RD K fa M H d v) : RT K fa M H d v := by
  cases h with
  | lst h q r => exact ⟨_, _, rfl, h, r⟩
  | dctK h q k r => exact ⟨_, rfl, .k h k r⟩
  | dctT h q k r => exact ⟨_, rfl, .t h k r⟩
  | non => exact .non
  | bl b => exact .bl b
  | int i => exact .int i
  | str s => exact .str s
  | tup h r => exact .tup h r
  | fn f => exact .fn f
mutual
theorem RD.dp {n : Nat} : ∀ {d : D} {v : V}, Py.D.okd n d = true → RD K fa M H d v → Dp K H v (toP d)
  | _, _, _, .non => .non
  | _, _, _, .bl b => .bl b
  | _, _, _, .int i => .int i
  | _, _, _, .str s => .str _
  | _, _, h, .tup q r => by
    cases n with
    | zero => simp [Py.D.okd] at h
    | succ n => simp only [toP]; exact .tup q (RDs.dps (by simpa [Py.D.okd] using h) r)
  | _, _, h, .lst q _ r => by
    cases n with
    | zero => simp [Py.D.okd] at h
    | succ n => simp only [toP]; exact .lst (.inl (.inl q)) (RDs.dps (by simpa [Py.D.okd] using h) r)
  | _, _, h, .dctK _ _ _ _ => by cases n <;> simp [Py.D.okd] at h
  | _, _, h, .dctT _ _ _ _ => by cases n <;> simp [Py.D.okd] at h
  | _, _, h, .fn _ => by cases n <;> simp [Py.D.okd] at h
theorem RDs.dps {n : Nat} : ∀ {ds : List D} {vs : List V}, Py.D.okdAll n ds = true → RDs K fa M H ds vs → DpAll K H vs (toPs ds)
  | _, _, _, .nil => .nil
  | _, _, h, .cons q r => by
    simp only [Py.D.okdAll, Bool.and_eq_true] at h
    exact .cons (RD.dp h.1 q) (RDs.dps h.2 r)
end
theorem RT.dp {n : Nat} {d : D} {v : V} (h : Py.D.okd n d = true) (r : RT K fa M H d v) : Dp K H v (toP d) := by
  cases d with
  | lst ds =>
    obtain ⟨a, vs, rfl, q, r⟩ := r
    cases n with
    | zero => simp [Py.D.okd] at h
    | succ n => simp only [toP]; exact .lst (.inl (.inl q)) (r.dps (by simpa [Py.D.okd] using h))
  | dct _ _ => cases n <;> simp [Py.D.okd] at h
  | _ => exact RD.dp h r
end
end Sd

set_option autoImplicit false
set_option linter.all false
set_option maxRecDepth 100000
set_option maxHeartbeats 2000000
/-! SndC: the state's relation, what an expression's reading is. -/
namespace Sd
open PySem L2

abbrev Sl := Py.Sl
abbrev MO := Py.MO
abbrev CH := Py.Heap
/-- where the cells stand; what is new and nobody's yet -/
structure Rho where
  c : List (List Addr)
  p : Addr → Prop
def isGone : MO → Bool
  | .gone => true
  | .fz _ => true
  | _ => false
/-- as long as it is walked, or for good, it stays -/
def still : MO → Bool
  | .gone => true
  | .fz _ => true
  | .lk _ => true
  | .lkl _ _ => true
  | _ => false
def live (ρ : Rho) (h : CH) (a : Addr) : Prop := (∃ (i : Nat) (as : List Addr) (o : MO), ρ.c[i]? = some as ∧ h[i]? = some o ∧ isGone o = false ∧ a ∈ as) ∨ ρ.p a
/-- the defs' addresses, the classes', the tables of code objects -/
structure G where
  K : PySem.W.Frag
  fa : Nat → Addr
  ca : Nat → Addr
  T : List (Addr × Str)
/-- lists of a dict's own, each at its place -/
inductive RLL (g : G) (M : Addr → Prop) (H : Hp) : List (List D) → List Addr → Prop
  | nil : RLL g M H [] []
  | cons {a : Addr} {as : List Addr} {ds : List D} {dss : List (List D)} {vs : List V} : H a = some (.lst vs) → RDs g.K g.fa M H ds vs → RLL g M H dss as → RLL g M H (ds :: dss) (a :: as)
/-- the script's list, wherever it stands -/
def Scr (g : G) (M : Addr → Prop) (H : Hp) (vs : List V) : Prop := (H (g.fa Py.scr) = some (.lst vs) ∧ ¬ M (g.fa Py.scr)) ∨ (∃ o, H (g.fa Py.scr) = some (.frz o (.lst vs))) ∨ SqL g.K (fun _ => none) (g.fa Py.scr) vs
section
variable (g : G) (M : Addr → Prop) (H : Hp)
def RO : MO → List Addr → Prop
  | .ml ds, as => ∃ a vs, as = [a] ∧ H a = some (.lst vs) ∧ RDs g.K g.fa M H ds vs
  | .lk ds, as => ∃ a vs, as = [a] ∧ H a = some (.lst vs) ∧ RDs g.K g.fa M H ds vs
  | .md ks ds, as => ∃ a, as = [a] ∧ RK g.K g.fa M H a ks ds
  | .mdl ks dss, as => ∃ a bs kvs, as = a :: bs ∧ H a = some (.dK kvs) ∧ Keys keyK ks (kvs.map (·.1)) ∧ kvs.map (·.2) = bs.map V.ref ∧ RLL g M H dss bs
  | .fz ds, as => as = [] ∧ ∃ vs, Scr g M H vs ∧ RDs g.K g.fa M H ds vs
  | .lkl ks dss, as => ∃ a bs kvs, as = a :: bs ∧ H a = some (.dK kvs) ∧ Keys keyK ks (kvs.map (·.1)) ∧ kvs.map (·.2) = bs.map V.ref ∧ RLL g M H dss bs
  | .gone, as => ∀ a ∈ as, ∃ o, H a = some o
end
/-- a list or a dict -/
def LD (H : Hp) (a : Addr) : Prop := (∃ vs, H a = some (.lst vs)) ∨ (∃ kvs, H a = some (.dK kvs)) ∨ (∃ kvs, H a = some (.dT kvs))
theorem LD.some {H : Hp} {a : Addr} (l : LD H a) : ∃ o, H a = some o ∧ ∀ ps, o ≠ .tbl ps := by
  rcases l with ⟨_, e⟩ | ⟨_, e⟩ | ⟨_, e⟩ <;> exact ⟨_, e, fun ps q => nomatch q⟩
theorem LD.keep {H H' : Hp} {a : Addr} (l : LD H a) (e : H' a = H a) : LD H' a := by unfold LD; rw [e]; exact l
structure RSt (g : G) (ρ : Rho) (h : CH) (H : Hp) : Prop where
  len : ρ.c.length = h.length
  nd : ρ.c.flatten.Nodup
  pn : ∀ a, ρ.p a → a ∉ ρ.c.flatten
  pk : ∀ a, ρ.p a → LD H a
  cell : ∀ (i : Nat) (o : MO) (as : List Addr), h[i]? = some o → ρ.c[i]? = some as → RO g (live ρ h) H o as
  tabs : LamX.Tabs g.T H
section
variable {g : G} {ρ ρ' ρ1 ρ2 : Rho} {h h' h1 h2 : CH} {H H' H1 H2 : Hp} {M M' : Addr → Prop}
theorem RLL.at : ∀ {dss : List (List D)} {as : List Addr}, RLL g M H dss as → ∀ a ∈ as, ∃ vs, H a = some (.lst vs)
  | _, _, .nil, _, h => nomatch h
  | _, _, .cons e _ r, a, h => by
    rcases List.mem_cons.mp h with rfl | h
    · exact ⟨_, e⟩
    · exact RLL.at r a h
theorem RO.kinds {o : MO} {as : List Addr} (r : RO g M H o as) (n : isGone o = false) : ∀ a ∈ as, LD H a := fun a ha => by
  cases o with
  | ml ds => obtain ⟨b, vs, rfl, e, _⟩ := r; simp at ha; subst ha; exact .inl ⟨_, e⟩
  | lk ds => obtain ⟨b, vs, rfl, e, _⟩ := r; simp at ha; subst ha; exact .inl ⟨_, e⟩
  | md ks ds =>
    obtain ⟨b, rfl, e⟩ := r; simp at ha; subst ha
    cases e with
    | k e _ _ => exact .inr (.inl ⟨_, e⟩)
    | t e _ _ => exact .inr (.inr ⟨_, e⟩)
  | mdl ks dss =>
    obtain ⟨b, bs, kvs, rfl, e, _, _, rl⟩ := r
    rcases List.mem_cons.mp ha with rfl | ha
    · exact .inr (.inl ⟨_, e⟩)
    · exact .inl (rl.at a ha)
  | lkl ks dss =>
    obtain ⟨b, bs, kvs, rfl, e, _, _, rl⟩ := r
    rcases List.mem_cons.mp ha with rfl | ha
    · exact .inr (.inl ⟨_, e⟩)
    · exact .inl (rl.at a ha)
  | gone => simp [isGone] at n
  | fz _ => simp [isGone] at n
theorem RO.there {o : MO} {as : List Addr} (r : RO g M H o as) : ∀ a ∈ as, ∃ o, H a = some o := fun a ha => by
  by_cases hg : isGone o = false
  · obtain ⟨o, e, _⟩ := (r.kinds hg a ha).some
    exact ⟨o, e⟩
  · cases o with
    | gone => exact r a ha
    | fz ds => obtain ⟨rfl, _⟩ := r; simp at ha
    | _ => simp [isGone] at hg
theorem RSt.noTup (s : RSt g ρ h H) : NoTup (live ρ h) H := fun a m => by
  rcases m with ⟨i, as, o, e1, e2, n, m⟩ | m
  · exact (s.cell i o as e2 e1).kinds n a m
  · exact s.pk a m
theorem RSt.there (s : RSt g ρ h H) {a : Addr} (ha : a ∈ ρ.c.flatten) : ∃ o, H a = some o := by
  obtain ⟨as, h1, h2⟩ := List.mem_flatten.mp ha
  obtain ⟨i, h3⟩ := List.getElem?_of_mem h1
  have hi : i < h.length := by rw [← s.len]; exact (List.getElem?_eq_some_iff.mp h3).1
  exact (s.cell i h[i] as (List.getElem?_eq_getElem hi) h3).there a h2
theorem RK.keep {a : Addr} {ks ds : List D} (f : Frm M H H') (n : NoTup M H) (hM : ∀ x, M' x → M x ∨ H x = none) (e : H' a = H a) (r : RK g.K g.fa M H a ks ds) : RK g.K g.fa M' H' a ks ds := by
  cases r with
  | k h q r => exact .k (e.trans h) q (r.keep f n hM)
  | t h q r => exact .t (e.trans h) q (r.keep f n hM)
theorem RLL.keep (f : Frm M H H') (n : NoTup M H) (hM : ∀ x, M' x → M x ∨ H x = none) {dss : List (List D)} {as : List Addr} (e : ∀ a ∈ as, H' a = H a) (r : RLL g M H dss as) : RLL g M' H' dss as := by
  induction r with
  | nil => exact .nil
  | cons h r _ ih => exact .cons ((e _ List.mem_cons_self).trans h) (r.keep f n hM) (ih fun b hb => e b (List.mem_cons_of_mem _ hb))
theorem Scr.keep (f : Frm M H H') (n : NoTup M H) (hM : ∀ x, M' x → M x ∨ H x = none) {vs : List V} (r : Scr g M H vs) : Scr g M' H' vs := by
  rcases r with ⟨h1, h2⟩ | ⟨o, h1⟩ | h1
  · exact .inl ⟨f.keep _ _ h1 h2 (fun ps z => nomatch z), fun z => (hM _ z).elim h2 fun q => by rw [h1] at q; cases q⟩
  · refine .inr (.inl ⟨o, f.keep _ _ h1 (fun z => ?_) (fun ps z => nomatch z)⟩)
    rcases n _ z with ⟨_, q⟩ | ⟨_, q⟩ | ⟨_, q⟩ <;> rw [h1] at q <;> cases q
  · exact .inr (.inr h1)
theorem Scr.sq {vs : List V} (r : Scr g M H vs) : SqL g.K H (g.fa Py.scr) vs := by
  rcases r with ⟨h1, _⟩ | ⟨o, h1⟩ | h1
  · exact .inl (.inl h1)
  · exact .inl (.inr ⟨o, h1⟩)
  · rcases h1 with (q | ⟨_, q⟩) | q
    · cases q
    · cases q
    · exact .inr q
theorem RO.keep (f : Frm M H H') (n : NoTup M H) (hM : ∀ x, M' x → M x ∨ H x = none) : ∀ {o : MO} {as : List Addr}, (∀ a ∈ as, H' a = H a) → RO g M H o as → RO g M' H' o as := fun {o as} e r => by
  cases o with
  | ml ds => obtain ⟨b, vs, rfl, q, r⟩ := r; exact ⟨b, vs, rfl, (e b (by simp)).trans q, r.keep f n hM⟩
  | lk ds => obtain ⟨b, vs, rfl, q, r⟩ := r; exact ⟨b, vs, rfl, (e b (by simp)).trans q, r.keep f n hM⟩
  | md ks ds => obtain ⟨b, rfl, q⟩ := r; exact ⟨b, rfl, q.keep f n hM (e b (by simp))⟩
  | mdl ks dss => obtain ⟨b, bs, kvs, rfl, q, k1, k2, rl⟩ := r; exact ⟨b, bs, kvs, rfl, (e b (by simp)).trans q, k1, k2, rl.keep f n hM fun a ha => e a (by simp [ha])⟩
  | lkl ks dss => obtain ⟨b, bs, kvs, rfl, q, k1, k2, rl⟩ := r; exact ⟨b, bs, kvs, rfl, (e b (by simp)).trans q, k1, k2, rl.keep f n hM fun a ha => e a (by simp [ha])⟩
  | gone => exact fun a ha => let ⟨o, q⟩ := f.there a _ (r a ha).choose_spec; ⟨o, q⟩
  | fz ds => obtain ⟨rfl, vs, q, r⟩ := r; exact ⟨rfl, vs, q.keep f n hM, r.keep f n hM⟩
/-- what stands as it stood, with perhaps more that is private -/
theorem RO.same (f : Same H H') (n : NoTup M H) (hM : ∀ x, M' x → M x ∨ H x = none) {o : MO} {as : List Addr} (r : RO g M H o as) : RO g M' H' o as :=
  r.keep (.same f) n hM fun a ha => by
    obtain ⟨o, q⟩ := r.there a ha
    rw [q]; exact f a o q
theorem RSt.same (s : RSt g ρ h H) (e : Same H H') : RSt g ρ h H' :=
  ⟨s.len, s.nd, s.pn, fun a q => by
    have := s.pk a q
    obtain ⟨o, q, _⟩ := this.some
    exact this.keep ((e a o q).trans q.symm), fun i o as e1 e2 => (s.cell i o as e1 e2).same e s.noTup fun _ h => .inl h, LamX.Tabs.ext s.tabs e⟩
/-- one more that is private -/
def Rho.add (ρ : Rho) (a : Addr) : Rho := ⟨ρ.c, fun b => ρ.p b ∨ b = a⟩
theorem live_add {a b : Addr} : live (ρ.add a) h b ↔ live ρ h b ∨ b = a := by
  unfold live Rho.add
  exact ⟨fun z => by rcases z with z | z | z; exact .inl (.inl z); exact .inl (.inr z); exact .inr z, fun z => by rcases z with (z | z) | z; exact .inl z; exact .inr (.inl z); exact .inr (.inr z)⟩
theorem RSt.new (s : RSt g ρ h H) (e : Same H H') {a : Addr} (hp : H a = none) (l : LD H' a) : RSt g (ρ.add a) h H' :=
  ⟨s.len, s.nd, (fun b q z => by
    rcases q with q | q
    · exact s.pn b q z
    · obtain ⟨o, q'⟩ := s.there z
      rw [q, hp] at q'
      exact nomatch q'), (fun b q => by
    rcases q with q | q
    · exact (s.same e).pk b q
    · rw [q]; exact l), (fun i o as e1 e2 => (s.cell i o as e1 e2).same e s.noTup fun x z => by
      rcases live_add.mp z with z | z
      · exact .inl z
      · rw [z]; exact .inr hp), LamX.Tabs.ext s.tabs e⟩

/-- what an expression, or a statement, leaves -/
structure Post (g : G) (ρ : Rho) (h : CH) (H : Hp) (ρ' : Rho) (h' : CH) (H' : Hp) : Prop where
  frm : Frm (live ρ h) H H'
  st : RSt g ρ' h' H'
  sub : ∀ a, live ρ' h' a → live ρ h a ∨ H a = none
  pre : ρ.c <+: ρ'.c
  pp : ∀ a, ρ.p a → ρ'.p a ∧ H' a = H a
  sl : ∀ (i : Nat) (o : MO), h[i]? = some o → still o = true → h'[i]? = some o
theorem Post.refl (s : RSt g ρ h H) : Post g ρ h H ρ h H := ⟨.refl _ _, s, fun _ h => .inl h, List.prefix_refl _, fun _ q => ⟨q, rfl⟩, fun _ _ q _ => q⟩
theorem Post.same (s : RSt g ρ h H) (e : Same H H') : Post g ρ h H ρ h H' := ⟨.same e, s.same e, fun _ h => .inl h, List.prefix_refl _, (fun a q => ⟨q, by
  obtain ⟨o, z, _⟩ := (s.pk a q).some
  rw [z]; exact e a o z⟩), fun _ _ q _ => q⟩
theorem Post.new (s : RSt g ρ h H) (e : Same H H') {a : Addr} (hp : H a = none) (l : LD H' a) : Post g ρ h H (ρ.add a) h H' :=
  ⟨.same e, s.new e hp l, fun b z => by
    rcases live_add.mp z with z | z
    · exact .inl z
    · rw [z]; exact .inr hp, List.prefix_refl _, fun b q => ⟨.inl q, ((Post.same s e).pp b q).2⟩, fun _ _ q _ => q⟩
theorem Frm.trans2 {M M' : Addr → Prop} {H H' H'' : Hp} (a : Frm M H H') (hM : ∀ x, M' x → M x ∨ H x = none) (b : Frm M' H' H'') : Frm M H H'' :=
  ⟨fun x o h n t => b.keep x o (a.keep x o h n t) (fun z => by
    rcases hM x z with z | z
    · exact n z
    · rw [h] at z; cases z) t, fun x o h => let ⟨_, h1⟩ := a.there x o h; b.there x _ h1⟩
theorem none_back {H0 H : Hp} {a : Addr} (p : ∀ a o, H0 a = some o → ∃ o', H a = some o') (e : H a = none) : H0 a = none := by
  cases q : H0 a with
  | none => rfl
  | some o =>
    obtain ⟨o', z⟩ := p a o q
    rw [z] at e
    cases e
theorem Post.trans (a : Post g ρ h H ρ1 h1 H1) (b : Post g ρ1 h1 H1 ρ2 h2 H2) : Post g ρ h H ρ2 h2 H2 :=
  ⟨a.frm.trans2 a.sub b.frm, b.st, fun x q => by
    rcases b.sub x q with q | q
    · exact a.sub x q
    · exact .inr (none_back a.frm.there q), a.pre.trans b.pre, fun x q => ⟨(b.pp x (a.pp x q).1).1, (b.pp x (a.pp x q).1).2.trans (a.pp x q).2⟩, fun i o q z => b.sl i o (a.sl i o q z) z⟩

/-- a frame's own further things: lambdas handed in, exceptions at hand -/
structure Fx where
  C : (Addr → Prop) → Sl → V → Hp → Prop
  st : ∀ {x : Sl} {v : V} {H H' : Hp} {M M' : Addr → Prop}, NoTup M H → Frm M H H' → (∀ y, M' y → M y ∨ H y = Option.none) → C M x v H → C M' x v H'
def Fx.none : Fx := ⟨fun _ _ _ _ => False, fun _ _ _ h => h⟩
def RSl (g : G) (c : Fx) (ρ : Rho) (h : CH) (H : Hp) : Sl → V → Prop
  | .d x, v => RD g.K g.fa (live ρ h) H x v
  | .m i, v => ∃ a as, ρ.c[i]? = some (a :: as) ∧ v = .ref a
  | .clo f, v => c.C (live ρ h) (.clo f) v H
  | .ex x, v => c.C (live ρ h) (.ex x) v H
  | _, _ => False
def isLD : D → Prop
  | .lst _ => True
  | .dct _ _ => True
  | _ => False
/-- what an expression gives; H: ahead of it -/
def RRs (g : G) (c : Fx) (ρ : Rho) (h : CH) (H H' : Hp) : Sl → V → Prop
  | .f x, v => ∃ a, v = .ref a ∧ H a = Option.none ∧ ρ.p a ∧ RT g.K g.fa (live ρ h) H' x (.ref a) ∧ isLD x
  | x, v => RSl g c ρ h H' x v
def REnv (g : G) (c : Fx) (ρ : Rho) (h : CH) (H : Hp) (env : Py.Ev) (σ : L2.St) : Prop :=
  env.length = σ.length ∧ ∀ (i : Nat) (x : Sl), env[i]? = some x → x = .no ∨ ∃ v, σ[i]? = some (some v) ∧ RSl g c ρ h H x v
variable {c : Fx} {env : Py.Ev} {σ : L2.St}
theorem RD.post {x : D} {v : V} (p : Post g ρ h H ρ' h' H') (n : NoTup (live ρ h) H) (r : RD g.K g.fa (live ρ h) H x v) : RD g.K g.fa (live ρ' h') H' x v := RD.keep p.frm n p.sub r
theorem pre_get {as : List Addr} {i : Nat} (p : ρ.c <+: ρ'.c) (e : ρ.c[i]? = some as) : ρ'.c[i]? = some as := by
  obtain ⟨t, q⟩ := p
  rw [← q, List.getElem?_append_left (List.getElem?_eq_some_iff.mp e).1]
  exact e
theorem RSl.keep {x : Sl} {v : V} (p : Post g ρ h H ρ' h' H') (n : NoTup (live ρ h) H) (r : RSl g c ρ h H x v) : RSl g c ρ' h' H' x v := by
  cases x with
  | d x => exact RD.post p n r
  | m i => obtain ⟨a, as, e, q⟩ := r; exact ⟨a, as, pre_get p.pre e, q⟩
  | clo f => exact c.st n p.frm p.sub r
  | ex e => exact c.st n p.frm p.sub r
  | no => exact r
  | f x => exact r
theorem REnv.keep (p : Post g ρ h H ρ' h' H') (n : NoTup (live ρ h) H) (r : REnv g c ρ h H env σ) : REnv g c ρ' h' H' env σ :=
  ⟨r.1, fun i x e => (r.2 i x e).imp id fun ⟨v, e1, e2⟩ => ⟨v, e1, e2.keep p n⟩⟩
theorem RT.keepAt {a : Addr} {x : D} (f : Frm M H H') (n : NoTup M H) (hM : ∀ x, M' x → M x ∨ H x = none) (e : H' a = H a) (l : isLD x) (r : RT g.K g.fa M H x (.ref a)) : RT g.K g.fa M' H' x (.ref a) := by
  cases x with
  | lst ds =>
    obtain ⟨b, vs, q, h1, h2⟩ := r
    cases q
    exact ⟨a, vs, rfl, e.trans h1, h2.keep f n hM⟩
  | dct ks ds =>
    obtain ⟨b, q, h1⟩ := r
    cases q
    exact ⟨a, rfl, h1.keep f n hM e⟩
  | _ => exact l.elim
theorem RRs.keep {x : Sl} {v : V} {H0 : Hp} (p : Post g ρ h H ρ' h' H') (n : NoTup (live ρ h) H) (r : RRs g c ρ h H0 H x v) : RRs g c ρ' h' H0 H' x v := by
  cases x with
  | f x =>
    obtain ⟨a, e1, e2, e3, e4, e5⟩ := r
    exact ⟨a, e1, e2, (p.pp a e3).1, e4.keepAt p.frm n p.sub (p.pp a e3).2 e5, e5⟩
  | d x => exact RSl.keep (c := c) (x := .d x) (v := v) p n r
  | m i => exact RSl.keep (c := c) (x := .m i) (v := v) p n r
  | clo f => exact RSl.keep (c := c) (x := .clo f) (v := v) p n r
  | ex e => exact RSl.keep (c := c) (x := .ex e) (v := v) p n r
  | no => exact RSl.keep (c := c) (x := .no) (v := v) p n r
theorem RRs.since {x : Sl} {v : V} {H0 : Hp} (p : ∀ a o, H0 a = some o → ∃ o', H a = some o') (r : RRs g c ρ h H H' x v) : RRs g c ρ h H0 H' x v := by
  cases x with
  | f x =>
    obtain ⟨a, e1, e2, e3⟩ := r
    exact ⟨a, e1, none_back p e2, e3⟩
  | d x => exact r
  | m i => exact r
  | clo f => exact r
  | ex e => exact r
  | no => exact r
/-- read -/
theorem RSt.rd (s : RSt g ρ h H) {H0 : Hp} {x : Sl} {v : V} {d : D} (r : RRs g c ρ h H0 H x v) (e : Py.rd x h = some d) : RT g.K g.fa (live ρ h) H d v := by
  cases x with
  | d x => simp only [Py.rd, Option.some.injEq] at e; subst e; exact RD.rt r
  | f x =>
    simp only [Py.rd, Option.some.injEq] at e; subst e
    obtain ⟨a, rfl, _, _, r, _⟩ := r
    exact r
  | m i =>
    obtain ⟨a, as, e1, rfl⟩ := r
    simp only [Py.rd, Py.nth_eq] at e
    cases q : h[i]? with
    | none => rw [q] at e; cases e
    | some o =>
      rw [q] at e
      have ro := s.cell i o _ q e1
      cases o with
      | ml ds =>
        obtain ⟨b, vs, z, q1, r⟩ := ro
        cases z
        simp only [Option.some.injEq] at e; subst e
        exact ⟨_, vs, rfl, q1, r⟩
      | lk ds =>
        obtain ⟨b, vs, z, q1, r⟩ := ro
        cases z
        simp only [Option.some.injEq] at e; subst e
        exact ⟨_, vs, rfl, q1, r⟩
      | md ks ds =>
        obtain ⟨b, z, q1⟩ := ro
        cases z
        simp only [Option.some.injEq] at e; subst e
        exact ⟨_, rfl, q1⟩
      | mdl _ _ => simp at e
      | lkl _ _ => simp at e
      | fz _ => simp at e
      | gone => simp at e
  | no => simp [Py.rd] at e
  | clo _ => simp [Py.rd] at e
  | ex _ => simp [Py.rd] at e
theorem RSt.pd {H0 : Hp} {x : Sl} {v : V} {d : D} (r : RRs g c ρ h H0 H x v) (e : Py.pd x = some d) : RD g.K g.fa (live ρ h) H d v := by
  cases x with
  | d x => simp only [Py.pd, Option.some.injEq] at e; subst e; exact r
  | f x => simp [Py.pd] at e
  | m i => simp [Py.pd] at e
  | no => simp [Py.pd] at e
  | clo _ => simp [Py.pd] at e
  | ex _ => simp [Py.pd] at e
theorem RRs.sl {H0 : Hp} {x : Sl} {v : V} (n : Py.isF x = false) (r : RRs g c ρ h H0 H x v) : RSl g c ρ h H x v := by
  cases x with
  | f x => simp [Py.isF] at n
  | d x => exact r
  | m i => exact r
  | clo f => exact r
  | ex e => exact r
  | no => exact r
end

/-! ### the exceptions -/
/-- the exception's class, its own dict -/
def RX (g : G) (H : Hp) (x : Py.Exn) (cls : Value) (dd : Option Addr) : Prop :=
  cls = .ref (g.ca x.cls) ∧ match x.arg with
    | none => dd = none
    | some n => ∃ a, dd = some a ∧ H a = some (.xd [("limit", .int n)])

/-! ### readings -/
section
variable (g : G) (c : Fx) (W : WX) (cf : Py.CallF)
/-- what is wanted of an outcome -/
def EndR {α : Type} (ρ : Rho) (h : CH) (σ : L2.St) (H : Hp) (k : α → CH → Prop) : Py.Res α → Prop
  | .ok a h' => k a h'
  | .exc x h' => ∀ ρ' cls dd H', Post g ρ h H ρ' h' H' → RX g H' x cls dd → W cls dd σ H'
  | .stuck => False
def tD (d : Py.Dn) : TE := fun σ H Q => ∃ ρ env h, REnv g c ρ h H env σ ∧ RSt g ρ h H ∧ EndR g W ρ h σ H (fun x h' => ∀ ρ' v H', Post g ρ h H ρ' h' H' → RRs g c ρ' h' H H' x v → Q v H') (d cf env h)
def tT (d : Py.Tn) : TT := fun σ H Q => ∃ ρ env h, REnv g c ρ h H env σ ∧ RSt g ρ h H ∧ EndR g W ρ h σ H (fun b h' => ∀ ρ' H', Post g ρ h H ρ' h' H' → Q b H') (d cf env h)
end
/-- a row of values; those that are new differ -/
inductive RRss (g : G) (c : Fx) (ρ : Rho) (h : CH) (H' : Hp) : Hp → List Sl → List V → Prop
  | nil {H : Hp} : RRss g c ρ h H' H [] []
  | cons {H H1 : Hp} {x : Sl} {xs : List Sl} {v : V} {vs : List V} : (∀ a o, H a = some o → ∃ o', H1 a = some o') → RRs g c ρ h H H' x v → (Py.isF x = true → ∀ a, v = .ref a → ∃ o, H1 a = some o) → RRss g c ρ h H' H1 xs vs → RRss g c ρ h H' H (x :: xs) (v :: vs)
section
variable (g : G) (c : Fx) (W : WX) (cf : Py.CallF)
def tA (d : Py.An) : TA := fun σ H Q => ∃ ρ env h, REnv g c ρ h H env σ ∧ RSt g ρ h H ∧ EndR g W ρ h σ H (fun xs h' => ∀ ρ' vs H', Post g ρ h H ρ' h' H' → RRss g c ρ' h' H' H xs vs → Q vs H') (d cf env h)
end
section
variable {g : G} {c : Fx} {W : WX} {cf : Py.CallF} {ρ ρ1 ρ2 : Rho} {h h1 h2 : CH} {σ : L2.St} {H H0 H1 H2 : Hp}
theorem EndR.imp {α : Type} {k k' : α → CH → Prop} {r : Py.Res α} (e : EndR g W ρ h σ H k r) (f : ∀ a h', k a h' → k' a h') : EndR g W ρ h σ H k' r := by
  cases r with
  | ok a h' => exact f _ _ e
  | exc x h' => exact e
  | stuck => exact e
/-- one after the other -/
theorem EndR.bind {α β : Type} {r : Py.Res α} {f : α → CH → Py.Res β} {k : β → CH → Prop} (e : EndR g W ρ h σ H k (r.bind f)) : EndR g W ρ h σ H (fun a h' => EndR g W ρ h σ H k (f a h')) r := by
  cases r with
  | ok a h' => exact e
  | exc x h' => exact e
  | stuck => exact e
theorem EndR.of {α β : Type} {o : Option α} {f : α → Py.Res β} {k : β → CH → Prop} (e : EndR g W ρ h σ H k (Py.Res.of o f)) : ∃ a, o = some a ∧ EndR g W ρ h σ H k (f a) := by
  cases o with
  | none => exact e.elim
  | some a => exact ⟨a, rfl, e⟩
/-- the wish of a later part -/
theorem EndR.later {α : Type} {r : Py.Res α} {k : α → CH → Prop} (p : Post g ρ h H ρ1 h1 H1) (e : EndR g W ρ h σ H k r) : EndR g W ρ1 h1 σ H1 k r := by
  cases r with
  | ok a h' => exact e
  | exc x h' => exact fun ρ' cls dd H' q rx => e ρ' cls dd H' (p.trans q) rx
  | stuck => exact e
theorem RRss.keep {xs : List Sl} {vs : List V} {Hb : Hp} (p : Post g ρ1 h1 H1 ρ2 h2 H2) (n : NoTup (live ρ1 h1) H1) (r : RRss g c ρ1 h1 H1 Hb xs vs) : RRss g c ρ2 h2 H2 Hb xs vs := by
  induction r with
  | nil => exact .nil
  | cons q h z _ ih => exact .cons q (h.keep p n) z ih
theorem RRss.since {xs : List Sl} {vs : List V} {Hb : Hp} (p : ∀ a o, H0 a = some o → ∃ o', Hb a = some o') (r : RRss g c ρ h H Hb xs vs) : RRss g c ρ h H H0 xs vs := by
  cases r with
  | nil => exact .nil
  | cons q h z r => exact .cons (fun a o e => let ⟨_, e1⟩ := p a o e; q a _ e1) (h.since p) z r
theorem _root_.L2.PE.imp {X : Cx} {e : Expr} {t t' : TE} (p : PE X e t) (f : ∀ σ H Q, t' σ H Q → t σ H Q) : PE X e t' := ⟨fun pins s σ H Q I h => p.run pins s σ H Q I (f _ _ _ h)⟩
theorem _root_.L2.PT.imp {X : Cx} {e : Expr} {t t' : TT} (p : PT X e t) (f : ∀ σ H Q, t' σ H Q → t σ H Q) : PT X e t' := ⟨fun pins s σ H Q I h => p.run pins s σ H Q I (f _ _ _ h)⟩
theorem _root_.L2.PA.imp {X : Cx} {e : List Expr} {t t' : TA} (p : PA X e t) (f : ∀ σ H Q, t' σ H Q → t σ H Q) : PA X e t' := ⟨fun pos pins s σ H Q I h => p.run pos pins s σ H Q I (f _ _ _ h)⟩
end
end Sd

set_option autoImplicit false
set_option linter.all false
set_option maxRecDepth 100000
set_option maxHeartbeats 2000000
/-! SndD: operators on data, one by one. -/
namespace Sd
open PySem L2 PySem.Spec PyProof.Rows
section
variable {X : Cx} {g : G}
/-- a new list or dict: H ahead of it -/
def Nw (g : G) (M : Addr → Prop) (H H' : Hp) (d : D) (v : V) : Prop := ∃ a, v = .ref a ∧ H a = none ∧ RT g.K g.fa (fun b => M b ∨ b = a) H' d (.ref a) ∧ isLD d
abbrev gx (X : Cx) (g : G) : G := { g with K := X.K }
/-- an operator of two values by the evaluator's own -/
def rOp (g : G) (f : D → D → Option D) : R2 := fun x y H Q => ∃ (M : Addr → Prop) (d e r : D), NoTup M H ∧ RT g.K g.fa M H d x ∧ RT g.K g.fa M H e y ∧ f d e = some r ∧ ∀ v H', Same H H' → RD g.K g.fa M H' r v → Q v H'
/-- .. that gives a new list -/
def rOpN (g : G) (f : D → D → Option D) : R2 := fun x y H Q => ∃ (M : Addr → Prop) (d e r : D), NoTup M H ∧ RT g.K g.fa M H d x ∧ RT g.K g.fa M H e y ∧ f d e = some r ∧ ∀ v H', Same H H' → Nw g M H H' r v → Q v H'
def rOp1 (g : G) (f : D → Option D) : V → Hp → VK → Prop := fun x H Q => ∃ (M : Addr → Prop) (d r : D), NoTup M H ∧ RT g.K g.fa M H d x ∧ f d = some r ∧ ∀ v H', Same H H' → RD g.K g.fa M H' r v → Q v H'
def rC1 (g : G) (f : D → Option D) : List V → Hp → VK → Prop := fun xs H Q => ∃ (M : Addr → Prop) (x : V) (d r : D), xs = [x] ∧ NoTup M H ∧ RT g.K g.fa M H d x ∧ f d = some r ∧ ∀ v H', Same H H' → RD g.K g.fa M H' r v → Q v H'
def rC1N (g : G) (f : D → Option D) : List V → Hp → VK → Prop := fun xs H Q => ∃ (M : Addr → Prop) (x : V) (d r : D), xs = [x] ∧ NoTup M H ∧ RT g.K g.fa M H d x ∧ f d = some r ∧ ∀ v H', Same H H' → Nw g M H H' r v → Q v H'
def rC2 (g : G) (f : D → D → Option D) : List V → Hp → VK → Prop := fun xs H Q => ∃ (M : Addr → Prop) (x y : V) (d e r : D), xs = [x, y] ∧ NoTup M H ∧ RT g.K g.fa M H d x ∧ RT g.K g.fa M H e y ∧ f d e = some r ∧ ∀ v H', Same H H' → RD g.K g.fa M H' r v → Q v H'

theorem NoTup.notNew {M : Addr → Prop} {H : Hp} (n : NoTup M H) {p : Addr} (hp : H p = none) : ¬ M p := fun z => n.there z hp
section
variable {M : Addr → Prop} {H H' : Hp}
theorem RT.int' {i : Int} {v : V} (r : RT g.K g.fa M H (.int i) v) : v = .int i := by cases r; rfl
theorem RT.bl' {i : Bool} {v : V} (r : RT g.K g.fa M H (.bl i) v) : v = .bl i := by cases r; rfl
theorem RD.bl' {i : Bool} {v : V} (r : RD g.K g.fa M H (.bl i) v) : v = .bl i := by cases r; rfl
theorem RD.int' {i : Int} {v : V} (r : RD g.K g.fa M H (.int i) v) : v = .int i := by cases r; rfl
theorem RT.str' {s : List Nat} {v : V} (r : RT g.K g.fa M H (.str s) v) : v = .str (sOf s) := by cases r; rfl
theorem RT.non' {v : V} (r : RT g.K g.fa M H .non v) : v = .non := by cases r; rfl
theorem RT.tup' {ds : List D} {v : V} (r : RT g.K g.fa M H (.tup ds) v) : ∃ a vs, v = .ref a ∧ SqT g.K H a vs ∧ RDs g.K g.fa M H ds vs := by
  have r1 : RD g.K g.fa M H (.tup ds) v := r
  cases r1 with
  | tup h r2 => exact ⟨_, _, rfl, h, r2⟩
theorem RD.same {d : D} {v : V} (n : NoTup M H) (e : Same H H') (r : RD g.K g.fa M H d v) : RD g.K g.fa M H' d v := r.keep (.same e) n fun _ h => .inl h
theorem RDs.same {d : List D} {v : List V} (n : NoTup M H) (e : Same H H') (r : RDs g.K g.fa M H d v) : RDs g.K g.fa M H' d v := r.keep (.same e) n fun _ h => .inl h
theorem RDs.newLst {ds : List D} {vs : List V} {p : Addr} (n : NoTup M H) (hp : H p = none) (r : RDs g.K g.fa M H ds vs) : RD g.K g.fa M (upd H p (.lst vs)) (.lst ds) (.ref p) :=
  .lst upd_same (n.notNew hp) (r.same n (same_upd hp))
theorem RDs.newTup {ds : List D} {vs : List V} {p : Addr} (n : NoTup M H) (hp : H p = none) (r : RDs g.K g.fa M H ds vs) : RD g.K g.fa M (upd H p (.tup vs)) (.tup ds) (.ref p) :=
  .tup (.inl (.inl upd_same)) (r.same n (same_upd hp))
end

theorem RDs.nwLst {M : Addr → Prop} {H : Hp} {ds : List D} {vs : List V} {p : Addr} (n : NoTup M H) (hp : H p = none) (r : RDs g.K g.fa M H ds vs) : Nw g M H (upd H p (.lst vs)) (.lst ds) (.ref p) :=
  ⟨p, rfl, hp, ⟨p, vs, rfl, upd_same, r.keep (.same (same_upd hp)) n fun x z => by
    rcases z with z | z
    · exact .inl z
    · rw [z]; exact .inr hp⟩, trivial⟩
theorem RDs.anti {K : PySem.W.Frag} {fa : Nat → Addr} {M M' : Addr → Prop} {H : Hp} {ds : List D} {vs : List V} (hM : ∀ x, M' x → M x) (n : NoTup M H) (r : RDs K fa M H ds vs) : RDs K fa M' H ds vs := r.keep (.refl _ _) n fun x z => .inl (hM x z)
theorem RK.anti {M M' : Addr → Prop} {H : Hp} {a : Addr} {ks ds : List D} (hM : ∀ x, M' x → M x) (n : NoTup M H) (r : RK g.K g.fa M H a ks ds) : RK g.K g.fa M' H a ks ds := r.keep (.refl _ _) n (fun x z => .inl (hM x z)) rfl
theorem RK.rd {M : Addr → Prop} {H : Hp} {a : Addr} {ks ds : List D} (q : ¬ M a) (r : RK g.K g.fa M H a ks ds) : RD g.K g.fa M H (.dct ks ds) (.ref a) := by
  cases r with
  | k h1 h2 h3 => exact .dctK h1 q h2 h3
  | t h1 h2 h3 => exact .dctT h1 q h2 h3
theorem NoTup.same {M : Addr → Prop} {H H' : Hp} (n : NoTup M H) (s : Same H H') : NoTup M H' := fun b z => by
  rcases n b z with ⟨_, q⟩ | ⟨_, q⟩ | ⟨_, q⟩
  · exact .inl ⟨_, s _ _ q⟩
  · exact .inr (.inl ⟨_, s _ _ q⟩)
  · exact .inr (.inr ⟨_, s _ _ q⟩)
theorem NoTup.or {M : Addr → Prop} {H : Hp} {a : Addr} (n : NoTup M H) (l : LD H a) : NoTup (fun b => M b ∨ b = a) H := fun b z => by
  rcases z with z | z
  · exact n b z
  · rw [z]; exact l
theorem RT.ld {M : Addr → Prop} {H : Hp} {a : Addr} {d : D} (r : RT g.K g.fa M H d (.ref a)) (l : isLD d) : LD H a := by
  cases d with
  | lst ds => obtain ⟨b, vs, q, h1, _⟩ := r; cases q; exact .inl ⟨_, h1⟩
  | dct ks ds =>
    obtain ⟨b, q, h1⟩ := r
    cases q
    cases h1 with
    | k h _ _ => exact .inr (.inl ⟨_, h⟩)
    | t h _ _ => exact .inr (.inr ⟨_, h⟩)
  | _ => exact l.elim
/-- handed on as data, nobody's own any more -/
theorem RT.drop {M M' : Addr → Prop} {H : Hp} {a : Addr} {d : D} (hM : ∀ x, M' x → M x) (na : ¬ M' a) (n : NoTup M H) (r : RT g.K g.fa M H d (.ref a)) (l : isLD d) : RD g.K g.fa M' H d (.ref a) := by
  cases d with
  | lst ds => obtain ⟨b, vs, q, h1, h2⟩ := r; cases q; exact .lst h1 na (h2.anti hM n)
  | dct ks ds => obtain ⟨b, q, h1⟩ := r; cases q; exact (h1.anti hM n).rd na
  | _ => exact l.elim
theorem Nw.rd {M : Addr → Prop} {H H' : Hp} {d : D} {v : V} (n : NoTup M H) (s : Same H H') (r : Nw g M H H' d v) : RD g.K g.fa M H' d v := by
  obtain ⟨a, rfl, e, r, l⟩ := r
  exact r.drop (fun _ z => .inl z) (n.notNew e) ((n.same s).or (r.ld l)) l

theorem line_eq : Py.line = sizeLine := by rw [sizeLine_eq]; rfl

/-! ### arithmetic -/
theorem so_add : OpR X (binaryOp .Add) (rOp (gx X g) Py.vAdd) := by
  intro pins s σ H x y v u Q I rx ry h
  obtain ⟨M, d, e, r, n, rd, re, f, q⟩ := h
  cases d with
  | int i =>
    cases e with
    | int j =>
      simp only [Py.vAdd, Py.frInt_eq, Option.some.injEq] at f
      subst f
      rw [RT.int' rd] at rx; rw [RT.int' re] at ry
      exact op_add pins s σ H _ _ v u Q I rx ry ⟨i, j, rfl, rfl, q _ H (Same.refl H) (.int _)⟩
    | _ => simp [Py.vAdd] at f
  | str i =>
    cases e with
    | str j =>
      simp only [Py.vAdd] at f
      split at f
      · rename_i hl
        simp only [Option.some.injEq] at f
        subst f
        rw [RT.str' rd] at rx; rw [RT.str' re] at ry
        have hl : i.length + j.length ≤ sizeLine := by rw [← line_eq]; exact Nat.ble_eq.mp hl
        refine op_add_str pins s σ H _ _ v u Q I rx ry ⟨_, _, rfl, rfl, by simpa [sOf, Str.length] using hl, ?_⟩
        have ee : sOf i ++ sOf j = sOf (i ++ j) := by
          show (⟨(sOf i).cps ++ (sOf j).cps⟩ : Str) = _
          simp [sOf]
        rw [ee]
        exact q _ H (Same.refl H) (.str _)
      · cases f
    | _ => simp [Py.vAdd] at f
  | lst i =>
    cases e with
    | lst j =>
      simp only [Py.vAdd] at f
      split at f
      · rename_i hl
        simp only [Option.some.injEq] at f
        subst f
        obtain ⟨a, xs, rfl, h1, r1⟩ := rd
        obtain ⟨b, ys, rfl, h2, r2⟩ := re
        have hl : i.length + j.length ≤ sizeLine := by rw [← line_eq]; exact Nat.ble_eq.mp hl
        refine op_cat pins s σ H _ _ v u Q I rx ry ⟨a, b, xs, ys, rfl, rfl, h1, h2, by rw [← r1.length, ← r2.length]; exact hl, fun p hp => ?_⟩
        exact q _ _ (same_upd hp) ((r1.append r2).newLst n hp)
      · cases f
    | _ => simp [Py.vAdd] at f
  | tup i =>
    cases e with
    | tup j =>
      simp only [Py.vAdd] at f
      split at f
      · rename_i hl
        simp only [Option.some.injEq] at f
        subst f
        obtain ⟨a, xs, rfl, h1, r1⟩ := RT.tup' rd
        obtain ⟨b, ys, rfl, h2, r2⟩ := RT.tup' re
        have hl : i.length + j.length ≤ sizeLine := by rw [← line_eq]; exact Nat.ble_eq.mp hl
        refine op_catA pins s σ H _ _ v u Q I rx ry ⟨a, b, xs, ys, rfl, rfl, h1, h2, by rw [← r1.length, ← r2.length]; exact hl, fun z => ?_, fun _ z => ?_, fun _ _ p hp => ?_⟩
        · subst z
          cases r1
          exact q _ H (Same.refl H) (.tup h2 r2)
        · subst z
          cases r2
          exact q _ H (Same.refl H) (.tup h1 (by simpa using r1))
        · exact q _ _ (same_upd hp) ((r1.append r2).newTup n hp)
      · cases f
    | _ => simp [Py.vAdd] at f
  | _ => simp [Py.vAdd] at f
theorem so_addN : OpR X (binaryOp .Add) (rOpN (gx X g) fun d e => match d, e with | .lst x, .lst y => Py.vAdd (.lst x) (.lst y) | _, _ => none) := by
  intro pins s σ H x y v u Q I rx ry h
  obtain ⟨M, d, e, r, n, rd, re, f, q⟩ := h
  cases d with
  | lst i =>
    cases e with
    | lst j =>
      simp only [Py.vAdd] at f
      split at f
      · rename_i hl
        simp only [Option.some.injEq] at f
        subst f
        obtain ⟨a, xs, rfl, h1, r1⟩ := rd
        obtain ⟨b, ys, rfl, h2, r2⟩ := re
        have hl : i.length + j.length ≤ sizeLine := by rw [← line_eq]; exact Nat.ble_eq.mp hl
        refine op_cat pins s σ H _ _ v u Q I rx ry ⟨a, b, xs, ys, rfl, rfl, h1, h2, by rw [← r1.length, ← r2.length]; exact hl, fun p hp => ?_⟩
        exact q _ _ (same_upd hp) ((r1.append r2).nwLst n hp)
      · cases f
    | _ => simp at f
  | _ => simp at f
theorem so_sub : OpR X (binaryOp .Sub) (rOp (gx X g) Py.vSub) := by
  intro pins s σ H x y v u Q I rx ry h
  obtain ⟨M, d, e, r, n, rd, re, f, q⟩ := h
  cases d with
  | int i =>
    cases e with
    | int j =>
      simp only [Py.vSub, Py.frInt_eq, Option.some.injEq] at f
      subst f
      rw [RT.int' rd] at rx; rw [RT.int' re] at ry
      exact op_sub pins s σ H _ _ v u Q I rx ry ⟨i, j, rfl, rfl, q _ H (Same.refl H) (.int _)⟩
    | _ => simp [Py.vSub] at f
  | _ => simp [Py.vSub] at f
theorem small_iff {i : Int} (h : Py.small i = true) : -(2 ^ 64) < i ∧ i < 2 ^ 64 := by
  unfold Py.small at h
  rw [Nat.blt_eq] at h
  omega
theorem reps_eq {α : Type} (xs : List α) : ∀ n, Py.reps xs n = (List.replicate n xs).flatten
  | 0 => by simp [Py.reps]
  | n + 1 => by simp [Py.reps, reps_eq xs n, List.replicate_succ]
theorem RDs.reps {M : Addr → Prop} {H : Hp} {ds : List D} {vs : List V} (r : RDs g.K g.fa M H ds vs) : ∀ n, RDs g.K g.fa M H (List.replicate n ds).flatten (List.replicate n vs).flatten
  | 0 => by simp; exact .nil
  | n + 1 => by simp only [List.replicate_succ, List.flatten_cons]; exact r.append (RDs.reps r n)
end
end Sd

set_option autoImplicit false
set_option linter.all false
set_option maxRecDepth 100000
set_option maxHeartbeats 2000000
/-! SndE: products, quotients, comparisons, places, slices. -/
namespace Sd
open PySem L2 PySem.Spec PyProof.Rows
section
variable {X : Cx} {g : G}
theorem so_mul : OpR X (binaryOp .Mult) (rOp (gx X g) Py.vMul) := by
  intro pins s σ H x y v u Q I rx ry h
  obtain ⟨M, d, e, r, n, rd, re, f, q⟩ := h
  cases d with
  | int i =>
    cases e with
    | int j =>
      simp only [Py.vMul, Py.frInt_eq] at f
      split at f
      · rename_i hs
        simp only [Option.some.injEq] at f
        subst f
        rw [RT.int' rd] at rx; rw [RT.int' re] at ry
        refine op_mul pins s σ H _ _ v u Q I rx ry ⟨i, j, rfl, rfl, ?_, q _ H (Same.refl H) (.int _)⟩
        simp only [Bool.or_eq_true] at hs
        exact hs.imp small_iff small_iff
      · cases f
    | _ => simp [Py.vMul] at f
  | lst i =>
    cases e with
    | int j =>
      simp only [Py.vMul] at f
      split at f
      · rename_i hs
        simp only [Option.some.injEq] at f
        subst f
        simp only [Bool.and_eq_true, Nat.blt_eq] at hs
        obtain ⟨a, xs, rfl, h1, r1⟩ := rd
        have ej := RT.int' re
        subst ej
        have hl : i.length * j.toNat ≤ sizeLine := by rw [← line_eq]; exact Nat.ble_eq.mp hs.1
        refine op_rep pins s σ H _ _ v u Q I rx ry ⟨a, j, xs, rfl, rfl, h1, by omega, by omega, by rw [← r1.length]; exact hl, fun p hp => ?_⟩
        rw [reps_eq] at q
        exact q _ _ (same_upd hp) ((r1.reps _).newLst n hp)
      · cases f
    | _ => simp [Py.vMul] at f
  | tup i =>
    cases e with
    | int j =>
      simp only [Py.vMul] at f
      split at f
      · rename_i hs
        simp only [Option.some.injEq] at f
        subst f
        simp only [Bool.and_eq_true, Py.ilt_eq, decide_eq_true_eq] at hs
        obtain ⟨a, xs, rfl, h1, r1⟩ := RT.tup' rd
        have ej := RT.int' re
        subst ej
        have hl : i.length ≤ 1000 := Nat.ble_eq.mp hs.2.2.1
        refine op_repT pins s σ H _ _ v u Q I rx ry ⟨a, j, xs, rfl, rfl, h1, ?_, by omega, by omega, by rw [← r1.length]; exact hl, fun p hp => ?_⟩
        · intro z
          have e1 := r1.length
          have e2 := hs.2.2.2
          rw [z] at e1
          cases i with
          | nil => simp at e2
          | cons _ _ => simp at e1
        · rw [reps_eq] at q
          exact q _ _ (same_upd hp) ((r1.reps _).newTup n hp)
      · cases f
    | _ => simp [Py.vMul] at f
  | _ => simp [Py.vMul] at f
theorem so_fdiv : OpR X (binaryOp .FloorDiv) (rOp (gx X g) Py.vFdiv) := by
  intro pins s σ H x y v u Q I rx ry h
  obtain ⟨M, d, e, r, n, rd, re, f, q⟩ := h
  cases d with
  | int i =>
    cases e with
    | int j =>
      simp only [Py.vFdiv, Py.frInt_eq] at f
      split at f
      · cases f
      · rename_i hs
        simp only [Option.some.injEq] at f
        subst f
        rw [RT.int' rd] at rx; rw [RT.int' re] at ry
        simp only [Bool.or_eq_true, Bool.not_eq_true', not_or, Py.ieq_eq, decide_eq_true_eq, Bool.not_eq_false, Nat.blt_eq] at hs
        exact op_fdivN pins s σ H _ _ v u Q I rx ry ⟨i, j, rfl, rfl, hs, q _ H (Same.refl H) (.int _)⟩
    | _ => simp [Py.vFdiv] at f
  | _ => simp [Py.vFdiv] at f
theorem so_mod : OpR X (binaryOp .Mod) (rOp (gx X g) Py.vMod) := by
  intro pins s σ H x y v u Q I rx ry h
  obtain ⟨M, d, e, r, n, rd, re, f, q⟩ := h
  cases d with
  | int i =>
    cases e with
    | int j =>
      simp only [Py.vMod, Py.frInt_eq] at f
      split at f
      · cases f
      · rename_i hs
        simp only [Option.some.injEq] at f
        subst f
        rw [RT.int' rd] at rx; rw [RT.int' re] at ry
        simp only [Py.ieq_eq, decide_eq_true_eq] at hs
        exact op_modN pins s σ H _ _ v u Q I rx ry ⟨i, j, rfl, rfl, hs, q _ H (Same.refl H) (.int _)⟩
    | _ => simp [Py.vMod] at f
  | _ => simp [Py.vMod] at f
theorem so_pow : OpR X (binaryOp .Pow) (rOp (gx X g) Py.vPow) := by
  intro pins s σ H x y v u Q I rx ry h
  obtain ⟨M, d, e, r, n, rd, re, f, q⟩ := h
  cases d with
  | int i =>
    cases e with
    | int j =>
      simp only [Py.vPow, Py.frInt_eq] at f
      split at f
      · cases f
      · rename_i hs
        simp only [Option.some.injEq] at f
        subst f
        rw [RT.int' rd] at rx; rw [RT.int' re] at ry
        simp only [Bool.or_eq_true, Bool.not_eq_true', not_or, Py.ilt_eq, decide_eq_true_eq, Bool.not_eq_false] at hs
        have hb := small_iff hs.2.2
        exact op_pow pins s σ H _ _ v u Q I rx ry ⟨i, j, rfl, rfl, ⟨by omega, by omega, by omega⟩, q _ H (Same.refl H) (.int _)⟩
    | _ => simp [Py.vPow] at f
  | _ => simp [Py.vPow] at f
theorem so_neg : UnR X (unaryOp .USub) (rOp1 (gx X g) Py.vNeg) := by
  intro pins s σ H x v Q I rx h
  obtain ⟨M, d, r, n, rd, f, q⟩ := h
  cases d with
  | int i =>
    simp only [Py.vNeg, Py.frInt_eq, Option.some.injEq] at f
    subst f
    rw [RT.int' rd] at rx
    exact un_neg pins s σ H _ v Q I rx ⟨i, rfl, q _ H (Same.refl H) (.int _)⟩
  | _ => simp [Py.vNeg] at f

/-! ### truth -/
theorem RT.tru {M : Addr → Prop} {H : Hp} {K : PySem.W.Frag} {fa : Nat → Addr} {d : D} {v : V} {b : Bool} (r : RT K fa M H d v) (e : d.truthy = some b) : TruV K v H b := by
  cases d with
  | non => rw [RT.non' (g := ⟨K, fa, fa, []⟩) r]; simp [Py.D.truthy] at e; exact e
  | bl k => rw [RT.bl' (g := ⟨K, fa, fa, []⟩) r]; simp [Py.D.truthy] at e; exact e.symm
  | int i =>
    rw [RT.int' (g := ⟨K, fa, fa, []⟩) r]
    simp only [Py.D.truthy, Option.some.injEq] at e
    show b = (i != 0)
    rw [← e, Py.ieq_eq, Bool.eq_iff_iff]
    simp
  | str x =>
    rw [RT.str' (g := ⟨K, fa, fa, []⟩) r]
    simp only [Py.D.truthy] at e
    split at e
    · rename_i hl
      simp only [Option.some.injEq] at e
      refine ⟨by rw [sizeLine_eq]; simpa [sOf, Str.length] using Nat.ble_eq.mp hl, ?_⟩
      rw [← e, Bool.eq_iff_iff]
      simp [sOf, Str.length, List.isEmpty_iff]
    · cases e
  | lst ds =>
    obtain ⟨a, vs, rfl, h, r⟩ := r
    simp only [Py.D.truthy, Option.some.injEq] at e
    refine .inl ⟨vs, SqL.of h, ?_⟩
    rw [← e]
    have := r.length
    cases ds <;> cases vs <;> simp at this ⊢
  | tup ds =>
    obtain ⟨a, vs, rfl, h, r⟩ := RT.tup' (g := ⟨K, fa, fa, []⟩) r
    simp only [Py.D.truthy, Option.some.injEq] at e
    refine .inr (.inl ⟨vs, h, ?_⟩)
    rw [← e]
    have := r.length
    cases ds <;> cases vs <;> simp at this ⊢
  | dct ks ds => simp [Py.D.truthy] at e
  | fn f => simp [Py.D.truthy] at e

/-! ### comparisons -/
def bo (c : D → D → Option Bool) : D → D → Option D := fun x y => match c x y with
  | some b => some (.bl b)
  | none => none
theorem bo_some {c : D → D → Option Bool} {x y r : D} (h : bo c x y = some r) : ∃ b, c x y = some b ∧ r = .bl b := by
  unfold bo at h
  cases e : c x y with
  | none => rw [e] at h; cases h
  | some b => rw [e] at h; cases h; exact ⟨b, rfl, rfl⟩
theorem RT.reads {M : Addr → Prop} {H : Hp} {pins : List (Addr × Obj)} {s : Shared} {σ : L2.St} (I : Inv X pins σ H s) {n : Nat} {d : D} {v : V} {u : Value} (ok : d.okd n = true) (r : RT X.K g.fa M H d v) (ru : RelV v u) : ∃ as, Reads s.heap u (toP d) as :=
  Dp.reads I (toP d) v u (RT.dp ok r) ru
theorem deep_room {A : Around} (hu : A.units + 64 < cLine) {d e : D} (h : d.okd Py.D.deep = true) : A.units + min (toP d).depth (toP e).depth < cLine := by
  have := depth_of h
  have hd : Py.D.deep = 40 := rfl
  omega
theorem so_eq (hu : X.A.units + 64 < cLine) : OpR X (compareOp .Eq) (rOp (gx X g) (bo Py.cEq)) := by
  intro pins s σ H x y v u Q I rx ry h
  obtain ⟨M, d, e, r, n, rd, re, f, q⟩ := h
  obtain ⟨b, f2, er⟩ := bo_some f
  subst er
  clear f
  have f := f2
  clear f2
  unfold Py.cEq at f
  split at f
  · rename_i hb
    simp only [Option.some.injEq] at f
    simp only [Py.both, Bool.and_eq_true] at hb
    obtain ⟨as, r1⟩ := RT.reads I hb.1 rd rx
    obtain ⟨bs, r2⟩ := RT.reads I hb.2 re ry
    refine PySem.SeqAt.eq_plain r1 r2 (plain_of hb.1) (plain_of hb.2) (deep_room hu hb.1) ?_
    rw [eqv_of hb.1 hb.2, f]
    exact ⟨.bl b, H, I, rfl, q _ H (Same.refl H) (.bl b)⟩
  · cases f
theorem so_ne (hu : X.A.units + 64 < cLine) : OpR X (compareOp .NotEq) (rOp (gx X g) (bo Py.cNe)) := by
  intro pins s σ H x y v u Q I rx ry h
  obtain ⟨M, d, e, r, n, rd, re, f, q⟩ := h
  obtain ⟨b, f2, er⟩ := bo_some f
  subst er
  clear f
  have f := f2
  clear f2
  unfold Py.cNe Py.cEq at f
  split at f
  · rename_i b' hb'
    split at hb'
    · rename_i hb
      simp only [Option.some.injEq] at f hb'
      simp only [Py.both, Bool.and_eq_true] at hb
      obtain ⟨as, r1⟩ := RT.reads I hb.1 rd rx
      obtain ⟨bs, r2⟩ := RT.reads I hb.2 re ry
      refine PySem.SeqAt.ne_plain r1 r2 (plain_of hb.1) (plain_of hb.2) (deep_room hu hb.1) ?_
      rw [eqv_of hb.1 hb.2, hb', f]
      exact ⟨.bl b, H, I, rfl, q _ H (Same.refl H) (.bl b)⟩
    · cases hb'
  · cases f
theorem toP_none {n : Nat} {d : D} (h : d.okd n = true) (e : d.isNon = false) : toP d ≠ .none := by
  cases d with
  | non => simp [Py.D.isNon] at e
  | dct _ _ => cases n <;> simp [Py.D.okd] at h
  | fn _ => cases n <;> simp [Py.D.okd] at h
  | _ => simp [toP]
theorem ord_split {d e : D} (h : Py.ord d e = true) : d.alike e = true ∧ d.okd Py.D.deep = true ∧ e.okd Py.D.deep = true ∧ d.isNon = false := by
  simp only [Py.ord, Py.both, Bool.and_eq_true, Bool.not_eq_true'] at h
  exact ⟨h.1, h.2.1.1, h.2.1.2, h.2.2⟩
theorem alike_swap : ∀ {n m : Nat} {a b : D}, a.okd n = true → b.okd m = true → a.alike b = true → b.alike a = true := fun {n m a b} h1 h2 h => by
  rw [← alike_of h2 h1, PySem.W.alike_comm, alike_of h1 h2]
  exact h
theorem so_lt (hu : X.A.units + 64 < cLine) : OpR X (compareOp .Lt) (rOp (gx X g) (bo Py.cLt)) := by
  intro pins s σ H x y v u Q I rx ry h
  obtain ⟨M, d, e, r, n, rd, re, f, q⟩ := h
  obtain ⟨b, f2, er⟩ := bo_some f
  subst er
  clear f
  have f := f2
  clear f2
  unfold Py.cLt at f
  split at f
  · rename_i hb
    simp only [Option.some.injEq] at f
    obtain ⟨h1, h2, h3, h4⟩ := ord_split hb
    obtain ⟨as, r1⟩ := RT.reads I h2 rd rx
    obtain ⟨bs, r2⟩ := RT.reads I h3 re ry
    refine PySem.W.lt_data r1 r2 (by rw [alike_of h2 h3]; exact h1) (toP_none h2 h4) (deep_room hu h2) ?_
    rw [lt_of h2 h3 h1, f]
    exact ⟨.bl b, H, I, rfl, q _ H (Same.refl H) (.bl b)⟩
  · cases f
theorem so_gt (hu : X.A.units + 64 < cLine) : OpR X (compareOp .Gt) (rOp (gx X g) (bo Py.cGt)) := by
  intro pins s σ H x y v u Q I rx ry h
  obtain ⟨M, d, e, r, n, rd, re, f, q⟩ := h
  obtain ⟨b, f2, er⟩ := bo_some f
  subst er
  clear f
  have f := f2
  clear f2
  unfold Py.cGt at f
  split at f
  · rename_i hb
    simp only [Option.some.injEq] at f
    obtain ⟨h1, h2, h3, h4⟩ := ord_split hb
    obtain ⟨as, r1⟩ := RT.reads I h2 rd rx
    obtain ⟨bs, r2⟩ := RT.reads I h3 re ry
    refine PySem.W.gt_data r1 r2 (by rw [alike_of h2 h3]; exact h1) (toP_none h2 h4) (deep_room hu h2) ?_
    rw [lt_of h3 h2 (alike_swap h2 h3 h1), f]
    exact ⟨.bl b, H, I, rfl, q _ H (Same.refl H) (.bl b)⟩
  · cases f
theorem so_le (hu : X.A.units + 64 < cLine) : OpR X (compareOp .LtE) (rOp (gx X g) (bo Py.cLe)) := by
  intro pins s σ H x y v u Q I rx ry h
  obtain ⟨M, d, e, r, n, rd, re, f, q⟩ := h
  obtain ⟨b, f2, er⟩ := bo_some f
  subst er
  clear f
  have f := f2
  clear f2
  unfold Py.cLe at f
  split at f
  · rename_i hb
    simp only [Option.some.injEq] at f
    obtain ⟨h1, h2, h3, h4⟩ := ord_split hb
    obtain ⟨as, r1⟩ := RT.reads I h2 rd rx
    obtain ⟨bs, r2⟩ := RT.reads I h3 re ry
    refine PySem.W.le_data r1 r2 (by rw [alike_of h2 h3]; exact h1) (toP_none h2 h4) (deep_room hu h2) ?_
    rw [lt_of h3 h2 (alike_swap h2 h3 h1), f]
    exact ⟨.bl b, H, I, rfl, q _ H (Same.refl H) (.bl b)⟩
  · cases f
theorem so_ge (hu : X.A.units + 64 < cLine) : OpR X (compareOp .GtE) (rOp (gx X g) (bo Py.cGe)) := by
  intro pins s σ H x y v u Q I rx ry h
  obtain ⟨M, d, e, r, n, rd, re, f, q⟩ := h
  obtain ⟨b, f2, er⟩ := bo_some f
  subst er
  clear f
  have f := f2
  clear f2
  unfold Py.cGe at f
  split at f
  · rename_i hb
    simp only [Option.some.injEq] at f
    obtain ⟨h1, h2, h3, h4⟩ := ord_split hb
    obtain ⟨as, r1⟩ := RT.reads I h2 rd rx
    obtain ⟨bs, r2⟩ := RT.reads I h3 re ry
    refine PySem.W.ge_data r1 r2 (by rw [alike_of h2 h3]; exact h1) (toP_none h2 h4) (deep_room hu h2) ?_
    rw [lt_of h2 h3 h1, f]
    exact ⟨.bl b, H, I, rfl, q _ H (Same.refl H) (.bl b)⟩
  · cases f
theorem so_is : OpR X (compareOp .Is) (rOp (gx X g) (bo Py.cIs)) := by
  intro pins s σ H x y v u Q I rx ry h
  obtain ⟨M, d, e, r, n, rd, re, f, q⟩ := h
  obtain ⟨b, f2, er⟩ := bo_some f
  subst er
  clear f
  have f := f2
  clear f2
  cases e with
  | non =>
    have ey := RT.non' re
    subst ey
    have f' : d.isNon = b := by cases d <;> simpa [Py.cIs] using f
    refine op_isN pins s σ H _ _ v u Q I rx ry ⟨rfl, ?_⟩
    have e1 : decide (x = V.non) = b := by
      rw [← f']
      cases d with
      | non => rw [RT.non' rd]; rfl
      | bl k => rw [RT.bl' rd]; rfl
      | int k => rw [RT.int' rd]; rfl
      | str k => rw [RT.str' rd]; rfl
      | tup k => obtain ⟨a, vs, rfl, _⟩ := RT.tup' rd; rfl
      | lst k => obtain ⟨a, vs, rfl, _⟩ := rd; rfl
      | dct k l => obtain ⟨a, rfl, _⟩ := rd; rfl
      | fn k => have rd : RD (gx X g).K (gx X g).fa M H (.fn k) x := rd; cases rd; rfl
    rw [e1]
    exact q _ H (Same.refl H) (.bl b)
  | bl k =>
    cases d with
    | bl j =>
      simp only [Py.cIs, Option.some.injEq] at f
      have ex := RT.bl' rd
      have ey := RT.bl' re
      subst ex ey
      refine op_isBl pins s σ H _ _ v u Q I rx ry ⟨j, k, rfl, rfl, ?_⟩
      have e1 : decide (j = k) = b := by rw [← f, Bool.eq_iff_iff]; simp
      rw [e1]
      exact q _ H (Same.refl H) (.bl b)
    | _ => simp [Py.cIs] at f
  | _ => cases d <;> simp [Py.cIs] at f
theorem so_isnot : OpR X (compareOp .IsNot) (rOp (gx X g) (bo Py.cIsNot)) := by
  intro pins s σ H x y v u Q I rx ry h
  obtain ⟨M, d, e, r, n, rd, re, f, q⟩ := h
  obtain ⟨b, f2, er⟩ := bo_some f
  subst er
  clear f
  have f := f2
  clear f2
  cases e with
  | non =>
    have ey := RT.non' re
    subst ey
    have f' : (!d.isNon) = b := by cases d <;> simpa [Py.cIsNot, Py.cIs] using f
    refine op_notN pins s σ H _ _ v u Q I rx ry ⟨rfl, ?_⟩
    have e1 : (!decide (x = V.non)) = b := by
      rw [← f']
      congr 1
      cases d with
      | non => rw [RT.non' rd]; rfl
      | bl k => rw [RT.bl' rd]; rfl
      | int k => rw [RT.int' rd]; rfl
      | str k => rw [RT.str' rd]; rfl
      | tup k => obtain ⟨a, vs, rfl, _⟩ := RT.tup' rd; rfl
      | lst k => obtain ⟨a, vs, rfl, _⟩ := rd; rfl
      | dct k l => obtain ⟨a, rfl, _⟩ := rd; rfl
      | fn k => have rd : RD (gx X g).K (gx X g).fa M H (.fn k) x := rd; cases rd; rfl
    rw [e1]
    exact q _ H (Same.refl H) (.bl b)
  | bl k =>
    cases d with
    | bl j =>
      simp only [Py.cIsNot, Py.cIs, Option.some.injEq] at f
      have ex := RT.bl' rd
      have ey := RT.bl' re
      subst ex ey
      refine op_notBl pins s σ H _ _ v u Q I rx ry ⟨j, k, rfl, rfl, ?_⟩
      have e1 : (!decide (j = k)) = b := by rw [← f]; cases j <;> cases k <;> rfl
      rw [e1]
      exact q _ H (Same.refl H) (.bl b)
    | _ => simp [Py.cIsNot, Py.cIs] at f
  | _ => cases d <;> simp [Py.cIsNot, Py.cIs] at f
end
end Sd

set_option autoImplicit false
set_option linter.all false
set_option maxRecDepth 100000
set_option maxHeartbeats 2000000
/-! SndF: in, places, slices, calls of built-ins. -/
namespace Sd
open PySem L2 PySem.Spec PyProof.Rows
section
variable {X : Cx} {g : G}
theorem mem_of {n m : Nat} {x : D} (hx : x.okd n = true) : ∀ {ys : List D}, Py.D.okdAll m ys = true → (toPs ys).any (fun y => PyData.eqv y (toP x)) = Py.D.mem x ys
  | [], _ => by simp [toPs, Py.D.mem]
  | y :: ys, h => by
    simp only [Py.D.okdAll, Bool.and_eq_true] at h
    simp only [toPs, List.any_cons, Py.D.mem]
    rw [eqv_of h.1 hx, mem_of hx h.2]
theorem inS_eq (c : Nat) : ∀ x : List Nat, Py.inS c x = decide (c ∈ x)
  | [] => by simp [Py.inS]
  | a :: x => by
    rw [Py.inS, inS_eq c x, Bool.eq_iff_iff]
    simp only [Bool.or_eq_true, decide_eq_true_eq, List.mem_cons]
    constructor
    · rintro (h | h)
      · exact .inl (Nat.eq_of_beq_eq_true h).symm
      · exact .inr h
    · rintro (h | h)
      · exact .inl (by rw [h]; exact Nat.beq_refl a)
      · exact .inr h
theorem sign1_some {x : List Nat} {c : Nat} (h : Py.sign1 x = some c) : x = [c] := by
  unfold Py.sign1 at h
  split at h
  · simp only [Option.some.injEq] at h; rw [h]
  · cases h
theorem so_in (hu : X.A.units + 64 < cLine) : OpR X (compareOp .In) (rOp (gx X g) (bo Py.cIn)) := by
  intro pins s σ H x y v u Q I rx ry h
  obtain ⟨M, d, e, r, n, rd, re, f, q⟩ := h
  obtain ⟨b, f2, er⟩ := bo_some f
  subst er
  clear f
  have fin : EP X pins σ Q (.bool b) s := ⟨.bl b, H, I, rfl, q _ H (Same.refl H) (.bl b)⟩
  cases e with
  | lst ys =>
    simp only [Py.cIn] at f2
    split at f2
    · rename_i hb
      simp only [Option.some.injEq] at f2
      simp only [Bool.and_eq_true] at hb
      obtain ⟨as, r1⟩ := RT.reads I hb.1 rd rx
      obtain ⟨bs, r2⟩ := RT.reads (n := Py.D.deep + 1) (g := g) I (d := .lst ys) (by simp only [Py.D.okd]; exact hb.2) re ry
      simp only [toP] at r2
      have dd := depth_of hb.1
      have e1 : Py.D.deep = 40 := rfl
      refine PySem.SeqAt.in_list_data r2 r1 (plainAll_of hb.2) (plain_of hb.1) (by omega) ?_
      rw [mem_of hb.1 hb.2, f2]
      exact fin
    · cases f2
  | tup ys =>
    simp only [Py.cIn] at f2
    split at f2
    · rename_i hb
      simp only [Option.some.injEq] at f2
      simp only [Bool.and_eq_true] at hb
      obtain ⟨as, r1⟩ := RT.reads I hb.1 rd rx
      obtain ⟨bs, r2⟩ := RT.reads (n := Py.D.deep + 1) (g := g) I (d := .tup ys) (by simp only [Py.D.okd]; exact hb.2) re ry
      simp only [toP] at r2
      have dd := depth_of hb.1
      have e1 : Py.D.deep = 40 := rfl
      refine PySem.SeqAt.in_tuple_data r2 r1 (plainAll_of hb.2) (plain_of hb.1) (by omega) ?_
      rw [mem_of hb.1 hb.2, f2]
      exact fin
    · cases f2
  | str z =>
    cases d with
    | str w =>
      simp only [Py.cIn] at f2
      split at f2
      · rename_i c hc
        simp only [Option.some.injEq] at f2
        have ew := sign1_some hc
        subst ew
        have ex := RT.str' rd
        have ey := RT.str' re
        subst ex ey
        refine op_in_sign pins s σ H _ _ v u Q I rx ry ⟨c, sOf z, rfl, rfl, ?_⟩
        have e1 : decide (c ∈ (sOf z).cps.toList) = b := by rw [← f2, inS_eq]; exact decide_eq_decide.mpr (by simp [sOf])
        rw [e1]
        exact q _ H (Same.refl H) (.bl b)
      · cases f2
    | _ => simp [Py.cIn] at f2
  | _ => cases d <;> simp [Py.cIn] at f2
theorem so_notin (hu : X.A.units + 64 < cLine) : OpR X (compareOp .NotIn) (rOp (gx X g) (bo Py.cNotIn)) := by
  intro pins s σ H x y v u Q I rx ry h
  obtain ⟨M, d, e, r, n, rd, re, f, q⟩ := h
  obtain ⟨b, f2, er⟩ := bo_some f
  subst er
  clear f
  have fin : EP X pins σ Q (.bool b) s := ⟨.bl b, H, I, rfl, q _ H (Same.refl H) (.bl b)⟩
  cases e with
  | lst ys =>
    simp only [Py.cNotIn, Py.cIn] at f2
    split at f2
    · rename_i b' hb'
      split at hb'
      · rename_i hb
        simp only [Option.some.injEq] at f2 hb'
        simp only [Bool.and_eq_true] at hb
        obtain ⟨as, r1⟩ := RT.reads I hb.1 rd rx
        obtain ⟨bs, r2⟩ := RT.reads (n := Py.D.deep + 1) (g := g) I (d := .lst ys) (by simp only [Py.D.okd]; exact hb.2) re ry
        simp only [toP] at r2
        have dd := depth_of hb.1
        have e1 : Py.D.deep = 40 := rfl
        refine PySem.SeqAt.notIn_list_data r2 r1 (plainAll_of hb.2) (plain_of hb.1) (by omega) ?_
        rw [mem_of hb.1 hb.2, hb', f2]
        exact fin
      · cases hb'
    · cases f2
  | tup ys =>
    simp only [Py.cNotIn, Py.cIn] at f2
    split at f2
    · rename_i b' hb'
      split at hb'
      · rename_i hb
        simp only [Option.some.injEq] at f2 hb'
        simp only [Bool.and_eq_true] at hb
        obtain ⟨as, r1⟩ := RT.reads I hb.1 rd rx
        obtain ⟨bs, r2⟩ := RT.reads (n := Py.D.deep + 1) (g := g) I (d := .tup ys) (by simp only [Py.D.okd]; exact hb.2) re ry
        simp only [toP] at r2
        have dd := depth_of hb.1
        have e1 : Py.D.deep = 40 := rfl
        refine PySem.SeqAt.notIn_tuple_data r2 r1 (plainAll_of hb.2) (plain_of hb.1) (by omega) ?_
        rw [mem_of hb.1 hb.2, hb', f2]
        exact fin
      · cases hb'
    · cases f2
  | str z =>
    cases d with
    | str w =>
      simp only [Py.cNotIn, Py.cIn] at f2
      split at f2
      · rename_i b' hb'
        split at hb'
        · rename_i c hc
          simp only [Option.some.injEq] at f2 hb'
          have ew := sign1_some hc
          subst ew
          have ex := RT.str' rd
          have ey := RT.str' re
          subst ex ey
          refine op_notIn_sign pins s σ H _ _ v u Q I rx ry ⟨c, sOf z, rfl, rfl, ?_⟩
          have e1 : (!decide (c ∈ (sOf z).cps.toList)) = b := by rw [← f2, ← hb', inS_eq]; congr 1
          rw [e1]
          exact q _ H (Same.refl H) (.bl b)
        · cases hb'
      · cases f2
    | _ => simp [Py.cNotIn, Py.cIn] at f2
  | _ => cases d <;> simp [Py.cNotIn, Py.cIn] at f2

/-! ### places -/
theorem place_ix {α : Type} {xs : List α} {i : Int} {k : Nat} {v : α} (h : Py.place xs.length i = some k) (e : Py.nth xs k = some v) : atI xs i = some v := by
  rw [Py.nth_eq] at e
  unfold atI ixN
  cases i with
  | ofNat m =>
    simp only [Py.place] at h
    split at h
    · rename_i hm
      simp only [Option.some.injEq] at h
      subst h
      have hm : m < xs.length := Nat.blt_eq.mp hm
      have h0 : (0 : Int) ≤ Int.ofNat m := Int.natCast_nonneg m
      have h1 : Int.ofNat m < (xs.length : Int) := Int.ofNat_lt.mpr hm
      rw [if_pos h0, if_pos h1]
      exact e
    · cases h
  | negSucc m =>
    simp only [Py.place] at h
    split at h
    · rename_i hm
      simp only [Option.some.injEq] at h
      subst h
      have hm : m < xs.length := Nat.blt_eq.mp hm
      have h0 : ¬ (0 : Int) ≤ Int.negSucc m := by rw [Int.negSucc_eq]; omega
      have h1 : -(xs.length : Int) ≤ Int.negSucc m := by rw [Int.negSucc_eq]; omega
      rw [if_neg h0, if_pos h1]
      have e2 : (Int.negSucc m + (xs.length : Int)).toNat = xs.length - (m + 1) := by rw [Int.negSucc_eq]; omega
      rw [e2]
      exact e
    · cases h
theorem atI_rds {M : Addr → Prop} {H : Hp} {ds : List D} {vs : List V} {i : Int} {d : D} (r : RDs g.K g.fa M H ds vs) (h : atI ds i = some d) : ∃ v, atI vs i = some v ∧ RD g.K g.fa M H d v := by
  unfold atI at *
  rw [← r.length]
  cases e : ixN ds.length i with
  | none => rw [e] at h; cases h
  | some j =>
    rw [e] at h
    exact r.get h
theorem si_idx : IxR X (rOp (gx X g) Py.vIdx) := by
  intro value slice pins s σ H x y v u Q I rx ry h
  obtain ⟨M, d, e, r, n, rd, re, f, q⟩ := h
  have one : ∀ {ds : List D} {i : Int}, (match Py.place ds.length i with | some k => Py.nth ds k | none => none) = some r → atI ds i = some r := fun {ds i} z => by
    split at z
    · rename_i k hk
      exact place_ix hk z
    · cases z
  cases d with
  | lst ds =>
    cases e with
    | int i =>
      obtain ⟨a, vs, rfl, h1, r1⟩ := rd
      have ey := RT.int' re
      subst ey
      obtain ⟨w, e1, r2⟩ := atI_rds r1 (one f)
      exact ix_list value slice pins s σ H _ _ v u Q I rx ry ⟨a, vs, i, w, rfl, rfl, SqL.of h1, e1, q _ H (Same.refl H) r2⟩
    | _ => simp [Py.vIdx] at f
  | tup ds =>
    cases e with
    | int i =>
      obtain ⟨a, vs, rfl, h1, r1⟩ := RT.tup' rd
      have ey := RT.int' re
      subst ey
      obtain ⟨w, e1, r2⟩ := atI_rds r1 (one f)
      exact ix_tup value slice pins s σ H _ _ v u Q I rx ry ⟨a, vs, i, w, rfl, rfl, h1, e1, q _ H (Same.refl H) r2⟩
    | _ => simp [Py.vIdx] at f
  | str z =>
    cases e with
    | int i =>
      simp only [Py.vIdx] at f
      split at f
      · rename_i hl
        split at f
        · rename_i k hk
          split at f
          · rename_i c hc
            simp only [Option.some.injEq] at f
            subst f
            have ex := RT.str' rd
            have ey := RT.int' re
            subst ex ey
            refine ix_str value slice pins s σ H _ _ v u Q I rx ry ⟨sOf z, i, c, rfl, rfl, ?_, ?_, q _ H (Same.refl H) (.str [c])⟩
            · rw [← line_eq]; simpa [sOf, Str.length] using Nat.ble_eq.mp hl
            · have := place_ix hk hc
              simpa [sOf] using this
          · cases f
        · cases f
      · cases f
    | _ => simp [Py.vIdx] at f
  | _ => simp [Py.vIdx] at f

/-! ### slices -/
theorem clip_sIx (n d : Nat) (o : Option Int) : Py.clip n d o = HT.sIx n d o := by
  cases o with
  | none => rfl
  | some i =>
    have e := HT.clip_eq i n d
    have e3 : ((Py.clip n d (some i) : Nat) : Int) = if i < 0 then max (i + (n : Int)) 0 else min i (n : Int) := by
      cases i with
      | ofNat k =>
        have h0 : ¬ Int.ofNat k < 0 := by have : (0 : Int) ≤ Int.ofNat k := Int.natCast_nonneg k; omega
        rw [if_neg h0]
        simp only [Py.clip]
        split
        · rename_i h
          have h : k ≤ n := Nat.ble_eq.mp h
          show (k : Int) = min (k : Int) n
          omega
        · rename_i h
          have h : ¬ k ≤ n := fun z => h (Nat.ble_eq.mpr z)
          show (n : Int) = min (k : Int) n
          omega
      | negSucc k =>
        have h0 : Int.negSucc k < 0 := by rw [Int.negSucc_eq]; omega
        rw [if_pos h0]
        simp only [Py.clip]
        split
        · rename_i h
          have h : k < n := Nat.blt_eq.mp h
          rw [Int.negSucc_eq]
          omega
        · rename_i h
          have h : ¬ k < n := fun z => h (Nat.blt_eq.mpr z)
          rw [Int.negSucc_eq]
          omega
    rw [e] at e3
    exact Int.ofNat.inj e3
theorem cut_eq {α : Type} (xs : List α) (lo hi : Option Int) : Py.cut xs lo hi = (xs.drop (HT.sIx xs.length 0 lo)).take (HT.sIx xs.length xs.length hi - HT.sIx xs.length 0 lo) := by
  unfold Py.cut
  simp only [Py.frNat_eq, clip_sIx]
theorem RDs.cut {M : Addr → Prop} {H : Hp} {ds : List D} {vs : List V} (r : RDs g.K g.fa M H ds vs) (lo hi : Option Int) : RDs g.K g.fa M H (Py.cut ds lo hi) (cutV vs lo hi) := by
  rw [cut_eq, r.length]
  exact (r.drop _).take _
/-- a slice by the evaluator's own -/
def rSl (g : G) : V → Option Int → Option Int → Hp → VK → Prop := fun x lo hi H Q => ∃ (M : Addr → Prop) (d r : D), NoTup M H ∧ RT g.K g.fa M H d x ∧ Py.vCut d lo hi = some r ∧ ∀ v H', Same H H' → RD g.K g.fa M H' r v → ((∃ xs, d = .lst xs) → Nw g M H H' r v) → Q v H'
theorem ss_cut : SlR X (rSl (gx X g)) := by
  intro pins s σ H x v vl vu lo hi sl Q I rx hs pl pu h
  obtain ⟨M, d, r, n, rd, f, q⟩ := h
  cases d with
  | lst ds =>
    simp only [Py.vCut, Option.some.injEq] at f
    subst f
    obtain ⟨a, vs, rfl, h1, r1⟩ := rd
    exact sl_list pins s σ H _ v vl vu lo hi sl Q I rx hs pl pu ⟨a, vs, rfl, SqL.of h1, fun p hp => q _ _ (same_upd hp) ((r1.cut lo hi).newLst n hp) fun _ => (r1.cut lo hi).nwLst n hp⟩
  | tup ds =>
    simp only [Py.vCut, Option.some.injEq] at f
    subst f
    obtain ⟨a, vs, rfl, h1, r1⟩ := RT.tup' rd
    refine sl_tupA pins s σ H _ v vl vu lo hi sl Q I rx hs pl pu ⟨a, vs, rfl, h1, fun hw => ?_, fun _ p hp => q _ _ (same_upd hp) ((r1.cut lo hi).newTup n hp) fun ⟨_, z⟩ => nomatch z⟩
    refine q _ H (Same.refl H) (.tup h1 ?_) fun ⟨_, z⟩ => nomatch z
    have r2 := r1.cut lo hi
    have e : cutV vs lo hi = vs := by
      unfold cutV
      rw [hw.1, hw.2]
      simp
    rw [e] at r2
    exact r2
  | _ => simp [Py.vCut] at f
end
end Sd

set_option autoImplicit false
set_option linter.all false
set_option maxRecDepth 100000
set_option maxHeartbeats 2000000
/-! SndG: calls of built-ins. -/
namespace PySem
open PySem.W PyProof.Rows
section
variable {prog : Program} {w : World} {A : Around} {E : Value → Shared → Prop} {s : Shared}
/-- min(a, b) of alike data -/
theorem min_two_data {a b : Value} {da db : PyData} {as bs : List Addr} {Q : Value → Shared → Prop} (hh : A.handled = none) (ra : Reads s.heap a da as) (rb : Reads s.heap b db bs) (hab : alike db da = true) (haa : alike da da = true) (hbb : alike db db = true) (hba : alike da db = true)
    (na : da ≠ .none) (nb : db ≠ .none) (hu : A.units + 1 + max da.depth db.depth < cLine)
    (h : ∀ h' tk, (∀ c o, s.heap.get? c = some o → h'.get? c = some o) → Q (if dataLt db da = true then b else a) { s with heap := h', toks := tk }) :
    wpAny (model prog w) A (call (.builtin "min") [a, b]) Q E s := by
  have hname : (toString "min" ++ toString ".loop" : String) = "min.loop" := by decide
  refine call_function_tree F.kind_min F.plain_min F.entry_min (F.args_min2 _ _) ?_
  show wpAny _ A.in1 (Builtin.Builtins.bindParams "min" ["key", "default"] 0 ⟨[], []⟩ >>= _) _ _ s
  refine wpAny_bind (wpAny_of_eq (show Builtin.Builtins.bindParams "min" ["key", "default"] 0 ⟨[], []⟩ = pure [none, none] from rfl) ?_)
  show wpAny _ A.in1 (newTuple [a, b] >>= _) _ _ s
  refine wpAny_bind (wpAny_newObj_type ?_)
  generalize hs1 : ({ s with heap := s.heap.push { cls := .type "tuple", data := .seq [a, b].toArray } } : Shared) = s1
  have k1 : ∀ c o, s.heap.get? c = some o → s1.heap.get? c = some o := fun c o e => by rw [← hs1]; exact Heap.get?_push_of_some _ e
  have hT : s1.heap.IsTuple s.heap.objs.size #[a, b] := by rw [← hs1]; exact ⟨_, Heap.get?_push_size _ rfl, rfl, 0, rfl⟩
  have hr : ReadsAll s1.heap (#[a, b] : Array Value).toList [da, db] (as ++ (bs ++ [])) := .cons (Reads.keeps k1 ra) (.cons (Reads.keeps k1 rb) .nil)
  have hal : AlikeAll [da, db] := ⟨fun x hx y hy => by
    simp only [List.mem_cons, List.not_mem_nil, or_false] at hx hy
    rcases hx with rfl | rfl <;> rcases hy with rfl | rfl <;> assumption, fun x hx => by
    simp only [List.mem_cons, List.not_mem_nil, or_false] at hx
    rcases hx with rfl | rfl <;> assumption⟩
  refine wpAny_bind (iter_tupleW (A := A.in1) hh hT fun s₂ e W st hfp hw hk => ?_)
  have hSf : s₂.heap.objs.size ∉ [s1.heap.objs.size, s.heap.objs.size] := fun hm => Nat.lt_irrefl _ (hfp _ hm)
  refine wpAny_bind (wpAny_newObj_type ?_)
  rw [hname]
  refine wpAny_pure ⟨plainId_quiet F.plain_min_loop _, codeAny_min_loop_firstH W s1.heap hw _ (cmpIn_lt (A := A.in1) hr hal (by
    show A.units + 1 + _ < _
    simp only [PyData.depthAll]
    have : max da.depth (max db.depth 0) = max da.depth db.depth := by omega
    rw [this]; exact hu)) s₂.heap.objs.size hSf (fresh_in hk) _ (by simp) (fun c o e => Heap.get?_push_of_some _ (hk c o e)) (W.frame 0 s₂ _ s₂.toks st (Nat.le_refl _) fun c _ o e => Heap.get?_push_of_some _ e) (Heap.get?_push_size _ rfl) fun v s' hP hm => ?_⟩
  obtain ⟨h', tk, rfl, hk'⟩ := moved_old e rfl (Moved.drop_new (tk := s₂.toks) hm (Nat.le_refl _))
  have hv : v = if dataLt db da = true then b else a := by
    have hP : (#[a, b] : Array Value)[argBest (fun i j => dataLt ([da, db].getD i .none) ([da, db].getD j .none)) 1]? = some v := hP
    by_cases hl : dataLt db da = true
    · have e1 : argBest (fun i j => dataLt ([da, db].getD i .none) ([da, db].getD j .none)) 1 = 1 := by simp [argBest, hl]
      rw [e1] at hP
      rw [if_pos hl]
      simpa using hP.symm
    · have e1 : argBest (fun i j => dataLt ([da, db].getD i .none) ([da, db].getD j .none)) 1 = 0 := by simp [argBest, hl]
      rw [e1] at hP
      rw [if_neg hl]
      simpa using hP.symm
  rw [hv]
  have := h h' tk fun c o ec => hk' c o (k1 c o ec)
  rw [← hs1]
  exact this
/-- max(a, b) of alike data -/
theorem max_two_data {a b : Value} {da db : PyData} {as bs : List Addr} {Q : Value → Shared → Prop} (hh : A.handled = none) (ra : Reads s.heap a da as) (rb : Reads s.heap b db bs) (hab : alike db da = true) (haa : alike da da = true) (hbb : alike db db = true) (hba : alike da db = true)
    (na : da ≠ .none) (nb : db ≠ .none) (hu : A.units + 1 + max da.depth db.depth < cLine)
    (h : ∀ h' tk, (∀ c o, s.heap.get? c = some o → h'.get? c = some o) → Q (if dataLt da db = true then b else a) { s with heap := h', toks := tk }) :
    wpAny (model prog w) A (call (.builtin "max") [a, b]) Q E s := by
  have hname : (toString "max" ++ toString ".loop" : String) = "max.loop" := by decide
  refine call_function_tree F.kind_max F.plain_max F.entry_max (F.args_max2 _ _) ?_
  show wpAny _ A.in1 (Builtin.Builtins.bindParams "max" ["key", "default"] 0 ⟨[], []⟩ >>= _) _ _ s
  refine wpAny_bind (wpAny_of_eq (show Builtin.Builtins.bindParams "max" ["key", "default"] 0 ⟨[], []⟩ = pure [none, none] from rfl) ?_)
  show wpAny _ A.in1 (newTuple [a, b] >>= _) _ _ s
  refine wpAny_bind (wpAny_newObj_type ?_)
  generalize hs1 : ({ s with heap := s.heap.push { cls := .type "tuple", data := .seq [a, b].toArray } } : Shared) = s1
  have k1 : ∀ c o, s.heap.get? c = some o → s1.heap.get? c = some o := fun c o e => by rw [← hs1]; exact Heap.get?_push_of_some _ e
  have hT : s1.heap.IsTuple s.heap.objs.size #[a, b] := by rw [← hs1]; exact ⟨_, Heap.get?_push_size _ rfl, rfl, 0, rfl⟩
  have hr : ReadsAll s1.heap (#[a, b] : Array Value).toList [da, db] (as ++ (bs ++ [])) := .cons (Reads.keeps k1 ra) (.cons (Reads.keeps k1 rb) .nil)
  have hal : AlikeAll [da, db] := ⟨fun x hx y hy => by
    simp only [List.mem_cons, List.not_mem_nil, or_false] at hx hy
    rcases hx with rfl | rfl <;> rcases hy with rfl | rfl <;> assumption, fun x hx => by
    simp only [List.mem_cons, List.not_mem_nil, or_false] at hx
    rcases hx with rfl | rfl <;> assumption⟩
  refine wpAny_bind (iter_tupleW (A := A.in1) hh hT fun s₂ e W st hfp hw hk => ?_)
  have hSf : s₂.heap.objs.size ∉ [s1.heap.objs.size, s.heap.objs.size] := fun hm => Nat.lt_irrefl _ (hfp _ hm)
  refine wpAny_bind (wpAny_newObj_type ?_)
  rw [hname]
  refine wpAny_pure ⟨plainId_quiet F.plain_max_loop _, codeAny_max_loop_firstH W s1.heap hw _ (cmpIn_gt (A := A.in1) hr hal (by
    show A.units + 1 + _ < _
    simp only [PyData.depthAll]
    have : max da.depth (max db.depth 0) = max da.depth db.depth := by omega
    rw [this]; exact hu)) s₂.heap.objs.size hSf (fresh_in hk) _ (by simp) (fun c o e => Heap.get?_push_of_some _ (hk c o e)) (W.frame 0 s₂ _ s₂.toks st (Nat.le_refl _) fun c _ o e => Heap.get?_push_of_some _ e) (Heap.get?_push_size _ rfl) fun v s' hP hm => ?_⟩
  obtain ⟨h', tk, rfl, hk'⟩ := moved_old e rfl (Moved.drop_new (tk := s₂.toks) hm (Nat.le_refl _))
  have hv : v = if dataLt da db = true then b else a := by
    have hP : (#[a, b] : Array Value)[argBest (fun i j => dataLt ([da, db].getD j .none) ([da, db].getD i .none)) 1]? = some v := hP
    by_cases hl : dataLt da db = true
    · have e1 : argBest (fun i j => dataLt ([da, db].getD j .none) ([da, db].getD i .none)) 1 = 1 := by simp [argBest, hl]
      rw [e1] at hP
      rw [if_pos hl]
      simpa using hP.symm
    · have e1 : argBest (fun i j => dataLt ([da, db].getD j .none) ([da, db].getD i .none)) 1 = 0 := by simp [argBest, hl]
      rw [e1] at hP
      rw [if_neg hl]
      simpa using hP.symm
  rw [hv]
  have := h h' tk fun c o ec => hk' c o (k1 c o ec)
  rw [← hs1]
  exact this
end
end PySem
namespace Sd
open PySem L2 PySem.Spec PyProof.Rows
section
variable {X : Cx} {g : G}
theorem alike_refl : ∀ {n m : Nat} {a b : D}, a.okd n = true → b.okd m = true → a.alike b = true → a.isNon = false → b.isNon = false := fun {n m a b} h1 h2 h e => by
  cases a <;> cases b <;> first | rfl | (simp [Py.D.alike] at h; done) | (simp [Py.D.isNon] at e; done)
mutual
theorem alike_self {n : Nat} : ∀ {a : D}, a.okd n = true → a.alike a = true
  | .non, _ => by simp [Py.D.alike]
  | .bl _, _ => by simp [Py.D.alike]
  | .int _, _ => by simp [Py.D.alike]
  | .str _, _ => by simp [Py.D.alike]
  | .tup ds, h => by
    cases n with
    | zero => simp [Py.D.okd] at h
    | succ n => simp only [Py.D.alike]; exact alikeAll_self (by simpa [Py.D.okd] using h)
  | .lst ds, h => by
    cases n with
    | zero => simp [Py.D.okd] at h
    | succ n => simp only [Py.D.alike]; exact alikeAll_self (by simpa [Py.D.okd] using h)
  | .dct _ _, h => by cases n <;> simp [Py.D.okd] at h
  | .fn _, h => by cases n <;> simp [Py.D.okd] at h
theorem alikeAll_self {n : Nat} : ∀ {a : List D}, Py.D.okdAll n a = true → Py.D.alikeAll a a = true
  | [], _ => by simp [Py.D.alikeAll]
  | x :: xs, h => by
    simp only [Py.D.okdAll, Bool.and_eq_true] at h
    simp only [Py.D.alikeAll, Bool.and_eq_true]
    exact ⟨alike_self h.1, alikeAll_self h.2⟩
end
theorem RT.flat {M : Addr → Prop} {H : Hp} {d : D} {v : V} (h : Py.noLst d = true) (r : RT g.K g.fa M H d v) : RD g.K g.fa M H d v := by
  cases d <;> first | exact r | (simp [Py.noLst] at h; done)
theorem ite_rel {b : Bool} {x y : V} {u w' : Value} (rx : RelV x u) (ry : RelV y w') : RelV (if b = true then y else x) (if b = true then w' else u) := by
  cases b
  · exact rx
  · exact ry
theorem sc_min2 (hc : X.calm = true) (hu : X.A.units + 64 < cLine) : CallR X (.builtin "min") (rC2 (gx X g) Py.vMin2) := by
  intro pins s σ H xs us Q I rr h
  obtain ⟨M, x, y, d, e, r, rfl, n, rd, re, f, q⟩ := h
  obtain ⟨u, w', rfl, rx, ry⟩ := vals2 rr
  unfold Py.vMin2 at f
  split at f
  · rename_i hl
    simp only [Bool.and_eq_true] at hl
    have key : ∃ b, Py.cLt e d = some b ∧ r = if b = true then e else d := by
      split at f
      · rename_i hb; simp only [Option.some.injEq] at f; exact ⟨true, hb, by simp [f]⟩
      · rename_i hb; simp only [Option.some.injEq] at f; exact ⟨false, hb, by simp [f]⟩
      · cases f
    obtain ⟨b, hb, hr⟩ := key
    unfold Py.cLt at hb
    split at hb
    · rename_i ho
      simp only [Option.some.injEq] at hb
      obtain ⟨h1, h2, h3, h4⟩ := ord_split ho
      obtain ⟨as, r1⟩ := RT.reads I h3 rd rx
      obtain ⟨bs, r2⟩ := RT.reads I h2 re ry
      have h5 := alike_swap h2 h3 h1
      have d1 := depth_of h2
      have d2 := depth_of h3
      have dd : Py.D.deep = 40 := rfl
      refine PySem.min_two_data (I.ok.hd hc) r1 r2 (by rw [alike_of h2 h3]; exact h1) (by rw [alike_of h3 h3]; exact alike_self h3) (by rw [alike_of h2 h2]; exact alike_self h2) (by rw [alike_of h3 h2]; exact h5)
        (toP_none h3 (alike_refl h2 h3 h1 h4)) (toP_none h2 h4) (by omega) fun h' tk hk => ?_
      rw [lt_of h2 h3 h1, hb]
      refine ⟨_, H, I.kept hk, ite_rel rx ry, q _ H (Same.refl H) ?_⟩
      subst hr
      cases b
      · exact RT.flat hl.1 rd
      · exact RT.flat hl.2 re
    · cases hb
  · cases f
theorem sc_max2 (hc : X.calm = true) (hu : X.A.units + 64 < cLine) : CallR X (.builtin "max") (rC2 (gx X g) Py.vMax2) := by
  intro pins s σ H xs us Q I rr h
  obtain ⟨M, x, y, d, e, r, rfl, n, rd, re, f, q⟩ := h
  obtain ⟨u, w', rfl, rx, ry⟩ := vals2 rr
  unfold Py.vMax2 at f
  split at f
  · rename_i hl
    simp only [Bool.and_eq_true] at hl
    have key : ∃ b, Py.cGt e d = some b ∧ r = if b = true then e else d := by
      split at f
      · rename_i hb; simp only [Option.some.injEq] at f; exact ⟨true, hb, by simp [f]⟩
      · rename_i hb; simp only [Option.some.injEq] at f; exact ⟨false, hb, by simp [f]⟩
      · cases f
    obtain ⟨b, hb, hr⟩ := key
    unfold Py.cGt at hb
    split at hb
    · rename_i ho
      simp only [Option.some.injEq] at hb
      obtain ⟨h1, h2, h3, h4⟩ := ord_split ho
      obtain ⟨as, r1⟩ := RT.reads I h3 rd rx
      obtain ⟨bs, r2⟩ := RT.reads I h2 re ry
      have h5 := alike_swap h2 h3 h1
      have d1 := depth_of h2
      have d2 := depth_of h3
      have dd : Py.D.deep = 40 := rfl
      refine PySem.max_two_data (I.ok.hd hc) r1 r2 (by rw [alike_of h2 h3]; exact h1) (by rw [alike_of h3 h3]; exact alike_self h3) (by rw [alike_of h2 h2]; exact alike_self h2) (by rw [alike_of h3 h2]; exact h5)
        (toP_none h3 (alike_refl h2 h3 h1 h4)) (toP_none h2 h4) (by omega) fun h' tk hk => ?_
      rw [lt_of h3 h2 h5, hb]
      refine ⟨_, H, I.kept hk, ite_rel rx ry, q _ H (Same.refl H) ?_⟩
      subst hr
      cases b
      · exact RT.flat hl.1 rd
      · exact RT.flat hl.2 re
    · cases hb
  · cases f
theorem seqOf_cases {d : D} {ds : List D} (h : Py.seqOf d = some ds) : d = .lst ds ∨ d = .tup ds := by
  cases d <;> simp [Py.seqOf] at h
  · exact .inr (by rw [h])
  · exact .inl (by rw [h])
/-- a list's or a tuple's items -/
theorem RT.seq {M : Addr → Prop} {H : Hp} {d : D} {ds : List D} {v : V} (h : Py.seqOf d = some ds) (r : RT g.K g.fa M H d v) : ∃ a vs, v = .ref a ∧ (SqL g.K H a vs ∨ SqT g.K H a vs) ∧ RDs g.K g.fa M H ds vs := by
  rcases seqOf_cases h with rfl | rfl
  · obtain ⟨a, vs, rfl, h1, r1⟩ := r
    exact ⟨a, vs, rfl, .inl (SqL.of h1), r1⟩
  · obtain ⟨a, vs, rfl, h1, r1⟩ := RT.tup' r
    exact ⟨a, vs, rfl, .inr h1, r1⟩
theorem sc_len : CallR X (.builtin "len") (rC1 (gx X g) Py.vLen) := by
  intro pins s σ H xs us Q I rr h
  obtain ⟨M, x, d, r, rfl, n, rd, f, q⟩ := h
  cases d with
  | str z =>
    have ex := RT.str' rd
    subst ex
    simp only [Py.vLen] at f
    split at f
    · rename_i hl
      simp only [Option.some.injEq] at f
      subst f
      have e1 : (sOf z).length = z.length := by simp [sOf, Str.length]
      refine call_len_str pins s σ H _ us Q I rr ⟨sOf z, rfl, by rw [e1, ← line_eq]; exact Nat.ble_eq.mp hl, ?_⟩
      rw [e1]
      exact q _ H (Same.refl H) (.int _)
    · cases f
  | lst ds =>
    simp only [Py.vLen, Option.some.injEq] at f
    subst f
    obtain ⟨a, vs, rfl, h1, r1⟩ := rd
    refine call_len_seq pins s σ H _ us Q I rr ⟨a, vs, rfl, .inl (SqL.of h1), ?_⟩
    rw [← r1.length]
    exact q _ H (Same.refl H) (.int _)
  | tup ds =>
    simp only [Py.vLen, Option.some.injEq] at f
    subst f
    obtain ⟨a, vs, rfl, h1, r1⟩ := RT.tup' rd
    refine call_len_seq pins s σ H _ us Q I rr ⟨a, vs, rfl, .inr h1, ?_⟩
    rw [← r1.length]
    exact q _ H (Same.refl H) (.int _)
  | _ => simp [Py.vLen] at f
theorem sc_abs : CallR X (.builtin "abs") (rC1 (gx X g) Py.vAbs) := by
  intro pins s σ H xs us Q I rr h
  obtain ⟨M, x, d, r, rfl, n, rd, f, q⟩ := h
  cases d with
  | int i =>
    have ex := RT.int' rd
    subst ex
    simp only [Py.vAbs, Py.frNat_eq, Option.some.injEq] at f
    subst f
    refine call_abs pins s σ H _ us Q I rr ⟨i, rfl, ?_⟩
    have e : (if i < 0 then -i else i) = (i.natAbs : Int) := by split <;> omega
    rw [e]
    exact q _ H (Same.refl H) (.int _)
  | _ => simp [Py.vAbs] at f
theorem bools_vals {M : Addr → Prop} {H : Hp} : ∀ {ds : List D} {vs : List V} {bs : List Bool}, RDs g.K g.fa M H ds vs → Py.bools ds = some bs → vs = bs.map V.bl
  | _, _, bs, .nil, h => by simp [Py.bools] at h; subst h; rfl
  | _, _, bs, .cons (d := d) h1 r, h => by
    cases d with
    | bl b =>
      simp only [Py.bools] at h
      split at h
      · rename_i bs' hb
        simp only [Option.some.injEq] at h
        subst h
        cases h1
        rw [bools_vals r hb]
        rfl
      · cases h
    | _ => simp [Py.bools] at h
theorem toPs_bools : ∀ {ds : List D} {bs : List Bool}, Py.bools ds = some bs → toPs ds = bs.map PyData.bool
  | [], bs, h => by simp [Py.bools] at h; subst h; rfl
  | d :: ds, bs, h => by
    cases d with
    | bl b =>
      simp only [Py.bools] at h
      split at h
      · rename_i bs' hb
        simp only [Option.some.injEq] at h
        subst h
        simp only [toPs, toP, List.map_cons]
        rw [toPs_bools hb]
      · cases h
    | _ => simp [Py.bools] at h
theorem plain_bools (bs : List Bool) : PyData.plainAll (bs.map PyData.bool) = true := by
  induction bs with
  | nil => simp [PyData.plainAll]
  | cons b bs ih => simp [PyData.plainAll, PyData.plain, ih]
theorem readsAll_bools {h : Heap} (bs : List Bool) : ReadsAll h (bs.map Value.bool) (bs.map PyData.bool) [] := by
  induction bs with
  | nil => exact .nil
  | cons b bs ih => exact .cons (as := []) (.bool b) ih
theorem all_id (bs : List Bool) : (bs.map PyData.bool).all PySem.PyData.truthy = bs.all id := by
  induction bs with
  | nil => rfl
  | cons b bs ih => simp only [List.map_cons, List.all_cons, ih]; rfl
theorem any_id (bs : List Bool) : (bs.map PyData.bool).any PySem.PyData.truthy = bs.any id := by
  induction bs with
  | nil => rfl
  | cons b bs ih => simp only [List.map_cons, List.any_cons, ih]; rfl
theorem sc_all (hc : X.calm = true) : CallR X (.builtin "all") (rC1 (gx X g) Py.vAll) := by
  intro pins s σ H xs us Q I rr h
  obtain ⟨M, x, d, r, rfl, n, rd, f, q⟩ := h
  unfold Py.vAll Py.allT at f
  split at f
  · rename_i ds hd
    split at f
    · rename_i b hb
      simp only [Option.some.injEq] at f
      subst f
      split at hb
      · rename_i bs hbs
        simp only [Option.some.injEq] at hb
        subst hb
        obtain ⟨a, vs, rfl, h1, r1⟩ := RT.seq hd rd
        have ev := bools_vals r1 hbs
        subst ev
        obtain ⟨u, rfl, rx⟩ := vals1 rr
        cases rx
        have fin : ∀ h' tk, (∀ b o, s.heap.get? b = some o → h'.get? b = some o) → EP X pins σ Q (.bool ((bs.map PyData.bool).all PySem.PyData.truthy)) { s with heap := h', toks := tk } := fun h' tk hk => by
          rw [all_id]
          exact ⟨.bl _, H, I.kept hk, rfl, q _ H (Same.refl H) (.bl _)⟩
        rcases h1 with h1 | h1
        · obtain ⟨its, rv, p, _⟩ := I.list h1
          have eb := Vals.bls rv
          subst eb
          exact PySem.W.all_list_data (I.ok.hd hc) p.isList (by simpa using readsAll_bools bs) (plain_bools bs) (fun x hx => by obtain ⟨b, _, rfl⟩ := List.mem_map.mp hx; trivial) fin
        · obtain ⟨its, rv, p, _⟩ := I.tuple h1
          have eb := Vals.bls rv
          subst eb
          exact PySem.W.all_tuple_data (I.ok.hd hc) p (by simpa using readsAll_bools bs) (plain_bools bs) (fun x hx => by obtain ⟨b, _, rfl⟩ := List.mem_map.mp hx; trivial) fin
      · cases hb
    · cases f
  · cases f
theorem sc_any (hc : X.calm = true) : CallR X (.builtin "any") (rC1 (gx X g) Py.vAny) := by
  intro pins s σ H xs us Q I rr h
  obtain ⟨M, x, d, r, rfl, n, rd, f, q⟩ := h
  unfold Py.vAny Py.anyT at f
  split at f
  · rename_i ds hd
    split at f
    · rename_i b hb
      simp only [Option.some.injEq] at f
      subst f
      split at hb
      · rename_i bs hbs
        simp only [Option.some.injEq] at hb
        subst hb
        obtain ⟨a, vs, rfl, h1, r1⟩ := RT.seq hd rd
        have ev := bools_vals r1 hbs
        subst ev
        obtain ⟨u, rfl, rx⟩ := vals1 rr
        cases rx
        have fin : ∀ h' tk, (∀ b o, s.heap.get? b = some o → h'.get? b = some o) → EP X pins σ Q (.bool ((bs.map PyData.bool).any PySem.PyData.truthy)) { s with heap := h', toks := tk } := fun h' tk hk => by
          rw [any_id]
          exact ⟨.bl _, H, I.kept hk, rfl, q _ H (Same.refl H) (.bl _)⟩
        rcases h1 with h1 | h1
        · obtain ⟨its, rv, p, _⟩ := I.list h1
          have eb := Vals.bls rv
          subst eb
          exact PySem.W.any_list_data (I.ok.hd hc) p.isList (by simpa using readsAll_bools bs) (plain_bools bs) (fun x hx => by obtain ⟨b, _, rfl⟩ := List.mem_map.mp hx; trivial) fin
        · obtain ⟨its, rv, p, _⟩ := I.tuple h1
          have eb := Vals.bls rv
          subst eb
          exact PySem.W.any_tuple_data (I.ok.hd hc) p (by simpa using readsAll_bools bs) (plain_bools bs) (fun x hx => by obtain ⟨b, _, rfl⟩ := List.mem_map.mp hx; trivial) fin
      · cases hb
    · cases f
  · cases f
def clsName : Py.Cls → String
  | .int => "int" | .bool => "bool" | .str => "str" | .tuple => "tuple" | .list => "list"
/-- isinstance(x, T), T a built-in class -/
def rIsC (g : G) (c : Py.Cls) : List V → Hp → VK → Prop := fun xs H Q => ∃ (M : Addr → Prop) (x : V) (d r : D), xs = [x, .ty (clsName c)] ∧ NoTup M H ∧ RT g.K g.fa M H d x ∧ Py.vIsI c d = some r ∧ ∀ v H', Same H H' → RD g.K g.fa M H' r v → Q v H'
theorem sc_isi (c : Py.Cls) : CallR X (.builtin "isinstance") (rIsC (gx X g) c) := by
  intro pins s σ H xs us Q I rr h
  obtain ⟨M, x, d, r, rfl, n, rd, f, q⟩ := h
  obtain ⟨u, w', rfl, rx, ry⟩ := vals2 rr
  cases (show w' = Value.type (clsName c) from ry)
  have fin : ∀ b tk, r = .bl b → EP X pins σ Q (.bool b) { s with toks := tk } := fun b tk e => ⟨.bl b, H, I.tok tk, rfl, q _ H (Same.refl H) (by rw [e]; exact .bl b)⟩
  have fin0 : ∀ b, r = .bl b → EP X pins σ Q (.bool b) s := fun b e => ⟨.bl b, H, I, rfl, q _ H (Same.refl H) (by rw [e]; exact .bl b)⟩
  cases d with
  | non =>
    have ex := RT.non' rd
    subst ex
    cases rx
    have e : r = .bl false := by simpa [Py.vIsI, Py.isI] using f.symm
    cases c
    · exact PySem.W.isinstance_int_data .none fun tk _ => fin _ tk e
    · exact PySem.W.isinstance_bool_data .none fun tk _ => fin _ tk e
    · exact PySem.W.isinstance_str_data .none fun tk _ => fin _ tk e
    · exact PySem.W.isinstance_tuple_data .none fun tk _ => fin _ tk e
    · exact PySem.W.isinstance_list_data .none fun tk _ => fin _ tk e
  | bl b =>
    have ex := RT.bl' rd
    subst ex
    cases rx
    cases c <;> (have e := f; simp only [Py.vIsI, Py.isI, Option.some.injEq] at e)
    · exact PySem.W.isinstance_int_data (.bool b) fun tk _ => fin _ tk e.symm
    · exact PySem.W.isinstance_bool_data (.bool b) fun tk _ => fin _ tk e.symm
    · exact PySem.W.isinstance_str_data (.bool b) fun tk _ => fin _ tk e.symm
    · exact PySem.W.isinstance_tuple_data (.bool b) fun tk _ => fin _ tk e.symm
    · exact PySem.W.isinstance_list_data (.bool b) fun tk _ => fin _ tk e.symm
  | int i =>
    have ex := RT.int' rd
    subst ex
    obtain ⟨t, rfl⟩ := rx
    cases c <;> (have e := f; simp only [Py.vIsI, Py.isI, Option.some.injEq] at e)
    · exact PySem.W.isinstance_int_data (.int i t) fun tk _ => fin _ tk e.symm
    · exact PySem.W.isinstance_bool_data (.int i t) fun tk _ => fin _ tk e.symm
    · exact PySem.W.isinstance_str_data (.int i t) fun tk _ => fin _ tk e.symm
    · exact PySem.W.isinstance_tuple_data (.int i t) fun tk _ => fin _ tk e.symm
    · exact PySem.W.isinstance_list_data (.int i t) fun tk _ => fin _ tk e.symm
  | str z =>
    have ex := RT.str' rd
    subst ex
    obtain ⟨t, rfl⟩ := rx
    cases c <;> (have e := f; simp only [Py.vIsI, Py.isI, Option.some.injEq] at e)
    · exact PySem.W.isinstance_int_data (.str _ t) fun tk _ => fin _ tk e.symm
    · exact PySem.W.isinstance_bool_data (.str _ t) fun tk _ => fin _ tk e.symm
    · exact PySem.W.isinstance_str_data (.str _ t) fun tk _ => fin _ tk e.symm
    · exact PySem.W.isinstance_tuple_data (.str _ t) fun tk _ => fin _ tk e.symm
    · exact PySem.W.isinstance_list_data (.str _ t) fun tk _ => fin _ tk e.symm
  | lst ds =>
    obtain ⟨a, vs, rfl, h1, r1⟩ := rd
    cases rx
    obtain ⟨its, rv, p, _⟩ := I.list (SqL.of h1)
    obtain ⟨o, ho, ho2, _⟩ := p.isList
    cases c <;> (have e := f; simp only [Py.vIsI, Py.isI, Option.some.injEq] at e)
    · exact IsiPair.list_int ho ho2 (fin _ _ e.symm)
    · exact IsiPair.list_bool ho ho2 (fin _ _ e.symm)
    · exact IsiPair.list_str ho ho2 (fin _ _ e.symm)
    · exact IsiPair.list_tuple ho ho2 (fin _ _ e.symm)
    · exact IsiPair.list_list ho ho2 (fin0 _ e.symm)
  | tup ds =>
    obtain ⟨a, vs, rfl, h1, r1⟩ := RT.tup' rd
    cases rx
    obtain ⟨its, rv, p, _⟩ := I.tuple h1
    obtain ⟨o, ho, ho2, _⟩ := p
    cases c <;> (have e := f; simp only [Py.vIsI, Py.isI, Option.some.injEq] at e)
    · exact IsiPair.tuple_int ho ho2 (fin _ _ e.symm)
    · exact IsiPair.tuple_bool ho ho2 (fin _ _ e.symm)
    · exact IsiPair.tuple_str ho ho2 (fin _ _ e.symm)
    · exact IsiPair.tuple_tuple ho ho2 (fin0 _ e.symm)
    · exact IsiPair.tuple_list ho ho2 (fin _ _ e.symm)
  | _ => simp [Py.vIsI, Py.isI] at f
theorem sc_int : CallR X (.type "int") (rC1 (gx X g) Py.vInt) := by
  intro pins s σ H xs us Q I rr h
  obtain ⟨M, x, d, r, rfl, n, rd, f, q⟩ := h
  cases d with
  | int i =>
    have ex := RT.int' rd
    subst ex
    simp only [Py.vInt, Option.some.injEq] at f
    subst f
    exact call_int1 pins s σ H _ us Q I rr (.inl ⟨i, rfl, q _ H (Same.refl H) (.int _)⟩)
  | bl b =>
    have ex := RT.bl' rd
    subst ex
    simp only [Py.vInt, Option.some.injEq] at f
    subst f
    exact call_int1 pins s σ H _ us Q I rr (.inr ⟨b, rfl, q _ H (Same.refl H) (.int _)⟩)
  | _ => simp [Py.vInt] at f
theorem sc_tuple : CallR X (.type "tuple") (rC1 (gx X g) Py.vTuple) := by
  intro pins s σ H xs us Q I rr h
  obtain ⟨M, x, d, r, rfl, n, rd, f, q⟩ := h
  cases d with
  | lst ds =>
    simp only [Py.vTuple, Option.some.injEq] at f
    subst f
    obtain ⟨a, vs, rfl, h1, r1⟩ := rd
    exact call_tuple_of pins s σ H _ us Q I rr ⟨a, vs, rfl, .inl ⟨SqL.of h1, fun p hp => q _ _ (same_upd hp) (r1.newTup n hp)⟩⟩
  | tup ds =>
    simp only [Py.vTuple, Option.some.injEq] at f
    subst f
    obtain ⟨a, vs, rfl, h1, r1⟩ := RT.tup' rd
    exact call_tuple_of pins s σ H _ us Q I rr ⟨a, vs, rfl, .inr ⟨h1, q _ H (Same.refl H) (.tup h1 r1)⟩⟩
  | _ => simp [Py.vTuple] at f
theorem sc_list : CallR X (.type "list") (rC1N (gx X g) Py.vList) := by
  intro pins s σ H xs us Q I rr h
  obtain ⟨M, x, d, r, rfl, n, rd, f, q⟩ := h
  have hs : ∃ ds, Py.seqOf d = some ds ∧ r = .lst ds := by
    cases d <;> simp [Py.vList, Py.seqOf] at f ⊢ <;> exact f.symm
  obtain ⟨ds, hd, rfl⟩ := hs
  obtain ⟨a, vs, rfl, h1, r1⟩ := RT.seq hd rd
  exact call_list_of pins s σ H _ us Q I rr ⟨a, vs, rfl, h1, fun p hp => q _ _ (same_upd hp) (r1.nwLst n hp)⟩
end
end Sd

set_option autoImplicit false
set_option linter.all false
set_option maxRecDepth 100000
set_option maxHeartbeats 2000000
/-! SndH: expressions and tests, form by form. -/
namespace Sd
open PySem L2 PySem.Spec PyProof.Rows
section
variable {X : Cx} {g : G} {c : Fx} {W : WX} {cf : Py.CallF}
/-- going on behind a first part -/
theorem tD.go {α : Type} {d : Py.Dn} {f : Sl → CH → Py.Res α} {k : α → CH → Prop} {ρ : Rho} {env : Py.Ev} {h : CH} {σ : L2.St} {H : Hp} {Q : VK}
    (re : REnv g c ρ h H env σ) (rs : RSt g ρ h H) (e : EndR g W ρ h σ H k ((d cf env h).bind f))
    (q : ∀ x h1 ρ1 v H1, Post g ρ h H ρ1 h1 H1 → RRs g c ρ1 h1 H H1 x v → EndR g W ρ1 h1 σ H1 k (f x h1) → Q v H1) : tD g c W cf d σ H Q :=
  ⟨ρ, env, h, re, rs, e.bind.imp fun x h1 e1 ρ1 v H1 p r => q x h1 ρ1 v H1 p r (e1.later p)⟩
theorem tT.go {α : Type} {d : Py.Tn} {f : Bool → CH → Py.Res α} {k : α → CH → Prop} {ρ : Rho} {env : Py.Ev} {h : CH} {σ : L2.St} {H : Hp} {Q : Bool → Hp → Prop}
    (re : REnv g c ρ h H env σ) (rs : RSt g ρ h H) (e : EndR g W ρ h σ H k ((d cf env h).bind f))
    (q : ∀ x h1 ρ1 H1, Post g ρ h H ρ1 h1 H1 → EndR g W ρ1 h1 σ H1 k (f x h1) → Q x H1) : tT g c W cf d σ H Q :=
  ⟨ρ, env, h, re, rs, e.bind.imp fun x h1 e1 ρ1 H1 p => q x h1 ρ1 H1 p (e1.later p)⟩
theorem tA.go {α : Type} {d : Py.An} {f : List Sl → CH → Py.Res α} {k : α → CH → Prop} {ρ : Rho} {env : Py.Ev} {h : CH} {σ : L2.St} {H : Hp} {Q : List V → Hp → Prop}
    (re : REnv g c ρ h H env σ) (rs : RSt g ρ h H) (e : EndR g W ρ h σ H k ((d cf env h).bind f))
    (q : ∀ x h1 ρ1 v H1, Post g ρ h H ρ1 h1 H1 → RRss g c ρ1 h1 H1 H x v → EndR g W ρ1 h1 σ H1 k (f x h1) → Q v H1) : tA g c W cf d σ H Q :=
  ⟨ρ, env, h, re, rs, e.bind.imp fun x h1 e1 ρ1 v H1 p r => q x h1 ρ1 v H1 p r (e1.later p)⟩

/-! ### names, constants -/
theorem so_var {i : Nat} {x : Str} {pos : Pos} (hN : X.N[i]? = some x) (hv : Vis X.env.scope x) (hd : (x == ("__debug__" : Str)) = false := by decide) (hcd : (x == ("__classdict__" : Str)) = false := by decide) : PE X (.Name x pos) (tD g c W cf (Py.eVar i)) :=
  (pe_var hN hv hd hcd).imp fun σ H Q ⟨ρ, env, h, re, rs, e⟩ => by
    simp only [Py.eVar, Py.nth_eq] at e
    cases q : env[i]? with
    | none => rw [q] at e; exact e.elim
    | some x =>
      rw [q] at e
      rcases re.2 i x q with rfl | ⟨v, e1, r⟩
      · exact e.elim
      · cases x with
        | no => exact e.elim
        | d x => exact ⟨v, e1, e ρ v H (.refl rs) r⟩
        | f x => exact r.elim
        | m x => exact ⟨v, e1, e ρ v H (.refl rs) r⟩
        | clo x => exact ⟨v, e1, e ρ v H (.refl rs) r⟩
        | ex x => exact ⟨v, e1, e ρ v H (.refl rs) r⟩
theorem so_cst {d : D} {v : V} {a : Expr} (p : PE X a (tC v)) (r : ∀ M H, RD g.K g.fa M H d v) : PE X a (tD g c W cf (Py.eCst d)) :=
  p.imp fun σ H Q ⟨ρ, env, h, re, rs, e⟩ => e ρ v H (.refl rs) (r _ _)
theorem so_int {i : Int} {j pos} : PE X (.Constant (.int i) j pos) (tD g c W cf (Py.eCst (.int i))) := so_cst pe_int fun _ _ => .int i
theorem so_bl {b j pos} : PE X (.Constant (.bool b) j pos) (tD g c W cf (Py.eCst (.bl b))) := so_cst pe_bl fun _ _ => .bl b
theorem so_non {j pos} : PE X (.Constant .none j pos) (tD g c W cf (Py.eCst .non)) := so_cst pe_non fun _ _ => .non
theorem so_str {x : Str} {s : List Nat} {j pos} (h : x = ⟨s.toArray⟩ := by rfl) : PE X (.Constant (.str x) j pos) (tD g c W cf (Py.eCst (.str s))) := so_cst pe_str fun _ _ => by rw [h]; exact .str s
theorem so_glob {x : Str} {v : V} {u : Value} {d : D} {pos : Pos} (hg : Gl X x) (hm : X.mg x = some u) (r : RelV v u) (rd : ∀ M H, RD g.K g.fa M H d v) (hd : (x == ("__debug__" : Str)) = false := by decide) : PE X (.Name x pos) (tD g c W cf (Py.eCst d)) := so_cst (pe_glob hg hm r hd) rd

/-! ### operators -/
variable {a b e : Expr} {da db de : Py.Dn} {pos : Pos}
theorem tOp_by {f : D → D → Option D} {ρ : Rho} {env : Py.Ev} {h : CH} {σ : L2.St} {H : Hp} {Q : VK} {k : Sl → CH → Prop} (re : REnv g c ρ h H env σ) (rs : RSt g ρ h H) (e : EndR g W ρ h σ H k (Py.op2 f da db cf env h))
    (q : ∀ x y r h', f x y = some r → k (.d r) h' → ∀ ρ' v H', Post g ρ h H ρ' h' H' → RD g.K g.fa (live ρ' h') H' r v → Q v H') : tOp (rOp g f) (tD g c W cf da) (tD g c W cf db) σ H Q := by
  refine tD.go re rs e fun x h1 ρ1 v H1 p1 r1 e => tD.go (re.keep p1 rs.noTup) p1.st e fun y h2 ρ2 w H2 p2 r2 e => ?_
  obtain ⟨u, e1, e⟩ := e.of
  obtain ⟨z, e2, e⟩ := e.of
  obtain ⟨r, e3, e⟩ := e.of
  exact ⟨live ρ2 h2, u, z, r, p2.st.noTup, p2.st.rd (r1.keep p2 p1.st.noTup) e1, p2.st.rd r2 e2, e3, fun v' H' s rr => q u z r h2 e3 e ρ2 v' H' ((p1.trans p2).trans (.same p2.st s)) rr⟩
theorem tOp_of {f : D → D → Option D} {σ : L2.St} {H : Hp} {Q : VK} (t : tD g c W cf (Py.op2 f da db) σ H Q) : tOp (rOp g f) (tD g c W cf da) (tD g c W cf db) σ H Q := by
  obtain ⟨ρ, env, h, re, rs, e⟩ := t
  exact tOp_by re rs e fun x y r h' _ e ρ' v H' p rr => e ρ' v H' p rr
theorem so_op {op : Operator} {f : D → D → Option D} (ho : OpR X (binaryOp op) (rOp (gx X g) f)) (ha : PE X a (tD (gx X g) c W cf da)) (hb : PE X b (tD (gx X g) c W cf db)) : PE X (.BinOp a op b pos) (tD (gx X g) c W cf (Py.op2 f da db)) :=
  (pe_op ho ha hb).imp fun _ _ _ => tOp_of
theorem so_cmp {op : CmpOp} {f : D → D → Option Bool} (ho : OpR X (compareOp op) (rOp (gx X g) (bo f))) (ha : PE X a (tD (gx X g) c W cf da)) (hb : PE X b (tD (gx X g) c W cf db)) (hm : behindInMarks op b = false) : PE X (.Compare a [op] [b] pos) (tD (gx X g) c W cf (Py.eCmp f da db)) :=
  (pe_cmpR ho ha hb hm).imp fun _ _ _ => tOp_of
theorem so_un {op : UnaryOp} {f : D → Option D} (ho : UnR X (unaryOp op) (rOp1 (gx X g) f)) (ha : PE X a (tD (gx X g) c W cf da)) : PE X (.UnaryOp op a pos) (tD (gx X g) c W cf (Py.op1 f da)) :=
  (pe_un ho ha).imp fun σ H Q ⟨ρ, env, h, re, rs, e⟩ => by
    refine tD.go re rs e fun x h1 ρ1 v H1 p1 r1 e => ?_
    obtain ⟨u, e1, e⟩ := e.of
    obtain ⟨r, e3, e⟩ := e.of
    exact ⟨live ρ1 h1, u, r, p1.st.noTup, p1.st.rd r1 e1, e3, fun v' H' s rr => e ρ1 v' H' (p1.trans (.same p1.st s)) rr⟩
theorem so_item (hs : PlainIx b) (ha : PE X a (tD (gx X g) c W cf da)) (hb : PE X b (tD (gx X g) c W cf db)) : PE X (.Subscript a b pos) (tD (gx X g) c W cf (Py.op2 Py.vIdx da db)) :=
  (pe_ix si_idx ha hb hs).imp fun _ _ _ => tOp_of
theorem tChain_by {f f' : D → D → Option Bool} {ρ : Rho} {env : Py.Ev} {h : CH} {σ : L2.St} {H : Hp} {Q : VK} {k : Sl → CH → Prop} (re : REnv g c ρ h H env σ) (rs : RSt g ρ h H) (e : EndR g W ρ h σ H k (Py.eChain f f' da db de cf env h))
    (q : ∀ b h', k (.d (.bl b)) h' → ∀ ρ' H', Post g ρ h H ρ' h' H' → Q (.bl b) H') : tChain (rOp g (bo f)) (rOp g (bo f')) (tD g c W cf da) (tD g c W cf db) (tD g c W cf de) σ H Q := by
  refine tD.go re rs e fun x h1 ρ1 v H1 p1 r1 e => tD.go (re.keep p1 rs.noTup) p1.st e fun y h2 ρ2 w H2 p2 r2 e => ?_
  obtain ⟨u, e1, e⟩ := e.of
  obtain ⟨z, e2, e⟩ := e.of
  obtain ⟨k, e3, e⟩ := e.of
  refine ⟨live ρ2 h2, u, z, .bl k, p2.st.noTup, p2.st.rd (r1.keep p2 p1.st.noTup) e1, p2.st.rd r2 e2, by rw [bo, e3], fun v' H' s rr => ⟨k, rr.bl', ?_⟩⟩
  have p3 := Post.same p2.st s
  have re2 := (re.keep p1 rs.noTup).keep p2 p1.st.noTup
  cases k with
  | false => exact q _ _ e _ H' ((p1.trans p2).trans p3)
  | true =>
    have e := e.later p3
    refine tD.go (re2.keep p3 p2.st.noTup) p3.st e fun y' h4 ρ4 w' H4 p4 r4 e => ?_
    obtain ⟨z', e5, e⟩ := e.of
    obtain ⟨u', e6, e⟩ := e.of
    obtain ⟨k', e7, e⟩ := e.of
    exact ⟨live ρ4 h4, z', u', .bl k', p4.st.noTup, p4.st.rd ((r2.keep p3 p2.st.noTup).keep p4 p3.st.noTup) e5, p4.st.rd r4 e6, by rw [bo, e7], fun v5 H5 s5 r5 => by
      rw [r5.bl']
      exact q _ _ e _ H5 ((((p1.trans p2).trans p3).trans p4).trans (.same p4.st s5))⟩
theorem so_chain {op op' : CmpOp} {f f' : D → D → Option Bool} (ho : OpR X (compareOp op) (rOp (gx X g) (bo f))) (ho' : OpR X (compareOp op') (rOp (gx X g) (bo f'))) (ha : PE X a (tD (gx X g) c W cf da)) (hb : PE X b (tD (gx X g) c W cf db)) (hc : PE X e (tD (gx X g) c W cf de))
    (hm : lastMarks [op, op'] [b, e] = false := by with_unfolding_all rfl) : PE X (.Compare a [op, op'] [b, e] pos) (tD (gx X g) c W cf (Py.eChain f f' da db de)) :=
  (pe_chain ho ho' ha hb hc hm).imp fun σ H Q ⟨ρ, env, h, re, rs, e⟩ => tChain_by re rs e fun b h' e ρ' H' p => e ρ' _ H' p (.bl b)

/-! ### truth -/
theorem tru_of {ρ : Rho} {h : CH} {H H0 : Hp} (s : RSt g ρ h H) {x : Sl} {v : V} {b : Bool} (r : RRs g c ρ h H0 H x v) (e : Py.tru x h = some b) : TruV g.K v H b := by
  unfold Py.tru at e
  cases q : Py.rd x h with
  | none => rw [q] at e; cases e
  | some d => rw [q] at e; exact (s.rd r q).tru e
/-- any expression whose test is its value's truth -/
theorem st_val (ha : PE X a (tD (gx X g) c W cf da)) (he : ∀ whole, isTrue a X.env whole = (do let v ← whole; standAt a.pos; holding [v] (truthy v)) := by intro _; rfl) : PT X a (tT (gx X g) c W cf (Py.tVal da)) :=
  (pt_truth ha he).imp fun σ H Q ⟨ρ, env, h, re, rs, e⟩ => by
    refine tD.go re rs e fun x h1 ρ1 v H1 p1 r1 e => ?_
    obtain ⟨k, e1, e⟩ := e.of
    exact ⟨k, tru_of p1.st r1 e1, e ρ1 H1 p1⟩
/-- a comparison -/
theorem st_cmp {op : CmpOp} {f : D → D → Option Bool} (ho : OpR X (compareOp op) (rOp (gx X g) (bo f))) (ha : PE X a (tD (gx X g) c W cf da)) (hb : PE X b (tD (gx X g) c W cf db)) (hm : behindInMarks op b = false) : PT X (.Compare a [op] [b] pos) (tT (gx X g) c W cf (Py.tVal (Py.eCmp f da db))) :=
  (pt_cmpR ho ha hb hm).imp fun σ H Q ⟨ρ, env, h, re, rs, e⟩ => by
    have e := e.bind
    refine tOp_by re rs e fun x y r h' f e ρ' v H' p rr => ?_
    obtain ⟨b, _, rfl⟩ := bo_some f
    exact ⟨b, rr.bl', e ρ' H' p⟩
theorem st_chain {op op' : CmpOp} {f f' : D → D → Option Bool} (ho : OpR X (compareOp op) (rOp (gx X g) (bo f))) (ho' : OpR X (compareOp op') (rOp (gx X g) (bo f'))) (ha : PE X a (tD (gx X g) c W cf da)) (hb : PE X b (tD (gx X g) c W cf db)) (hc : PE X e (tD (gx X g) c W cf de))
    (hm : lastMarks [op, op'] [b, e] = false := by with_unfolding_all rfl) : PT X (.Compare a [op, op'] [b, e] pos) (tT (gx X g) c W cf (Py.tVal (Py.eChain f f' da db de))) :=
  (pt_chain ho ho' ha hb hc hm).imp fun σ H Q ⟨ρ, env, h, re, rs, e⟩ => by
    have e := e.bind
    exact tChain_by re rs e fun b h' e ρ' H' p => ⟨b, rfl, e ρ' H' p⟩
/-! and, or, not, if: tests -/
variable {ta tb tc : Py.Tn} {rest : List Expr}
theorem st_not (ha : PT X a (tT g c W cf ta)) : PT X (.UnaryOp .Not a pos) (tT g c W cf (Py.tNot ta)) :=
  (pt_not ha).imp fun σ H Q ⟨ρ, env, h, re, rs, e⟩ => tT.go re rs e fun x h1 ρ1 H1 p e => e ρ1 H1 p
theorem sw_and1 (ha : PT X a (tT g c W cf ta)) : PW X (.BoolOp .And [a] pos) (tT g c W cf ta) := pw_and1 ha
theorem sw_or1 (ha : PT X a (tT g c W cf ta)) : PW X (.BoolOp .Or [a] pos) (tT g c W cf ta) := pw_or1 ha
theorem _root_.L2.PW.imp {t t' : TT} (p : PW X e t) (f : ∀ σ H Q, t' σ H Q → t σ H Q) : PW X e t' := ⟨fun wh pins s σ H Q I h => p.run wh pins s σ H Q I (f _ _ _ h)⟩
theorem sw_and (ha : PT X a (tT g c W cf ta)) (hb : PW X (.BoolOp .And (b :: rest) pos) (tT g c W cf tb)) : PW X (.BoolOp .And (a :: b :: rest) pos) (tT g c W cf (Py.tAnd ta tb)) :=
  (pw_and ha hb).imp fun σ H Q ⟨ρ, env, h, re, rs, e⟩ => tT.go re rs e fun x h1 ρ1 H1 p e => by
    cases x with
    | true => exact ⟨ρ1, env, h1, re.keep p rs.noTup, p.st, e.imp fun b h2 e ρ2 H2 p2 => e ρ2 H2 (p.trans p2)⟩
    | false => exact e ρ1 H1 p
theorem sw_or (ha : PT X a (tT g c W cf ta)) (hb : PW X (.BoolOp .Or (b :: rest) pos) (tT g c W cf tb)) : PW X (.BoolOp .Or (a :: b :: rest) pos) (tT g c W cf (Py.tOr ta tb)) :=
  (pw_or ha hb).imp fun σ H Q ⟨ρ, env, h, re, rs, e⟩ => tT.go re rs e fun x h1 ρ1 H1 p e => by
    cases x with
    | false => exact ⟨ρ1, env, h1, re.keep p rs.noTup, p.st, e.imp fun b h2 e ρ2 H2 p2 => e ρ2 H2 (p.trans p2)⟩
    | true => exact e ρ1 H1 p
theorem st_bool {op : BoolOp} {es : List Expr} (h : PW X (.BoolOp op es pos) (tT g c W cf ta)) : PT X (.BoolOp op es pos) (tT g c W cf ta) := h.pt
/-! as values -/
theorem so_one {op : BoolOp} (h : PE X a (tD g c W cf da)) : PE X (.BoolOp op [a] pos) (tD g c W cf da) := pe_one h
theorem so_and (ha : PE X a (tD (gx X g) c W cf da)) (hb : PE X (.BoolOp .And (b :: rest) pos) (tD (gx X g) c W cf db)) : PE X (.BoolOp .And (a :: b :: rest) pos) (tD (gx X g) c W cf (Py.eAnd da db)) :=
  (pe_andT ha hb).imp fun σ H Q ⟨ρ, env, h, re, rs, e⟩ => tD.go re rs e fun x h1 ρ1 v H1 p r e => by
    obtain ⟨k, e1, e⟩ := e.of
    refine ⟨k, tru_of p.st r e1, ?_⟩
    cases k with
    | true => exact ⟨ρ1, env, h1, re.keep p rs.noTup, p.st, EndR.imp e fun b h2 e ρ2 v2 H2 p2 r2 => e ρ2 v2 H2 (p.trans p2) (r2.since p.frm.there)⟩
    | false => exact e ρ1 v H1 p r
theorem so_or (ha : PE X a (tD (gx X g) c W cf da)) (hb : PE X (.BoolOp .Or (b :: rest) pos) (tD (gx X g) c W cf db)) : PE X (.BoolOp .Or (a :: b :: rest) pos) (tD (gx X g) c W cf (Py.eOr da db)) :=
  (pe_orT ha hb).imp fun σ H Q ⟨ρ, env, h, re, rs, e⟩ => tD.go re rs e fun x h1 ρ1 v H1 p r e => by
    obtain ⟨k, e1, e⟩ := e.of
    refine ⟨k, tru_of p.st r e1, ?_⟩
    cases k with
    | false => exact ⟨ρ1, env, h1, re.keep p rs.noTup, p.st, EndR.imp e fun b h2 e ρ2 v2 H2 p2 r2 => e ρ2 v2 H2 (p.trans p2) (r2.since p.frm.there)⟩
    | true => exact e ρ1 v H1 p r
theorem so_not (ha : PE X a (tD (gx X g) c W cf da)) : PE X (.UnaryOp .Not a pos) (tD (gx X g) c W cf (Py.op1 Py.vNot da)) :=
  (pe_notT ha).imp fun σ H Q ⟨ρ, env, h, re, rs, e⟩ => tD.go re rs e fun x h1 ρ1 v H1 p r e => by
    obtain ⟨d, e1, e⟩ := e.of
    obtain ⟨u, e2, e⟩ := e.of
    unfold Py.vNot at e2
    cases q : d.truthy with
    | none => rw [q] at e2; cases e2
    | some k =>
      rw [q] at e2
      cases e2
      exact ⟨k, (p.st.rd r e1).tru q, e ρ1 _ H1 p (.bl _)⟩
theorem so_ife (hc : PT X e (tT g c W cf tc)) (ha : PE X a (tD g c W cf da)) (hb : PE X b (tD g c W cf db)) : PE X (.IfExp e a b pos) (tD g c W cf (Py.eIfe tc da db)) :=
  (pe_ifExp hc ha hb).imp fun σ H Q ⟨ρ, env, h, re, rs, e⟩ => tT.go re rs e fun x h1 ρ1 H1 p e => by
    cases x with
    | true => exact ⟨ρ1, env, h1, re.keep p rs.noTup, p.st, EndR.imp e fun b h2 e ρ2 v2 H2 p2 r2 => e ρ2 v2 H2 (p.trans p2) (r2.since p.frm.there)⟩
    | false => exact ⟨ρ1, env, h1, re.keep p rs.noTup, p.st, EndR.imp e fun b h2 e ρ2 v2 H2 p2 r2 => e ρ2 v2 H2 (p.trans p2) (r2.since p.frm.there)⟩
/-! argument lists, displays -/
variable {es : List Expr} {as : Py.An}
theorem sa_nil : PA X [] (tA g c W cf Py.aNil) := pa_nil.imp fun σ H Q ⟨ρ, env, h, re, rs, e⟩ => e ρ [] H (.refl rs) .nil
theorem sa_cons (ha : PE X e (tD g c W cf da)) (hr : PA X es (tA g c W cf as)) (hs : starEach (e :: es) X.env = (false, eval e X.env) :: starEach es X.env := by rfl) : PA X (e :: es) (tA g c W cf (Py.aCons da as)) :=
  (pa_cons ha hr hs).imp fun σ H Q ⟨ρ, env, h, re, rs, e⟩ => tD.go re rs e fun x h1 ρ1 v H1 p1 r1 e => tA.go (re.keep p1 rs.noTup) p1.st e fun y h2 ρ2 w H2 p2 r2 e =>
    e ρ2 _ H2 (p1.trans p2) (.cons p1.frm.there (r1.keep p2 p1.st.noTup) (fun hf a ea => by
      cases x with
      | f d =>
        obtain ⟨b, e1, _, e3, _⟩ := r1
        rw [e1] at ea; cases ea
        obtain ⟨o, q, _⟩ := (p1.st.pk _ e3).some
        exact ⟨o, q⟩
      | _ => simp [Py.isF] at hf) r2)
theorem RRss.pds {ρ : Rho} {h : CH} {H H0 : Hp} : ∀ {xs : List Sl} {vs : List V} {ds : List D}, RRss g c ρ h H H0 xs vs → Py.pds xs = some ds → RDs g.K g.fa (live ρ h) H ds vs := fun {xs vs ds} r => by
  induction r generalizing ds with
  | nil => intro e; cases e; exact .nil
  | cons _ r _ rr ih =>
    intro e
    unfold Py.pds at e
    split at e
    · split at e
      · rename_i q
        cases e
        exact .cons r (ih q)
      · cases e
    · cases e
theorem pds_len : ∀ {xs : List Sl} {ds : List D}, Py.pds xs = some ds → ds.length = xs.length
  | [], _, e => by cases e; rfl
  | x :: xs, _, e => by
    unfold Py.pds at e
    split at e
    · split at e
      · rename_i q
        cases e
        simp [pds_len q]
      · cases e
    · cases e
theorem RRss.length {ρ : Rho} {h : CH} {H H0 : Hp} {xs : List Sl} {vs : List V} (r : RRss g c ρ h H0 H xs vs) : xs.length = vs.length := by
  induction r with
  | nil => rfl
  | cons _ _ _ _ ih => simp [ih]
/-- a written row is short -/
def short : Nat := 1000
end
end Sd

set_option autoImplicit false
set_option linter.all false
set_option maxRecDepth 100000
set_option maxHeartbeats 2000000
/-! SndI: displays, slices, built-in calls, new things. -/
namespace Sd
open PySem L2 PySem.Spec PyProof.Rows
section
variable {X : Cx} {g : G} {c : Fx} {W : WX} {cf : Py.CallF}
theorem Post.nw {ρ ρ1 : Rho} {h h1 : CH} {H H1 H' : Hp} {d : D} {v : V} (p : Post g ρ h H ρ1 h1 H1) (s : Same H1 H') (nw : Nw g (live ρ1 h1) H1 H' d v) : ∃ ρ2, Post g ρ h H ρ2 h1 H' ∧ RRs g c ρ2 h1 H H' (.f d) v := by
  obtain ⟨a, rfl, e, r, l⟩ := nw
  refine ⟨ρ1.add a, p.trans (Post.new p.st s e (r.ld l)), a, rfl, none_back p.frm.there e, .inr rfl, ?_, l⟩
  have q : live (ρ1.add a) h1 = fun b => live ρ1 h1 b ∨ b = a := funext fun b => propext live_add
  rw [q]; exact r
/-- an expression that gives an object of its own, newly made -/
def tN (g : G) (c : Fx) (W : WX) (cf : Py.CallF) (d : Py.Dn) : TE := fun σ H Q => ∃ ρ env h, REnv g c ρ h H env σ ∧ RSt g ρ h H ∧
  EndR g W ρ h σ H (fun x h' => ∀ ρ' v H', Post g ρ h H ρ' h' H' → RRs g c ρ' h' H H' x v → (∀ d, x = .d d → isLD d → ∃ ρ2, Post g ρ h H ρ2 h' H' ∧ RRs g c ρ2 h' H H' (.f d) v) → Q v H') (d cf env h)
theorem tN.weak {d : Py.Dn} {σ : L2.St} {H : Hp} {Q : VK} (t : tD g c W cf d σ H Q) : tN g c W cf d σ H Q := by
  obtain ⟨ρ, env, h, re, rs, e⟩ := t
  exact ⟨ρ, env, h, re, rs, e.imp fun x h' q ρ' v H' p r _ => q ρ' v H' p r⟩
theorem so_ofN {a : Expr} {d : Py.Dn} (p : PE X a (tN g c W cf d)) : PE X a (tD g c W cf d) := p.imp fun _ _ _ => tN.weak
theorem tN.f {d : Py.Dn} {σ : L2.St} {H : Hp} {Q : VK} (t : tD g c W cf (Py.eF d) σ H Q) : tN g c W cf d σ H Q := by
  obtain ⟨ρ, env, h, re, rs, e⟩ := t
  refine ⟨ρ, env, h, re, rs, e.bind.imp fun x h' q ρ' v H' p r f => ?_⟩
  cases x with
  | d x =>
    cases x with
    | lst x =>
      obtain ⟨ρ2, p2, r2⟩ := f _ rfl trivial
      exact q ρ2 v H' p2 r2
    | dct x y =>
      obtain ⟨ρ2, p2, r2⟩ := f _ rfl trivial
      exact q ρ2 v H' p2 r2
    | _ => exact q.elim
  | _ => exact q.elim
theorem so_f {a : Expr} {d : Py.Dn} (p : PE X a (tN g c W cf d)) : PE X a (tD g c W cf (Py.eF d)) := p.imp fun _ _ _ => tN.f
variable {a b e : Expr} {es : List Expr} {da db de : Py.Dn} {as : Py.An} {pos : Pos}
/-- an operator that makes a new list -/
theorem so_opN {op : Operator} {f f' : D → D → Option D} (ho : OpR X (binaryOp op) (rOp (gx X g) f)) (ho' : OpR X (binaryOp op) (rOpN (gx X g) f')) (hf : ∀ x y z, f x y = some (.lst z) → f' x y = some (.lst z)) (hf2 : ∀ x y z u, f x y ≠ some (.dct z u))
    (ha : PE X a (tD (gx X g) c W cf da)) (hb : PE X b (tD (gx X g) c W cf db)) : PE X (.BinOp a op b pos) (tN (gx X g) c W cf (Py.op2 f da db)) :=
  (pe_op (ho.or ho') ha hb).imp fun σ H Q ⟨ρ, env, h, re, rs, e⟩ => by
    refine tD.go re rs e fun x h1 ρ1 v H1 p1 r1 e => tD.go (re.keep p1 rs.noTup) p1.st e fun y h2 ρ2 w H2 p2 r2 e => ?_
    obtain ⟨u, e1, e⟩ := e.of
    obtain ⟨z, e2, e⟩ := e.of
    obtain ⟨r, e3, e⟩ := e.of
    have q1 := p2.st.rd (r1.keep p2 p1.st.noTup) e1
    have q2 := p2.st.rd r2 e2
    have fin : ∀ {v' H'}, Same H2 H' → RD X.K g.fa (live ρ2 h2) H' r v' → Post (gx X g) ρ h H ρ2 h2 H' := fun s rr => (p1.trans p2).trans (.same p2.st s)
    cases r with
    | lst z =>
      refine .inr ⟨live ρ2 h2, u, _, _, p2.st.noTup, q1, q2, hf _ _ _ e3, fun v' H' s rr => e ρ2 v' H' (fin s (rr.rd p2.st.noTup s)) (rr.rd p2.st.noTup s) fun y z _ => by cases z; exact (p1.trans p2).nw s rr⟩
    | dct z y => exact (hf2 _ _ _ _ e3).elim
    | _ => exact .inl ⟨live ρ2 h2, u, _, _, p2.st.noTup, q1, q2, e3, fun v' H' s rr => e ρ2 v' H' (fin s rr) rr fun y z w => by cases z; exact w.elim⟩
theorem so_mulN : OpR X (binaryOp .Mult) (rOpN (gx X g) fun d e => match d, e with | .lst x, .int y => Py.vMul (.lst x) (.int y) | _, _ => none) := by
  intro pins s σ H x y v u Q I rx ry h
  obtain ⟨M, d, e, r, n, rd, re, f, q⟩ := h
  cases d with
  | lst i =>
    cases e with
    | int j =>
      simp only [Py.vMul] at f
      split at f
      · rename_i hs
        simp only [Option.some.injEq] at f
        subst f
        simp only [Bool.and_eq_true, Nat.blt_eq] at hs
        obtain ⟨a, xs, rfl, h1, r1⟩ := rd
        have ej := RT.int' re
        subst ej
        have hl : i.length * j.toNat ≤ sizeLine := by rw [← line_eq]; exact Nat.ble_eq.mp hs.1
        refine op_rep pins s σ H _ _ v u Q I rx ry ⟨a, j, xs, rfl, rfl, h1, by omega, by omega, by rw [← r1.length]; exact hl, fun p hp => ?_⟩
        rw [reps_eq] at q
        exact q _ _ (same_upd hp) ((r1.reps _).nwLst n hp)
      · cases f
    | _ => simp at f
  | _ => simp at f
theorem so_addF (ha : PE X a (tD (gx X g) c W cf da)) (hb : PE X b (tD (gx X g) c W cf db)) : PE X (.BinOp a .Add b pos) (tN (gx X g) c W cf (Py.op2 Py.vAdd da db)) :=
  so_opN so_add so_addN (fun x y z h => by cases x <;> cases y <;> simp only [Py.vAdd, Py.frInt_eq] at h ⊢ <;> first | exact h | cases h | (split at h <;> cases h)) (fun x y z u h => by cases x <;> cases y <;> simp only [Py.vAdd, Py.frInt_eq] at h <;> first | cases h | (split at h <;> cases h)) ha hb
theorem so_mulF (ha : PE X a (tD (gx X g) c W cf da)) (hb : PE X b (tD (gx X g) c W cf db)) : PE X (.BinOp a .Mult b pos) (tN (gx X g) c W cf (Py.op2 Py.vMul da db)) :=
  so_opN so_mul so_mulN (fun x y z h => by cases x <;> cases y <;> simp only [Py.vMul, Py.frInt_eq] at h ⊢ <;> first | exact h | cases h | (split at h <;> cases h)) (fun x y z u h => by cases x <;> cases y <;> simp only [Py.vMul, Py.frInt_eq] at h <;> first | cases h | (split at h <;> cases h)) ha hb

/-! displays -/
theorem so_tup {x1} (h : PA X es (tA (gx X g) c W cf as)) : PE X (.Tuple es x1 pos) (tD (gx X g) c W cf (Py.eTup as)) :=
  (pe_tup h).imp fun σ H Q ⟨ρ, env, h, re, rs, e⟩ => tA.go re rs e fun xs h1 ρ1 vs H1 p1 r1 e => by
    obtain ⟨ds, e1, e⟩ := e.of
    split at e
    · rename_i hl
      have r2 := r1.pds e1
      have p2 : ∀ p, H1 p = none → Post (gx X g) ρ1 h1 H1 ρ1 h1 (upd H1 p (.tup vs)) := fun p hp => .same p1.st (same_upd hp)
      exact ⟨by rw [← r2.length, ← line_eq]; exact Nat.ble_eq.mp hl, fun p hp => e ρ1 _ _ (p1.trans (p2 p hp)) (r2.newTup p1.st.noTup hp)⟩
    · exact e.elim
theorem sn_lst (h : PA X es (tA (gx X g) c W cf as)) : PE X (.List es pos) (tN (gx X g) c W cf (Py.eLst as)) :=
  (pe_lst h).imp fun σ H Q ⟨ρ, env, h, re, rs, e⟩ => tA.go re rs e fun xs h1 ρ1 vs H1 p1 r1 e => by
    obtain ⟨ds, e1, e⟩ := e.of
    split at e
    · rename_i hl
      have r2 := r1.pds e1
      have p2 : ∀ p, H1 p = none → Post (gx X g) ρ1 h1 H1 ρ1 h1 (upd H1 p (.lst vs)) := fun p hp => .same p1.st (same_upd hp)
      exact ⟨by rw [← r2.length, ← line_eq]; exact Nat.ble_eq.mp hl, fun p hp => e ρ1 _ _ (p1.trans (p2 p hp)) (r2.newLst p1.st.noTup hp) fun y z w => by cases z; exact p1.nw (same_upd hp) (r2.nwLst p1.st.noTup hp)⟩
    · exact e.elim

/-! slices -/
abbrev Od := Py.CallF → Py.Ev → CH → Py.Res (Option Int)
def tO (g : G) (c : Fx) (W : WX) (cf : Py.CallF) (d : Od) : TO := fun σ H Q => ∃ ρ env h, REnv g c ρ h H env σ ∧ RSt g ρ h H ∧
  EndR g W ρ h σ H (fun x h' => ∀ ρ' H', Post g ρ h H ρ' h' H' → Q x H') (d cf env h)
theorem _root_.L2.PO.imp {o : Option Expr} {t t' : TO} (p : PO X o t) (f : ∀ σ H Q, t' σ H Q → t σ H Q) : PO X o t' := ⟨fun pins s σ H Q I h => p.run pins s σ H Q I (f _ _ _ h)⟩
theorem sp_none : PO X none (tO g c W cf Py.oNone) := po_none.imp fun σ H Q ⟨ρ, env, h, re, rs, e⟩ => e ρ H (.refl rs)
theorem sp_some (ha : PE X a (tD g c W cf da)) : PO X (some a) (tO g c W cf (Py.oSome da)) := (po_some ha).imp fun σ H Q ⟨ρ, env, h, re, rs, e⟩ => tD.go re rs e fun x h1 ρ1 v H1 p r e => by
  cases x with
  | d x =>
    cases x with
    | int i => exact ⟨i, RD.int' r, e ρ1 H1 p⟩
    | _ => exact e.elim
  | _ => exact e.elim
theorem tO.go {α : Type} {d : Od} {f : Option Int → CH → Py.Res α} {k : α → CH → Prop} {ρ : Rho} {env : Py.Ev} {h : CH} {σ : L2.St} {H : Hp} {Q : Option Int → Hp → Prop}
    (re : REnv g c ρ h H env σ) (rs : RSt g ρ h H) (e : EndR g W ρ h σ H k ((d cf env h).bind f))
    (q : ∀ x h1 ρ1 H1, Post g ρ h H ρ1 h1 H1 → EndR g W ρ1 h1 σ H1 k (f x h1) → Q x H1) : tO g c W cf d σ H Q :=
  ⟨ρ, env, h, re, rs, e.bind.imp fun x h1 e1 ρ1 H1 p => q x h1 ρ1 H1 p (e1.later p)⟩
theorem sn_cut {lo hi : Option Expr} {dl dh : Od} {p2 : Pos} (ha : PE X a (tD (gx X g) c W cf da)) (hl : PO X lo (tO (gx X g) c W cf dl)) (hh : PO X hi (tO (gx X g) c W cf dh)) : PE X (.Subscript a (.Slice lo hi none p2) pos) (tN (gx X g) c W cf (Py.eCut da dl dh)) :=
  (pe_slice ss_cut ha hl hh).imp fun σ H Q ⟨ρ, env, h, re, rs, e⟩ => by
    refine tD.go re rs e fun x h1 ρ1 v H1 p1 r1 e => tO.go (re.keep p1 rs.noTup) p1.st e fun l h2 ρ2 H2 p2 e => tO.go ((re.keep p1 rs.noTup).keep p2 p1.st.noTup) p2.st e fun u h3 ρ3 H3 p3 e => ?_
    obtain ⟨d, e1, e⟩ := e.of
    obtain ⟨r, e4, e⟩ := e.of
    refine ⟨live ρ3 h3, d, r, p3.st.noTup, p3.st.rd ((r1.keep p2 p1.st.noTup).keep p3 p2.st.noTup) e1, e4, fun v' H' s rr f => e ρ3 v' H' (((p1.trans p2).trans p3).trans (.same p3.st s)) rr fun y z w => ?_⟩
    cases z
    cases d with
    | lst xs => exact ((p1.trans p2).trans p3).nw s (f ⟨_, rfl⟩)
    | tup xs => simp only [Py.vCut, Option.some.injEq] at e4; rw [← e4] at w; exact w.elim
    | _ => simp [Py.vCut] at e4

/-! built-in calls -/
variable {x : Str} {p : Pos} {id T : String} {f : D → Option D} {f2 : D → D → Option D}
theorem call1_of {σ : L2.St} {H : Hp} {Q : VK} (t : tD g c W cf (Py.op1 f da) σ H Q) : tCB (rC1 g f) (tCons (tD g c W cf da) tNil) σ H Q := by
  obtain ⟨ρ, env, h, re, rs, e⟩ := t
  refine tD.go re rs e fun x h1 ρ1 v H1 p1 r1 e => ?_
  obtain ⟨u, e1, e⟩ := e.of
  obtain ⟨r, e3, e⟩ := e.of
  exact ⟨live ρ1 h1, v, u, r, rfl, p1.st.noTup, p1.st.rd r1 e1, e3, fun v' H' s rr => e ρ1 v' H' (p1.trans (.same p1.st s)) rr⟩
theorem so_call1 (hc : CallR X (.builtin id) (rC1 (gx X g) f)) (hg : Gl X x) (hm : X.mg x = none) (hv : bootBuiltins x = some (.builtin id)) (ha : PE X a (tD (gx X g) c W cf da)) (hn : x ≠ "__name__" := by decide) (hdb : (x == ("__debug__" : Str)) = false := by decide)
    (hs : starEach [a] X.env = [(false, eval a X.env)] := by rfl) : PE X (.Call (.Name x p) [a] [] pos) (tD (gx X g) c W cf (Py.op1 f da)) :=
  (pe_callB hc hg hm hv (pa_cons ha pa_nil hs) hn hdb hs rfl).imp fun _ _ _ => call1_of
theorem so_call1T (hc : CallR X (.type T) (rC1 (gx X g) f)) (hg : Gl X x) (hm : X.mg x = none) (hv : bootBuiltins x = some (.type T)) (ha : PE X a (tD (gx X g) c W cf da)) (hn : x ≠ "__name__" := by decide) (hdb : (x == ("__debug__" : Str)) = false := by decide)
    (hs : starEach [a] X.env = [(false, eval a X.env)] := by rfl) : PE X (.Call (.Name x p) [a] [] pos) (tD (gx X g) c W cf (Py.op1 f da)) :=
  (pe_callTy hc hg hm hv (pa_cons ha pa_nil hs) hn hdb hs rfl).imp fun _ _ _ => call1_of
theorem call1N_of {σ : L2.St} {H : Hp} {Q : VK} (t : tN g c W cf (Py.op1 f da) σ H Q) : tCB (rC1N g f) (tCons (tD g c W cf da) tNil) σ H Q := by
  obtain ⟨ρ, env, h, re, rs, e⟩ := t
  refine tD.go re rs e fun x h1 ρ1 v H1 p1 r1 e => ?_
  obtain ⟨u, e1, e⟩ := e.of
  obtain ⟨r, e3, e⟩ := e.of
  exact ⟨live ρ1 h1, v, u, r, rfl, p1.st.noTup, p1.st.rd r1 e1, e3, fun v' H' s rr => e ρ1 v' H' (p1.trans (.same p1.st s)) (rr.rd p1.st.noTup s) fun y z _ => by cases z; exact p1.nw s rr⟩
theorem sn_call1 (hc : CallR X (.builtin id) (rC1N (gx X g) f)) (hg : Gl X x) (hm : X.mg x = none) (hv : bootBuiltins x = some (.builtin id)) (ha : PE X a (tD (gx X g) c W cf da)) (hn : x ≠ "__name__" := by decide) (hdb : (x == ("__debug__" : Str)) = false := by decide)
    (hs : starEach [a] X.env = [(false, eval a X.env)] := by rfl) : PE X (.Call (.Name x p) [a] [] pos) (tN (gx X g) c W cf (Py.op1 f da)) :=
  (pe_callB hc hg hm hv (pa_cons ha pa_nil hs) hn hdb hs rfl).imp fun _ _ _ => call1N_of
theorem sn_call1T (hc : CallR X (.type T) (rC1N (gx X g) f)) (hg : Gl X x) (hm : X.mg x = none) (hv : bootBuiltins x = some (.type T)) (ha : PE X a (tD (gx X g) c W cf da)) (hn : x ≠ "__name__" := by decide) (hdb : (x == ("__debug__" : Str)) = false := by decide)
    (hs : starEach [a] X.env = [(false, eval a X.env)] := by rfl) : PE X (.Call (.Name x p) [a] [] pos) (tN (gx X g) c W cf (Py.op1 f da)) :=
  (pe_callTy hc hg hm hv (pa_cons ha pa_nil hs) hn hdb hs rfl).imp fun _ _ _ => call1N_of
theorem so_call2 (hc : CallR X (.builtin id) (rC2 (gx X g) f2)) (hg : Gl X x) (hm : X.mg x = none) (hv : bootBuiltins x = some (.builtin id)) (ha : PE X a (tD (gx X g) c W cf da)) (hb : PE X b (tD (gx X g) c W cf db)) (hn : x ≠ "__name__" := by decide) (hdb : (x == ("__debug__" : Str)) = false := by decide)
    (hs2 : starEach [b] X.env = [(false, eval b X.env)] := by rfl) (hs : starEach [a, b] X.env = (false, eval a X.env) :: starEach [b] X.env := by rfl) (hpl : (backTo pos (starEach [b] X.env)).any (·.1) = false := by rfl) :
    PE X (.Call (.Name x p) [a, b] [] pos) (tD (gx X g) c W cf (Py.op2 f2 da db)) :=
  (pe_callB hc hg hm hv (pa_cons ha (pa_cons hb pa_nil hs2) hs) hn hdb hs hpl).imp fun σ H Q ⟨ρ, env, h, re, rs, e⟩ => by
    refine tD.go re rs e fun x h1 ρ1 v H1 p1 r1 e => tD.go (re.keep p1 rs.noTup) p1.st e fun y h2 ρ2 w H2 p2 r2 e => ?_
    obtain ⟨u, e1, e⟩ := e.of
    obtain ⟨z, e2, e⟩ := e.of
    obtain ⟨r, e3, e⟩ := e.of
    exact ⟨live ρ2 h2, v, w, u, z, r, rfl, p2.st.noTup, p2.st.rd (r1.keep p2 p1.st.noTup) e1, p2.st.rd r2 e2, e3, fun v' H' s rr => e ρ2 v' H' ((p1.trans p2).trans (.same p2.st s)) rr⟩
theorem so_isi {k : Py.Cls} {y : Str} {p' : Pos} (hg : Gl X "isinstance") (hm : X.mg "isinstance" = none) (hg' : Gl X y) (hm' : X.mg y = none) (hv' : bootBuiltins y = some (.type (clsName k))) (hn' : y ≠ "__name__") (hd' : (y == ("__debug__" : Str)) = false) (ha : PE X a (tD (gx X g) c W cf da))
    (hs : starEach [a, .Name y p'] X.env = (false, eval a X.env) :: starEach [.Name y p'] X.env := by rfl) :
    PE X (.Call (.Name "isinstance" p) [a, .Name y p'] [] pos) (tD (gx X g) c W cf (Py.op1 (Py.vIsI k) da)) :=
  (pe_callB (sc_isi k) hg hm rfl (pa_cons ha (pa_cons (pe_bltn (v := .ty (clsName k)) hg' hm' hv' rfl hn' hd') pa_nil) hs) (by decide) (by decide) hs (by rfl)).imp fun σ H Q ⟨ρ, env, h, re, rs, e⟩ => by
    refine tD.go re rs e fun x h1 ρ1 v H1 p1 r1 e => ?_
    obtain ⟨u, e1, e⟩ := e.of
    obtain ⟨r, e3, e⟩ := e.of
    exact ⟨live ρ1 h1, v, u, r, rfl, p1.st.noTup, p1.st.rd r1 e1, e3, fun v' H' s rr => e ρ1 v' H' (p1.trans (.same p1.st s)) rr⟩
end
end Sd

set_option autoImplicit false
set_option linter.all false
set_option maxRecDepth 100000
set_option maxHeartbeats 2000000
/-! SndS: statements. -/
namespace Sd
open PySem L2 PySem.Spec PyProof.Rows
section
variable (g : G) (c : Fx) (W : WX) (cf : Py.CallF)
def EndS (ρ : Rho) (h : CH) (H : Hp) (D : Ends) : Py.SRes → Prop
  | .nx e h' => ∀ ρ' σ' H', Post g ρ h H ρ' h' H' → REnv g c ρ' h' H' e σ' → D.nx σ' H'
  | .ct e h' => ∀ ρ' σ' H', Post g ρ h H ρ' h' H' → REnv g c ρ' h' H' e σ' → D.ct σ' H'
  | .ret x h' => ∀ ρ' v H', Post g ρ h H ρ' h' H' → RRs g c ρ' h' H H' x v → D.rt v H'
  | .exc x e h' => ∀ ρ' cls dd σ' H', Post g ρ h H ρ' h' H' → REnv g c ρ' h' H' e σ' → RX g H' x cls dd → W cls dd σ' H'
  | .stuck => False
def tS (d : Py.Sn) : TS := fun D σ H => ∃ ρ env h, REnv g c ρ h H env σ ∧ RSt g ρ h H ∧ EndS g c W ρ h H D (d cf env h)
end
section
variable {X : Cx} {g : G} {c : Fx} {W : WX} {cf : Py.CallF} {ρ ρ1 : Rho} {env : Py.Ev} {h h1 : CH} {σ : L2.St} {H H1 : Hp} {D : Ends}
theorem EndS.later {r : Py.SRes} (p : Post g ρ h H ρ1 h1 H1) (e : EndS g c W ρ h H D r) : EndS g c W ρ1 h1 H1 D r := by
  cases r with
  | nx e1 h' => exact fun ρ' σ' H' q re => e ρ' σ' H' (p.trans q) re
  | ct e1 h' => exact fun ρ' σ' H' q re => e ρ' σ' H' (p.trans q) re
  | ret x h' => exact fun ρ' v H' q rr => e ρ' v H' (p.trans q) (rr.since p.frm.there)
  | exc x e1 h' => exact fun ρ' cls dd σ' H' q re rx => e ρ' cls dd σ' H' (p.trans q) re rx
  | stuck => exact e
theorem EndS.bind {α : Type} {r : Py.Res α} {f : α → CH → Py.SRes} (re : REnv g c ρ h H env σ) (rs : RSt g ρ h H) (e : EndS g c W ρ h H D (Py.sBind r env f)) :
    EndR g W ρ h σ H (fun a h1 => EndS g c W ρ h H D (f a h1)) r := by
  cases r with
  | ok a h1 => exact e
  | exc x h1 => exact fun ρ' cls dd H' p rx => e ρ' cls dd σ H' p (re.keep p rs.noTup) rx
  | stuck => exact e
/-- an expression, then the rest of the statement -/
theorem tD.goS {d : Py.Dn} {f : Sl → CH → Py.SRes} {Q : VK} (re : REnv g c ρ h H env σ) (rs : RSt g ρ h H) (e : EndS g c W ρ h H D (Py.sBind (d cf env h) env f))
    (q : ∀ x h1 ρ1 v H1, Post g ρ h H ρ1 h1 H1 → RRs g c ρ1 h1 H H1 x v → REnv g c ρ1 h1 H1 env σ → EndS g c W ρ1 h1 H1 D (f x h1) → Q v H1) : tD g c W cf d σ H Q :=
  ⟨ρ, env, h, re, rs, (e.bind re rs).imp fun x h1 e1 ρ1 v H1 p r => q x h1 ρ1 v H1 p r (re.keep p rs.noTup) (e1.later p)⟩
theorem tT.goS {d : Py.Tn} {f : Bool → CH → Py.SRes} {Q : Bool → Hp → Prop} (re : REnv g c ρ h H env σ) (rs : RSt g ρ h H) (e : EndS g c W ρ h H D (Py.sBind (d cf env h) env f))
    (q : ∀ x h1 ρ1 H1, Post g ρ h H ρ1 h1 H1 → REnv g c ρ1 h1 H1 env σ → EndS g c W ρ1 h1 H1 D (f x h1) → Q x H1) : tT g c W cf d σ H Q :=
  ⟨ρ, env, h, re, rs, (e.bind re rs).imp fun x h1 e1 ρ1 H1 p => q x h1 ρ1 H1 p (re.keep p rs.noTup) (e1.later p)⟩
theorem tA.goS {d : Py.An} {f : List Sl → CH → Py.SRes} {Q : List V → Hp → Prop} (re : REnv g c ρ h H env σ) (rs : RSt g ρ h H) (e : EndS g c W ρ h H D (Py.sBind (d cf env h) env f))
    (q : ∀ x h1 ρ1 v H1, Post g ρ h H ρ1 h1 H1 → RRss g c ρ1 h1 H1 H x v → REnv g c ρ1 h1 H1 env σ → EndS g c W ρ1 h1 H1 D (f x h1) → Q v H1) : tA g c W cf d σ H Q :=
  ⟨ρ, env, h, re, rs, (e.bind re rs).imp fun x h1 e1 ρ1 v H1 p r => q x h1 ρ1 v H1 p r (re.keep p rs.noTup) (e1.later p)⟩
/-- a statement right here -/
theorem tS.here {d : Py.Sn} (re : REnv g c ρ h H env σ) (rs : RSt g ρ h H) (e : EndS g c W ρ h H D (d cf env h)) : tS g c W cf d D σ H := ⟨ρ, env, h, re, rs, e⟩
/-- stored -/
theorem REnv.set {x : Sl} {v : V} (i : Nat) (re : REnv g c ρ h H env σ) (r : RSl g c ρ h H x v) : REnv g c ρ h H (Py.setAt env i x) (σ.set i (some v)) := by
  rw [Py.setAt_eq]
  refine ⟨by simp [re.1], fun j y e => ?_⟩
  by_cases hj : i = j
  · subst hj
    rw [List.getElem?_set] at e
    split at e
    · split at e
      · cases e
        rename_i hl
        refine .inr ⟨v, ?_, r⟩
        rw [List.getElem?_set_self (by rw [← re.1]; exact hl)]
      · cases e
    · rename_i z; exact (z rfl).elim
  · rw [List.getElem?_set_ne hj] at e
    rw [List.getElem?_set_ne hj]
    exact re.2 j y e
variable {st : Stmt} {rest body els : List Stmt} {a b e : Expr} {da db : Py.Dn} {sa sb : Py.Sn} {ta : Py.Tn} {pos : Pos} {te : TE}
theorem _root_.L2.PS.imp {t t' : TS} (p : PS X st t) (f : ∀ D σ H, t' D σ H → t D σ H) : PS X st t' := ⟨fun pins s σ H D I h => p.run pins s σ H D I (f _ _ _ h)⟩
theorem _root_.L2.PSs.imp {t t' : TS} (p : PSs X rest t) (f : ∀ D σ H, t' D σ H → t D σ H) : PSs X rest t' := ⟨fun pins s σ H D I h => p.run pins s σ H D I (f _ _ _ h)⟩
theorem ss_nil : PSs X [] (tS g c W cf Py.sPass) := pss_nil.imp fun D σ H ⟨ρ, env, h, re, rs, e⟩ => e ρ σ H (.refl rs) re
theorem ss_one (h : PS X st (tS g c W cf sa)) : PSs X [st] (tS g c W cf sa) := pss_one h
theorem ss_cons (h1 : PS X st (tS g c W cf sa)) (h2 : PSs X rest (tS g c W cf sb)) : PSs X (st :: rest) (tS g c W cf (Py.sSeq sa sb)) :=
  (pss_cons h1 h2).imp fun D σ H ⟨ρ, env, h, re, rs, e⟩ => by
    refine ⟨ρ, env, h, re, rs, ?_⟩
    unfold Py.sSeq at e
    cases q : sa cf env h with
    | nx e1 h1 => rw [q] at e; exact fun ρ' σ' H' p re' => .here re' p.st (EndS.later p e)
    | ct e1 h1 => rw [q] at e; exact e
    | ret x h1 => rw [q] at e; exact e
    | exc x e1 h1 => rw [q] at e; exact e
    | stuck => rw [q] at e; exact e
theorem ss_pass : PS X (.Pass pos) (tS g c W cf Py.sPass) := ps_pass.imp fun D σ H ⟨ρ, env, h, re, rs, e⟩ => e ρ σ H (.refl rs) re
theorem ss_cont : PS X (.Continue pos) (tS g c W cf Py.sCont) := ps_continue.imp fun D σ H ⟨ρ, env, h, re, rs, e⟩ => e ρ σ H (.refl rs) re
theorem ss_doc {x j pos pos'} : PS X (.Expr (.Constant (.str x) j pos) pos') (tS g c W cf Py.sPass) := ps_doc.imp fun D σ H ⟨ρ, env, h, re, rs, e⟩ => e ρ σ H (.refl rs) re
theorem ss_expr (ha : PE X a (tD g c W cf da)) (hs : swapsWith a none pos.line X.env = pure false := by rfl) : PS X (.Expr a pos) (tS g c W cf (Py.sExpr da)) :=
  (ps_expr ha hs).imp fun D σ H ⟨ρ, env, h, re, rs, e⟩ => tD.goS re rs e fun x h1 ρ1 v H1 p r re' e => e ρ1 σ H1 (.refl p.st) re'
theorem ss_if {cnd : Expr} (hc : PT X cnd (tT g c W cf ta)) (ha : PSs X body (tS g c W cf sa)) (hb : PSs X els (tS g c W cf sb)) : PS X (.If cnd body els pos) (tS g c W cf (Py.sIf ta sa sb)) :=
  (ps_if hc ha hb).imp fun D σ H ⟨ρ, env, h, re, rs, e⟩ => tT.goS re rs e fun x h1 ρ1 H1 p re' e => by
    cases x with
    | true => exact .here re' p.st e
    | false => exact .here re' p.st e
theorem ss_retN : PS X (.Return none pos) (tS g c W cf Py.sRetN) := ps_retN.imp fun D σ H ⟨ρ, env, h, re, rs, e⟩ => e ρ _ H (.refl rs) .non
/-- x = e -/
theorem asg_of {i : Nat} {D : Ends} {σ : L2.St} {H : Hp} (t : tS g c W cf (Py.sAsg i da) D σ H) : tAsg (tD g c W cf da) (L2.gName i) D σ H := by
  obtain ⟨ρ, env, h, re, rs, e⟩ := t
  refine tD.goS re rs e fun x h1 ρ1 v H1 p r re' e => ?_
  split at e
  · exact e.elim
  · rename_i hf
    simp only [Py.frSl_eq, Py.frL_eq] at e
    exact e ρ1 _ H1 (.refl p.st) (re'.set i (r.sl (by simpa using hf)))
theorem ss_asg {i : Nat} {x : Str} {p' : Pos} (hN : X.N.Nodup) (hi : X.N[i]? = some x) (hx : Loc X.env.scope x) (he : PE X a (tD g c W cf da)) (hs : swapsWith a (some (.Name x p')) pos.line X.env = pure false := by rfl) (hf : X.fn x = true ∨ X.env.scope.names.lookup x = some .local := by first | exact .inl rfl | exact .inr rfl | assumption) :
    PS X (.Assign [.Name x p'] a pos) (tS g c W cf (Py.sAsg i da)) := (ps_set hN hi hx he hs hf).imp fun _ _ _ => asg_of
end
end Sd

set_option autoImplicit false
set_option linter.all false
set_option maxRecDepth 100000
set_option maxHeartbeats 2000000
/-! SndT: how cells come, change and go. -/
namespace Sd
open PySem L2 PySem.Spec PyProof.Rows
section
variable {g : G} {ρ ρ0 ρ1 : Rho} {h h0 h1 : CH} {H H0 H1 : Hp} {M : Addr → Prop}
theorem tabs_upd {T : List (Addr × Str)} {a : Addr} {o : HO} (t : LamX.Tabs T H) (l : LD H a) : LamX.Tabs T (upd H a o) := fun p hp => by
  obtain ⟨ps, e1, e2, e3⟩ := t p hp
  have na : ∀ {b u}, H b = some u → (∀ vs, u ≠ .lst vs) → (∀ kvs, u ≠ .dK kvs) → (∀ kvs, u ≠ .dT kvs) → b ≠ a := fun {b u} e n1 n2 n3 z => by
    subst z
    rcases l with ⟨_, q⟩ | ⟨_, q⟩ | ⟨_, q⟩ <;> rw [e] at q <;> cases q
    · exact n1 _ rfl
    · exact n2 _ rfl
    · exact n3 _ rfl
  refine ⟨ps, by rw [upd_ne (na e1 (fun _ z => nomatch z) (fun _ z => nomatch z) (fun _ z => nomatch z))]; exact e1, e2, fun pos cv hc => ?_⟩
  obtain ⟨c, q1, q2⟩ := e3 pos cv hc
  exact ⟨c, q1, by rw [upd_ne (na q2 (fun _ z => by unfold LamX.CodeO at z; cases z) (fun _ z => by unfold LamX.CodeO at z; cases z) (fun _ z => by unfold LamX.CodeO at z; cases z))]; exact q2⟩
theorem flat_mem {l : List (List Addr)} {i : Nat} {as : List Addr} {a : Addr} (e : l[i]? = some as) (m : a ∈ as) : a ∈ l.flatten := List.mem_flatten.mpr ⟨as, List.mem_of_getElem? e, m⟩
/-- a thing stands in one cell alone -/
theorem one_cell : ∀ {l : List (List Addr)} {i j : Nat} {as bs : List Addr} {a : Addr}, l.flatten.Nodup → l[i]? = some as → l[j]? = some bs → a ∈ as → a ∈ bs → i = j
  | [], i, _, _, _, _, _, e, _, _, _ => by simp at e
  | x :: l, 0, 0, _, _, _, _, _, _, _, _ => rfl
  | x :: l, 0, j + 1, as, bs, a, nd, e1, e2, m1, m2 => by
    simp at e1 e2; subst e1
    rw [List.flatten_cons, List.nodup_append] at nd
    exact (nd.2.2 a m1 a (flat_mem e2 m2) rfl).elim
  | x :: l, i + 1, 0, as, bs, a, nd, e1, e2, m1, m2 => by
    simp at e1 e2; subst e2
    rw [List.flatten_cons, List.nodup_append] at nd
    exact (nd.2.2 a m2 a (flat_mem e1 m1) rfl).elim
  | x :: l, i + 1, j + 1, as, bs, a, nd, e1, e2, m1, m2 => by
    rw [List.flatten_cons, List.nodup_append] at nd
    exact congrArg (· + 1) (one_cell nd.2.1 (by simpa using e1) (by simpa using e2) m1 m2)
theorem get_set {α : Type} {l : List α} {i j : Nat} {x y : α} (e : (l.set i x)[j]? = some y) : (i = j ∧ y = x) ∨ (i ≠ j ∧ l[j]? = some y) := by
  by_cases hj : i = j
  · subst hj
    rw [List.getElem?_set] at e
    split at e
    · split at e
      · cases e; exact .inl ⟨rfl, rfl⟩
      · cases e
    · rename_i z; exact (z rfl).elim
  · rw [List.getElem?_set_ne hj] at e
    exact .inr ⟨hj, e⟩
theorem live_set {i : Nat} {o o' : MO} {b : Addr} (e : h[i]? = some o) (n : isGone o = false) (n' : isGone o' = false) : live ρ (h.set i o') b ↔ live ρ h b := by
  have hi : i < h.length := (List.getElem?_eq_some_iff.mp e).1
  constructor
  · intro z
    rcases z with ⟨j, as, u, e1, e2, e3, m⟩ | z
    · rcases get_set e2 with ⟨rfl, rfl⟩ | ⟨_, e2⟩
      · exact .inl ⟨i, as, o, e1, e, n, m⟩
      · exact .inl ⟨j, as, u, e1, e2, e3, m⟩
    · exact .inr z
  · intro z
    rcases z with ⟨j, as, u, e1, e2, e3, m⟩ | z
    · by_cases hj : i = j
      · subst hj
        exact .inl ⟨i, as, o', e1, List.getElem?_set_self hi, n', m⟩
      · exact .inl ⟨j, as, u, e1, by rw [List.getElem?_set_ne hj]; exact e2, e3, m⟩
    · exact .inr z
theorem isGone_still {o : MO} (n : still o = false) : isGone o = false := by cases o <;> simp [still] at n <;> rfl
/-- a cell changes -/
theorem Post.cell {i : Nat} {a : Addr} {o o' : MO} {u : HO} (s : RSt g ρ h H) (eo : h[i]? = some o) (er : ρ.c[i]? = some [a]) (ns : still o = false) (n' : isGone o' = false) (l : LD H a) (ro : RO g (live ρ h) (upd H a u) o' [a]) :
    Post g ρ h H ρ (h.set i o') (upd H a u) := by
  have la : live ρ h a := .inl ⟨i, [a], o, er, eo, isGone_still ns, by simp⟩
  have lv : live ρ (h.set i o') = live ρ h := funext fun b => propext (live_set eo (isGone_still ns) n')
  have fr : Frm (live ρ h) H (upd H a u) := ⟨fun b v e n _ => by rw [upd_ne (fun z => n (by rw [z]; exact la))]; exact e, fun b v e => by
    by_cases hb : b = a
    · exact ⟨u, by rw [hb, upd_same]⟩
    · exact ⟨v, by rw [upd_ne hb]; exact e⟩⟩
  refine ⟨fr, ⟨by rw [List.length_set]; exact s.len, s.nd, s.pn, fun b q => ?_, fun j w as e1 e2 => ?_, tabs_upd s.tabs l⟩, fun b q => by rw [lv] at q; exact .inl q, List.prefix_refl _, fun b q => ⟨q, ?_⟩, fun j w e1 e2 => ?_⟩
  · have hb : b ≠ a := fun z => s.pn b q (by rw [z]; exact flat_mem er (by simp))
    exact (s.pk b q).keep (upd_ne hb)
  · rw [lv]
    rcases get_set e1 with ⟨rfl, rfl⟩ | ⟨hj, e1⟩
    · rw [er] at e2; cases e2; exact ro
    · exact (s.cell j w as e1 e2).keep fr s.noTup (fun x z => .inl z) fun b hb => upd_ne fun z => hj (one_cell (a := a) s.nd er e2 (by simp) (by rw [← z]; exact hb))
  · have hb : b ≠ a := fun z => s.pn b q (by rw [z]; exact flat_mem er (by simp))
    exact upd_ne hb
  · have hj : i ≠ j := fun z => by
      subst z
      rw [eo] at e1; cases e1
      rw [ns] at e2; cases e2
    rw [List.getElem?_set_ne hj]; exact e1
/-- a cell is given up: what stood in it is data now -/
theorem live_gone {i : Nat} {as : List Addr} {b : Addr} (nd : ρ.c.flatten.Nodup) (pn : ∀ a, ρ.p a → a ∉ ρ.c.flatten) (er : ρ.c[i]? = some as) (z : live ρ (h.set i .gone) b) : live ρ h b ∧ b ∉ as := by
  rcases z with ⟨j, bs, u, e1, e2, e3, m⟩ | z
  · rcases get_set e2 with ⟨rfl, rfl⟩ | ⟨hj, e2⟩
    · simp [isGone] at e3
    · exact ⟨.inl ⟨j, bs, u, e1, e2, e3, m⟩, fun mm => hj (one_cell nd er e1 mm m)⟩
  · exact ⟨.inr z, fun mm => pn b z (flat_mem er mm)⟩
theorem Post.gone {i : Nat} {o : MO} (s : RSt g ρ h H) (eo : h[i]? = some o) (ns : still o = false) : Post g ρ h H ρ (h.set i .gone) H := by
  have hi : i < ρ.c.length := by rw [s.len]; exact (List.getElem?_eq_some_iff.mp eo).1
  have er : ρ.c[i]? = some ρ.c[i] := List.getElem?_eq_getElem hi
  have sub : ∀ b, live ρ (h.set i .gone) b → live ρ h b ∨ H b = none := fun b z => .inl (live_gone s.nd s.pn er z).1
  refine ⟨.refl _ _, ⟨by rw [List.length_set]; exact s.len, s.nd, s.pn, s.pk, fun j w as e1 e2 => ?_, s.tabs⟩, sub, List.prefix_refl _, fun b q => ⟨q, rfl⟩, fun j w e1 e2 => ?_⟩
  · rcases get_set e1 with ⟨rfl, rfl⟩ | ⟨hj, e1⟩
    · exact fun a ha => (s.cell i o as eo e2).there a ha
    · exact (s.cell j w as e1 e2).keep (.refl _ _) s.noTup sub fun _ _ => rfl
  · have hj : i ≠ j := fun z => by
      subst z
      rw [eo] at e1; cases e1
      rw [ns] at e2; cases e2
    rw [List.getElem?_set_ne hj]; exact e1
/-- what is private no more -/
def Rho.del (ρ : Rho) (a : Addr) : Rho := ⟨ρ.c, fun b => ρ.p b ∧ b ≠ a⟩
theorem Post.drop {a : Addr} (p : Post g ρ0 h0 H0 ρ1 h1 H1) (n0 : ¬ ρ0.p a) : Post g ρ0 h0 H0 (ρ1.del a) h1 H1 := by
  have sub : ∀ b, live (ρ1.del a) h1 b → live ρ1 h1 b := fun b z => by
    rcases z with z | z
    · exact .inl z
    · exact .inr z.1
  exact ⟨p.frm, ⟨p.st.len, p.st.nd, fun b q => p.st.pn b q.1, fun b q => p.st.pk b q.1, fun i o as e1 e2 => (p.st.cell i o as e1 e2).keep (.refl _ _) p.st.noTup (fun b z => .inl (sub b z)) fun _ _ => rfl, p.st.tabs⟩, fun b z => p.sub b (sub b z), p.pre, fun b q => ⟨⟨(p.pp b q).1, fun z => n0 (by rw [← z]; exact q)⟩, (p.pp b q).2⟩, p.sl⟩
theorem notLive_del {a : Addr} (s : RSt g ρ h H) (pa : ρ.p a) : ¬ live (ρ.del a) h a := fun z => by
  rcases z with ⟨i, as, o, e1, e2, e3, m⟩ | z
  · exact s.pn a pa (flat_mem e1 m)
  · exact z.2 rfl
/-- what was new is data -/
theorem drop_rd {a : Addr} {d : D} (s : RSt g ρ h H) (pa : ρ.p a) (r : RT g.K g.fa (live ρ h) H d (.ref a)) (l : isLD d) : RD g.K g.fa (live (ρ.del a) h) H d (.ref a) :=
  r.drop (fun b z => by
    rcases z with z | z
    · exact .inl z
    · exact .inr z.1) (notLive_del s pa) s.noTup l
/-- what was new is a cell -/
def Rho.push (ρ : Rho) (a : Addr) : Rho := ⟨ρ.c ++ [[a]], fun b => ρ.p b ∧ b ≠ a⟩
theorem live_push {a : Addr} {o : MO} (s : RSt g ρ h H) (pa : ρ.p a) (n : isGone o = false) : live (ρ.push a) (h ++ [o]) = live ρ h := funext fun b => propext (by
  have hl := s.len
  constructor
  · intro z
    rcases z with ⟨i, as, u, e1, e2, e3, m⟩ | z
    · by_cases hi : i < h.length
      · rw [List.getElem?_append_left hi] at e2
        have e1 : (ρ.c ++ [[a]])[i]? = some as := e1
        rw [List.getElem?_append_left (by omega)] at e1
        exact .inl ⟨i, as, u, e1, e2, e3, m⟩
      · have hi' : i = h.length := by
          have := (List.getElem?_eq_some_iff.mp e2).1
          simp at this; omega
        subst hi'
        have e1 : (ρ.c ++ [[a]])[h.length]? = some as := e1
        rw [← hl, List.getElem?_concat_length] at e1
        cases e1
        simp at m; subst m
        exact .inr pa
    · exact .inr z.1
  · intro z
    rcases z with ⟨i, as, u, e1, e2, e3, m⟩ | z
    · have h1 := (List.getElem?_eq_some_iff.mp e1).1
      exact .inl ⟨i, as, u, by show (ρ.c ++ [[a]])[i]? = _; rw [List.getElem?_append_left h1]; exact e1, by rw [List.getElem?_append_left (by omega)]; exact e2, e3, m⟩
    · by_cases hb : b = a
      · subst hb
        exact .inl ⟨h.length, [b], o, by show (ρ.c ++ [[b]])[h.length]? = _; rw [← hl, List.getElem?_concat_length], List.getElem?_concat_length, n, by simp⟩
      · exact .inr ⟨z, hb⟩)
theorem Post.push {a : Addr} {o : MO} (p : Post g ρ0 h0 H0 ρ1 h1 H1) (n0 : ¬ ρ0.p a) (pa : ρ1.p a) (n : isGone o = false) (ro : RO g (live ρ1 h1) H1 o [a]) : Post g ρ0 h0 H0 (ρ1.push a) (h1 ++ [o]) H1 := by
  have lv := live_push p.st pa n
  have hl := p.st.len
  refine ⟨p.frm, ⟨?_, ?_, fun b q z => ?_, fun b q => p.st.pk b q.1, fun i u as e1 e2 => ?_, p.st.tabs⟩, fun b z => by rw [lv] at z; exact p.sub b z, p.pre.trans (List.prefix_append _ _), fun b q => ⟨⟨(p.pp b q).1, fun z => n0 (by rw [← z]; exact q)⟩, (p.pp b q).2⟩, fun i u e1 e2 => ?_⟩
  · show (ρ1.c ++ [[a]]).length = _
    rw [List.length_append, List.length_append, hl]; rfl
  · show (ρ1.c ++ [[a]]).flatten.Nodup
    rw [List.flatten_append, List.nodup_append]
    refine ⟨p.st.nd, by simp, fun x hx y hy z => ?_⟩
    simp at hy
    exact p.st.pn a pa (by rw [← hy, ← z]; exact hx)
  · have z : b ∈ (ρ1.c ++ [[a]]).flatten := z
    rw [List.flatten_append, List.mem_append] at z
    rcases z with z | z
    · exact p.st.pn b q.1 z
    · simp at z; exact q.2 z
  · rw [lv]
    have e2 : (ρ1.c ++ [[a]])[i]? = some as := e2
    by_cases hi : i < h1.length
    · rw [List.getElem?_append_left hi] at e1
      rw [List.getElem?_append_left (by omega)] at e2
      exact p.st.cell i u as e1 e2
    · have hi' : i = h1.length := by
        have := (List.getElem?_eq_some_iff.mp e1).1
        simp at this; omega
      subst hi'
      rw [← hl, List.getElem?_concat_length] at e2
      rw [List.getElem?_concat_length] at e1
      cases e1; cases e2; exact ro
  · have q := p.sl i u e1 e2
    rw [List.getElem?_append_left (List.getElem?_eq_some_iff.mp q).1]; exact q
/-- a private thing changes -/
theorem Post.updP {a : Addr} {u : HO} (p : Post g ρ0 h0 H0 ρ1 h1 H1) (n0 : ¬ ρ0.p a) (hn : H0 a = none) (pa : ρ1.p a) (l : LD (upd H1 a u) a) : Post g ρ0 h0 H0 ρ1 h1 (upd H1 a u) := by
  have fr : Frm (live ρ1 h1) H1 (upd H1 a u) := ⟨fun b v e n _ => by rw [upd_ne (fun z => n (by rw [z]; exact .inr pa))]; exact e, fun b v e => by
    by_cases hb : b = a
    · exact ⟨u, by rw [hb, upd_same]⟩
    · exact ⟨v, by rw [upd_ne hb]; exact e⟩⟩
  refine ⟨p.frm.trans2 p.sub fr, ⟨p.st.len, p.st.nd, p.st.pn, fun b q => ?_, fun j w as e1 e2 => ?_, tabs_upd p.st.tabs (p.st.pk a pa)⟩, p.sub, p.pre, fun b q => ⟨(p.pp b q).1, ?_⟩, p.sl⟩
  · by_cases hb : b = a
    · rw [hb]; exact l
    · exact (p.st.pk b q).keep (upd_ne hb)
  · exact (p.st.cell j w as e1 e2).keep fr p.st.noTup (fun x z => .inl z) fun b hb => upd_ne fun z => p.st.pn a pa (by rw [← z]; exact flat_mem e2 hb)
  · rw [upd_ne (fun z => n0 (by rw [← z]; exact q))]
    exact (p.pp b q).2
theorem notP_of_none {a : Addr} (s : RSt g ρ h H) (e : H a = none) : ¬ ρ.p a := fun z => by
  obtain ⟨o, q, _⟩ := (s.pk a z).some
  rw [e] at q; cases q
/-- the walked list of a cell, and back -/
theorem Post.relabel {i : Nat} {o o' : MO} (p : Post g ρ0 h0 H0 ρ1 h1 H1) (eo : h1[i]? = some o) (n : isGone o = false) (n' : isGone o' = false) (ro : ∀ as M H, RO g M H o as → RO g M H o' as) (hs : ∀ w, h0[i]? = some w → still w = false) : Post g ρ0 h0 H0 ρ1 (h1.set i o') H1 := by
  have lv : live ρ1 (h1.set i o') = live ρ1 h1 := funext fun b => propext (live_set eo n n')
  refine ⟨p.frm, ⟨by rw [List.length_set]; exact p.st.len, p.st.nd, p.st.pn, p.st.pk, fun j w as e1 e2 => ?_, p.st.tabs⟩, fun b z => by rw [lv] at z; exact p.sub b z, p.pre, p.pp, fun j w e1 e2 => ?_⟩
  · rw [lv]
    rcases get_set e1 with ⟨rfl, rfl⟩ | ⟨hj, e1⟩
    · exact ro _ _ _ (p.st.cell i o as eo e2)
    · exact p.st.cell j w as e1 e2
  · by_cases hj : i = j
    · subst hj
      rw [hs w e1] at e2; cases e2
    · rw [List.getElem?_set_ne hj]; exact p.sl j w e1 e2
end
end Sd

set_option autoImplicit false
set_option linter.all false
set_option maxRecDepth 100000
set_option maxHeartbeats 2000000
/-! SndU: return, new cells, targets, loops, stores. -/
namespace Sd
open PySem L2 PySem.Spec PyProof.Rows
section
variable {X : Cx} {g : G} {c : Fx} {W : WX} {cf : Py.CallF}
variable {st : Stmt} {rest body els : List Stmt} {a b e : Expr} {da db : Py.Dn} {sa sb : Py.Sn} {ta : Py.Tn} {pos : Pos} {te : TE}
variable {ρ ρ0 ρ1 : Rho} {h h0 h1 : CH} {H H0 H1 : Hp} {env : Py.Ev} {σ : L2.St}
theorem ss_ret (ha : PE X a (tD g c W cf da)) : PS X (.Return (some a) pos) (tS g c W cf (Py.sRet da)) :=
  (ps_ret ha).imp fun D σ H ⟨ρ, env, h, re, rs, e⟩ => by
    refine ⟨ρ, env, h, re, rs, (e.bind re rs).imp fun x h1 e0 ρ1 v H1 p r => ?_⟩
    have e := EndS.later p e0
    cases x with
    | d x => exact e ρ1 v H1 (.refl p.st) r
    | f x => exact e0 ρ1 v H1 p r
    | m i =>
      obtain ⟨b, as, e1, rfl⟩ := r
      simp only [Py.nth_eq] at e
      cases q : h1[i]? with
      | none => rw [q] at e; exact e.elim
      | some o =>
        rw [q] at e
        cases o with
        | ml xs =>
          simp only [Py.setAt_eq] at e
          obtain ⟨b', vs, e3, e4, e5⟩ := p.st.cell i _ _ q e1
          cases e3
          have pg := Post.gone p.st q rfl
          refine e ρ1 _ H1 pg (.lst e4 (fun z => ?_) (e5.keep pg.frm p.st.noTup pg.sub))
          exact (live_gone p.st.nd p.st.pn e1 z).2 (by simp)
        | md ks ds =>
          simp only [Py.setAt_eq] at e
          obtain ⟨b', e3, e4⟩ := p.st.cell i _ _ q e1
          cases e3
          have pg := Post.gone p.st q rfl
          have na : ¬ live ρ1 (h1.set i .gone) b := fun z => (live_gone p.st.nd p.st.pn e1 z).2 (by simp)
          exact e ρ1 _ H1 pg ((e4.keep pg.frm p.st.noTup pg.sub rfl).rd na)
        | _ => exact e.elim
    | no => exact e.elim
    | clo _ => exact e.elim
    | ex _ => exact e.elim

/-! new cells -/
theorem RO_of {d : D} {o : MO} {a : Addr} {M : Addr → Prop} {H : Hp} (e : Py.cell d = some o) (r : RT g.K g.fa M H d (.ref a)) : RO g M H o [a] ∧ isGone o = false := by
  cases d with
  | lst xs =>
    cases e
    obtain ⟨b, vs, q, h1, h2⟩ := r
    cases q
    exact ⟨⟨a, vs, rfl, h1, h2⟩, rfl⟩
  | dct ks ds =>
    cases e
    obtain ⟨b, q, h1⟩ := r
    cases q
    exact ⟨⟨a, rfl, h1⟩, rfl⟩
  | _ => cases e
theorem new_cell {d : D} {o : MO} {v : V} (p : Post g ρ h H ρ1 h1 H1) (rs : RSt g ρ h H) (ec : Py.cell d = some o) (r : RRs g c ρ1 h1 H H1 (.f d) v) : ∃ ρ2, Post g ρ h H ρ2 (h1 ++ [o]) H1 ∧ RSl g c ρ2 (h1 ++ [o]) H1 (.m h1.length) v ∧ live ρ2 (h1 ++ [o]) = live ρ1 h1 := by
  obtain ⟨a, rfl, e2, e3, e4, e5⟩ := r
  obtain ⟨ro, ng⟩ := RO_of ec e4
  refine ⟨ρ1.push a, p.push (notP_of_none rs e2) e3 ng ro, ⟨a, [], ?_, rfl⟩, live_push p.st e3 ng⟩
  show (ρ1.c ++ [[a]])[h1.length]? = _
  rw [← p.st.len, List.getElem?_concat_length]
theorem new_of {i : Nat} {D : Ends} {σ : L2.St} {H : Hp} (t : tS g c W cf (Py.sNew i da) D σ H) : tAsg (tD g c W cf da) (L2.gName i) D σ H := by
  obtain ⟨ρ, env, h, re, rs, e⟩ := t
  refine ⟨ρ, env, h, re, rs, (e.bind re rs).imp fun x h1 e ρ1 v H1 p r => ?_⟩
  cases x with
  | f d =>
    simp only at e
    cases q : Py.cell d with
    | none => rw [q] at e; exact e.elim
    | some o =>
      rw [q] at e
      obtain ⟨ρ2, p2, r2, _⟩ := new_cell p rs q r
      exact e ρ2 _ H1 p2 ((re.keep p2 rs.noTup).set i r2)
  | _ => exact e.elim
theorem ss_new {i : Nat} {x : Str} {p' : Pos} (hN : X.N.Nodup) (hi : X.N[i]? = some x) (hx : Loc X.env.scope x) (he : PE X a (tD g c W cf da)) (hs : swapsWith a (some (.Name x p')) pos.line X.env = pure false := by rfl) (hf : X.fn x = true ∨ X.env.scope.names.lookup x = some .local := by first | exact .inl rfl | exact .inr rfl | assumption) :
    PS X (.Assign [.Name x p'] a pos) (tS g c W cf (Py.sNew i da)) := (ps_set hN hi hx he hs hf).imp fun _ _ _ => new_of

/-! targets of data -/
/-- but for these slots as it was -/
def Off (vs : List Nat) (σ σ' : L2.St) : Prop := σ'.length = σ.length ∧ ∀ j, j ∉ vs → σ'[j]? = σ[j]?
theorem Off.refl {vs : List Nat} {σ : L2.St} : Off vs σ σ := ⟨rfl, fun _ _ => rfl⟩
theorem Off.trans {vs : List Nat} {σ σ1 σ2 : L2.St} (a : Off vs σ σ1) (b : Off vs σ1 σ2) : Off vs σ σ2 := ⟨b.1.trans a.1, fun j hj => (b.2 j hj).trans (a.2 j hj)⟩
def tG (g : G) (c : Fx) (vs : List Nat) (γ : Py.Gn) : TG := fun v σ H Q => ∃ ρ h env d env', REnv g c ρ h H env σ ∧ RSt g ρ h H ∧ RD g.K g.fa (live ρ h) H d v ∧ γ d env = some env' ∧ ∀ σ', Off vs σ σ' → REnv g c ρ h H env' σ' → Q σ' H
def tGs (g : G) (c : Fx) (ws : List Nat) (γ : List D → Py.Ev → Option Py.Ev) : TGs := fun vs σ H Q => ∃ ρ h env ds env', REnv g c ρ h H env σ ∧ RSt g ρ h H ∧ RDs g.K g.fa (live ρ h) H ds vs ∧ γ ds env = some env' ∧ ∀ σ', Off ws σ σ' → REnv g c ρ h H env' σ' → Q σ' H
theorem _root_.L2.PG.imp {tg : Expr} {t t' : TG} (p : PG X tg t) (f : ∀ v σ H Q, t' v σ H Q → t v σ H Q) : PG X tg t' := ⟨fun pins s σ H v u Q I r h => p.run pins s σ H v u Q I r (f _ _ _ _ h)⟩
theorem _root_.L2.PGs.imp {tg : List Expr} {t t' : TGs} (p : PGs X tg t) (f : ∀ v σ H Q, t' v σ H Q → t v σ H Q) : PGs X tg t' := ⟨fun pins s σ H v u Q I r h => p.run pins s σ H v u Q I r (f _ _ _ _ h)⟩
theorem sg_name {i : Nat} {ws : List Nat} {x : Str} {pos : Pos} (hw : i ∈ ws) (hN : X.N.Nodup) (hi : X.N[i]? = some x) (hx : Loc X.env.scope x) (hf : X.fn x = true ∨ X.env.scope.names.lookup x = some .local := by first | exact .inl rfl | exact .inr rfl | assumption) : PG X (.Name x pos) (tG g c ws (Py.gName i)) :=
  (pg_name hN hi hx hf).imp fun v σ H Q ⟨ρ, h, env, d, env', re, rs, r, e, q⟩ => by
    simp only [Py.gName, Py.frD_eq, Option.some.injEq] at e
    subst e
    exact q _ ⟨by simp, fun j hj => List.getElem?_set_ne (fun z => hj (by rw [← z]; exact hw))⟩ (re.set i (x := .d d) r)
theorem sg_nil {ws : List Nat} : PGs X [] (tGs g c ws Py.gNil) := pgs_nil.imp fun v σ H Q ⟨ρ, h, env, ds, env', re, rs, r, e, q⟩ => by
  cases ds with
  | nil => cases r; cases e; exact ⟨rfl, q _ .refl re⟩
  | cons _ _ => cases e
theorem sg_cons {ws : List Nat} {e : Expr} {es : List Expr} {γ : Py.Gn} {γs : List D → Py.Ev → Option Py.Ev} (h1 : PG X e (tG g c ws γ)) (h2 : PGs X es (tGs g c ws γs)) (hs : (assignEach (e :: es) X.env).map (·.2) = assign e X.env :: (assignEach es X.env).map (·.2) := by rfl) : PGs X (e :: es) (tGs g c ws (Py.gCons γ γs)) :=
  (pgs_cons h1 h2 hs).imp fun v σ H Q ⟨ρ, h, env, ds, env', re, rs, r, e, q⟩ => by
    cases ds with
    | nil => cases e
    | cons d ds =>
      cases r with
      | cons r1 r2 =>
        simp only [Py.gCons] at e
        cases e1 : γ d env with
        | none => rw [e1] at e; cases e
        | some env1 =>
          rw [e1] at e
          exact ⟨_, _, rfl, ρ, h, env, d, env1, re, rs, r1, e1, fun σ' of re' => ⟨ρ, h, env1, ds, env', re', rs, r2, e, fun σ2 of2 re2 => q σ2 (of.trans of2) re2⟩⟩
theorem gCons_len {γ : Py.Gn} {γs : List D → Py.Ev → Option Py.Ev} {n : Nat} (h : ∀ ds env env', γs ds env = some env' → ds.length = n) : ∀ ds env env', Py.gCons γ γs ds env = some env' → ds.length = n + 1 := fun ds env env' e => by
  cases ds with
  | nil => cases e
  | cons d ds =>
    simp only [Py.gCons] at e
    cases e1 : γ d env with
    | none => rw [e1] at e; cases e
    | some env1 => rw [e1] at e; simp [h _ _ _ e]
theorem gNil_len : ∀ ds env env', Py.gNil ds env = some env' → ds.length = 0 := fun ds env env' e => by
  cases ds with
  | nil => rfl
  | cons _ _ => cases e
theorem sg_tup {ws : List Nat} {es : List Expr} {k n : Nat} {γs : List D → Py.Ev → Option Py.Ev} {pos : Pos} (hc : X.calm = true) (h : PGs X es (tGs (gx X g) c ws γs)) (hl : ∀ ds env env', γs ds env = some env' → ds.length = n)
    (hn : (assignEach es X.env).length = n := by rfl) (hst : (assignEach es X.env).findIdx? (·.1) = none := by rfl) : PG X (.Tuple es k pos) (tG (gx X g) c ws (Py.gTup γs)) :=
  (pg_tup hc h hn hst).imp fun v σ H Q ⟨ρ, h, env, d, env', re, rs, r, e, q⟩ => by
    cases d with
    | tup ds =>
      cases r with
      | tup h1 h2 =>
        exact ⟨_, _, rfl, h1, by rw [← h2.length]; exact hl _ _ _ e, ρ, h, env, ds, env', re, rs, h2, e, q⟩
    | _ => cases e
/-- target = e -/
theorem asgG_of {ws : List Nat} {γ : Py.Gn} {D : Ends} {σ : L2.St} {H : Hp} (t : tS g c W cf (Py.sAsgG γ da) D σ H) : tAsg (tD g c W cf da) (tG g c ws γ) D σ H := by
  obtain ⟨ρ, env, h, re, rs, e⟩ := t
  refine tD.goS re rs e fun x h1 ρ1 v H1 p r re' e => ?_
  cases q : Py.pd x with
  | none => rw [q] at e; exact e.elim
  | some d =>
    rw [q] at e
    cases q2 : γ d env with
    | none => simp only [q2] at e; exact e.elim
    | some env' =>
      simp only [q2] at e
      exact ⟨ρ1, h1, env, d, env', re', p.st, RSt.pd r q, q2, fun σ' _ re2 => e ρ1 σ' H1 (.refl p.st) re2⟩
theorem ss_asgG {ws : List Nat} {tg : Expr} {γ : Py.Gn} (ha : PE X a (tD g c W cf da)) (hg : PG X tg (tG g c ws γ)) (hs : swapsWithSole [tg] a pos.line X.env = pure false := by rfl) (hw : swappedStores [tg] a X.env = pure none := by rfl)
    (h1 : (assignEach [tg] X.env).map (·.2) = [assign tg X.env] := by rfl) : PS X (.Assign [tg] a pos) (tS g c W cf (Py.sAsgG γ da)) := (ps_asg ha hg hs hw h1).imp fun _ _ _ => asgG_of
end
end Sd

set_option autoImplicit false
set_option linter.all false
set_option maxRecDepth 100000
set_option maxHeartbeats 2000000
/-! SndV: what is walked, for, while. -/
namespace Sd
open PySem L2 PySem.Spec PyProof.Rows
def walked : MO → Bool
  | .lk _ => true
  | .lkl _ _ => true
  | _ => false
/-- an iterator over data, as long as the cells are kept -/
structure WalkD (g : G) (xs : List D) (l : Option Nat) (h0 : CH) (ρ : Rho) (h : CH) (H : Hp) (J : It) : Prop where
  goes : ∀ (i : Nat) (ρ2 : Rho) (h2 : CH) (H2 : Hp), i < xs.length → Post g ρ h H ρ2 h2 H2 → J.go i H2
  stops : ∀ (ρ2 : Rho) (h2 : CH) (H2 : Hp), Post g ρ h H ρ2 h2 H2 → J.stop xs.length H2
  yields : ∀ (i : Nat) (ρ2 : Rho) (h2 : CH) (H2 : Hp) (v : V) (H3 : Hp), Post g ρ h H ρ2 h2 H2 → J.yld i H2 v H3 → ∀ d, xs[i]? = some d → Same H2 H3 ∧ RD g.K g.fa (live ρ2 h2) H3 d v
  lck : ∀ i, l = some i → (∃ o, h[i]? = some o ∧ walked o = true) ∧ ∀ w, h0[i]? = some w → still w = false
def tI (g : G) (c : Fx) (W : WX) (cf : Py.CallF) (i : Py.In) : TI := fun σ H R => ∃ ρ env h, REnv g c ρ h H env σ ∧ RSt g ρ h H ∧
  EndR g W ρ h σ H (fun p h' => ∀ ρ' H' J, Post g ρ h H ρ' h' H' → WalkD g p.1 p.2 h ρ' h' H' J → R J H') (i cf env h)
section
variable {X : Cx} {g : G} {c : Fx} {W : WX} {cf : Py.CallF}
variable {st : Stmt} {rest body els : List Stmt} {a b e : Expr} {da db : Py.Dn} {sa sb : Py.Sn} {ta : Py.Tn} {pos : Pos} {te : TE}
variable {ρ ρ0 ρ1 ρ2 : Rho} {h h0 h1 h2 : CH} {H H0 H1 H2 : Hp} {env : Py.Ev} {σ : L2.St}
theorem unlock_live {i : Nat} {o : MO} (e : h[i]? = some o) (w : walked o = true) : live ρ (Py.unlock (some i) h) = live ρ h := by
  unfold Py.unlock
  simp only [Py.nth_eq, e]
  cases o with
  | lk xs => simp only [Py.setAt_eq]; exact funext fun b => propext (live_set e rfl rfl)
  | lkl ks vs => simp only [Py.setAt_eq]; exact funext fun b => propext (live_set e rfl rfl)
  | _ => simp [walked] at w
theorem Post.unlock {i : Nat} {o : MO} (p : Post g ρ0 h0 H0 ρ1 h1 H1) (e : h1[i]? = some o) (w : walked o = true) (hs : ∀ w, h0[i]? = some w → still w = false) : Post g ρ0 h0 H0 ρ1 (Py.unlock (some i) h1) H1 := by
  unfold Py.unlock
  simp only [Py.nth_eq, e]
  cases o with
  | lk xs => simp only [Py.setAt_eq]; exact p.relabel e rfl rfl (fun _ _ _ r => r) hs
  | lkl ks vs => simp only [Py.setAt_eq]; exact p.relabel e rfl rfl (fun _ _ _ r => r) hs
  | _ => simp [walked] at w
theorem walked_still {o : MO} (w : walked o = true) : still o = true := by cases o <;> simp [walked] at w <;> rfl
theorem WalkD.free {xs : List D} {l : Option Nat} {J : It} (k : WalkD g xs l h0 ρ1 h1 H1 J) (p : Post g ρ0 h0 H0 ρ2 h2 H2) (q : Post g ρ1 h1 H1 ρ2 h2 H2) :
    Post g ρ0 h0 H0 ρ2 (Py.unlock l h2) H2 ∧ live ρ2 (Py.unlock l h2) = live ρ2 h2 := by
  cases l with
  | none => exact ⟨p, rfl⟩
  | some i =>
    obtain ⟨⟨o, e, w⟩, hs⟩ := k.lck i rfl
    have e2 := q.sl i o e (walked_still w)
    exact ⟨p.unlock e2 w hs, unlock_live e2 w⟩
theorem RSl.live {x : Sl} {v : V} (e : live ρ h1 = live ρ h) (r : RSl g c ρ h H x v) : RSl g c ρ h1 H x v := by
  cases x with
  | d x => show RD _ _ (Sd.live ρ h1) _ _ _; rw [e]; exact r
  | clo f => show c.C (Sd.live ρ h1) _ _ _; rw [e]; exact r
  | ex f => show c.C (Sd.live ρ h1) _ _ _; rw [e]; exact r
  | _ => exact r
theorem RRs.live {x : Sl} {v : V} (e : live ρ h1 = live ρ h) (r : RRs g c ρ h H0 H x v) : RRs g c ρ h1 H0 H x v := by
  cases x with
  | d x => exact RSl.live (c := c) (x := .d x) e r
  | f x =>
    obtain ⟨a, e1, e2, e3, e4, e5⟩ := r
    exact ⟨a, e1, e2, e3, by rw [e]; exact e4, e5⟩
  | clo f => exact RSl.live (g := g) (c := c) (x := .clo f) e r
  | ex f => exact RSl.live (g := g) (c := c) (x := .ex f) e r
  | _ => exact r
theorem REnv.live (e : Sd.live ρ h1 = Sd.live ρ h) (r : REnv g c ρ h H env σ) : REnv g c ρ h1 H env σ := ⟨r.1, fun i x q => (r.2 i x q).imp id fun ⟨v, e1, e2⟩ => ⟨v, e1, e2.live e⟩⟩
/-- .. and back from the unlocked -/
theorem WalkD.back {xs : List D} {l : Option Nat} {J : It} (k : WalkD g xs l h0 ρ1 h1 H1 J) (q : Post g ρ1 h1 H1 ρ2 h2 H2) : Sd.live ρ2 (Py.unlock l h2) = Sd.live ρ2 h2 := by
  cases l with
  | none => rfl
  | some i =>
    obtain ⟨⟨o, e, w⟩, hs⟩ := k.lck i rfl
    exact unlock_live (q.sl i o e (walked_still w)) w
theorem tI.goS {i : Py.In} {f : List D × Option Nat → CH → Py.SRes} {D : Ends} {R : It → Hp → Prop} (re : REnv g c ρ h H env σ) (rs : RSt g ρ h H) (e : EndS g c W ρ h H D (Py.sBind (i cf env h) env f))
    (q : ∀ p h1 ρ1 H1 J, Post g ρ h H ρ1 h1 H1 → WalkD g p.1 p.2 h ρ1 h1 H1 J → REnv g c ρ1 h1 H1 env σ → EndS g c W ρ h H D (f p h1) → R J H1) : tI g c W cf i σ H R :=
  ⟨ρ, env, h, re, rs, (e.bind re rs).imp fun p h1 e1 ρ1 H1 J po k => q p h1 ρ1 H1 J po k (re.keep po rs.noTup) e1⟩
theorem ss_for {ws : List Nat} {tg iter : Expr} {i : Py.In} {γ : Py.Gn} (hp : PassesOwn (model X.prog X.w) X.A X.env X.xe) (hc : X.calm = true) (hi : PI X tg iter (tI g c W cf i)) (hg : PG X tg (tG g c ws γ)) (hb : PSs X body (tS g c W cf sa))
    (hs : ∀ x, foldedSetIterable iter X.env x = pure x := by intro _; rfl) : PS X (.For tg iter body [] pos) (tS g c W cf (Py.sFor i γ sa)) :=
  (ps_for hp hc hi hg hb hs).imp fun D σ H ⟨ρ, env, h, re, rs, e⟩ => by
    refine tI.goS re rs e fun p h1 ρ1 H1 J po k re1 e => ?_
    obtain ⟨xs, l⟩ := p
    refine ⟨fun i m σ2 H2 => m = xs.length - i ∧ i ≤ xs.length ∧ ∃ ρ2 env2 h2, Post g ρ h H ρ2 h2 H2 ∧ Post g ρ1 h1 H1 ρ2 h2 H2 ∧ REnv g c ρ2 h2 H2 env2 σ2 ∧ EndS g c W ρ h H D (Py.forLoop γ sa l cf (xs.drop i) env2 h2), ⟨xs.length, by simp, Nat.zero_le _, ρ1, env, h1, po, .refl po.st, re1, by simpa using e⟩, ?_⟩
    rintro i m σ2 H2 ⟨rfl, hi, ρ2, env2, h2, p2, q2, re2, e2⟩
    by_cases hlt : i < xs.length
    · right
      refine ⟨k.goes i ρ2 h2 H2 hlt q2, _, fun σ' H' w => ⟨xs.length - (i + 1), by omega, w⟩, fun x H3 y => ?_⟩
      have hx : xs[i]? = some xs[i] := List.getElem?_eq_getElem hlt
      obtain ⟨sm, rd⟩ := k.yields i ρ2 h2 H2 x H3 q2 y _ hx
      have pS := Post.same p2.st sm
      rw [List.drop_eq_getElem_cons hlt] at e2
      unfold Py.forLoop at e2
      cases hγ : γ xs[i] env2 with
      | none => rw [hγ] at e2; exact e2.elim
      | some env3 =>
        rw [hγ] at e2
        refine ⟨ρ2, h2, env2, xs[i], env3, re2.keep pS p2.st.noTup, pS.st, rd, hγ, fun σ3 _ re3 => .here re3 pS.st ?_⟩
        cases hb : sa cf env3 h2 with
        | nx e3 h3 =>
          simp only [hb, Py.frL_eq] at e2
          exact fun ρ' σ' H' p3 re' => ⟨rfl, hlt, ρ', e3, h3, (p2.trans pS).trans p3, (q2.trans pS).trans p3, re', e2⟩
        | ct e3 h3 =>
          simp only [hb, Py.frL_eq] at e2
          exact fun ρ' σ' H' p3 re' => ⟨rfl, hlt, ρ', e3, h3, (p2.trans pS).trans p3, (q2.trans pS).trans p3, re', e2⟩
        | ret d h3 =>
          simp only [hb] at e2
          refine fun ρ' v H' p3 rr => ?_
          have fr := k.free ((p2.trans pS).trans p3) ((q2.trans pS).trans p3)
          exact e2 ρ' v H' fr.1 ((rr.since (p2.trans pS).frm.there).live fr.2)
        | exc x3 e3 h3 =>
          simp only [hb] at e2
          refine fun ρ' cls dd σ' H' p3 re' rx => ?_
          have fr := k.free ((p2.trans pS).trans p3) ((q2.trans pS).trans p3)
          exact e2 ρ' cls dd σ' H' fr.1 (re'.live fr.2) rx
        | stuck => simp only [hb] at e2; exact e2.elim
    · have hi' : i = xs.length := by omega
      subst hi'
      left
      refine ⟨k.stops ρ2 h2 H2 q2, ?_⟩
      rw [List.drop_length] at e2
      unfold Py.forLoop at e2
      have fr := k.free p2 q2
      exact e2 ρ2 σ2 H2 fr.1 (re2.live fr.2)
theorem ss_while {cnd : Expr} {n : Nat} (hp : PassesOwn (model X.prog X.w) X.A X.env X.xe) (hc : PT X cnd (tT g c W cf ta)) (hb : PSs X body (tS g c W cf sa)) : PS X (.While cnd body [] pos) (tS g c W cf (Py.sWhile n ta sa)) :=
  (ps_while hp hc hb).imp fun D σ H ⟨ρ, env, h, re, rs, e⟩ => by
    refine ⟨fun m σ2 H2 => ∃ ρ2 env2 h2, Post g ρ h H ρ2 h2 H2 ∧ REnv g c ρ2 h2 H2 env2 σ2 ∧ EndS g c W ρ2 h2 H2 D (Py.whileLoop ta sa cf m env2 h2), ⟨n, ρ, env, h, .refl rs, re, e⟩, ?_⟩
    rintro m σ2 H2 ⟨ρ2, env2, h2, p2, re2, e2⟩
    cases m with
    | zero => exact e2.elim
    | succ m =>
      refine tT.goS re2 p2.st e2 fun x h3 ρ3 H3 p3 re3 e3 => ?_
      cases x with
      | false => exact e3 ρ3 σ2 H3 (.refl p3.st) re3
      | true =>
        refine ⟨_, fun σ' H' w => ⟨m, Nat.lt_succ_self _, w⟩, .here re3 p3.st ?_⟩
        cases hb : sa cf env2 h3 with
        | nx e4 h4 =>
          simp only [hb, Py.frL_eq] at e3
          exact fun ρ' σ' H' p4 re' => ⟨ρ', e4, h4, (p2.trans p3).trans p4, re', EndS.later p4 e3⟩
        | ct e4 h4 =>
          simp only [hb, Py.frL_eq] at e3
          exact fun ρ' σ' H' p4 re' => ⟨ρ', e4, h4, (p2.trans p3).trans p4, re', EndS.later p4 e3⟩
        | ret d h4 => simp only [hb] at e3; exact e3
        | exc x4 e4 h4 => simp only [hb] at e3; exact e3
        | stuck => simp only [hb] at e3; exact e3.elim
end
end Sd

set_option autoImplicit false
set_option linter.all false
set_option maxRecDepth 100000
set_option maxHeartbeats 2000000
/-! SndW: the things that are walked. -/
namespace Sd
open PySem L2 PySem.Spec PyProof.Rows
section
variable {X : Cx} {g : G} {c : Fx} {W : WX} {cf : Py.CallF}
variable {a b e tg iter : Expr} {da db : Py.Dn} {pos p : Pos}
variable {ρ ρ0 ρ1 ρ2 : Rho} {h h0 h1 h2 : CH} {H H0 H1 H2 : Hp} {env : Py.Ev} {σ : L2.St}
theorem _root_.L2.PI.imp {w w' : TI} (q : PI X tg iter w) (f : ∀ σ H R, w' σ H R → w σ H R) : PI X tg iter w' := ⟨fun pins s σ H R I h => q.run pins s σ H R I (f _ _ _ h)⟩
theorem _root_.L2.PI.or {w w' : TI} (q : PI X tg iter w) (q' : PI X tg iter w') : PI X tg iter (fun σ H R => w σ H R ∨ w' σ H R) := ⟨fun pins s σ H R I h => h.elim (q.run pins s σ H R I) (q'.run pins s σ H R I)⟩
theorem RDs.post {ds : List D} {vs : List V} (q : Post g ρ h H ρ1 h1 H1) (n : NoTup (live ρ h) H) (r : RDs g.K g.fa (live ρ h) H ds vs) : RDs g.K g.fa (live ρ1 h1) H1 ds vs := RDs.keep q.frm n q.sub r
/-- a list of data -/
theorem walkL {ds : List D} {a : Addr} {l : Option Nat} (rs : RSt g ρ h H) (hv : ∀ ρ2 h2 H2, Post g ρ h H ρ2 h2 H2 → ∃ vs, H2 a = some (.lst vs) ∧ RDs g.K g.fa (live ρ2 h2) H2 ds vs) (hl : ∀ i, l = some i → (∃ o, h[i]? = some o ∧ walked o = true) ∧ ∀ w, h0[i]? = some w → still w = false) : WalkD g ds l h0 ρ h H (Itl g.K a) where
  goes i ρ2 h2 H2 hi p := by
    obtain ⟨vs, e, r⟩ := hv ρ2 h2 H2 p
    exact ⟨vs, vs[i]'(by rw [← r.length]; exact hi), SqL.of e, by simp⟩
  stops ρ2 h2 H2 p := by
    obtain ⟨vs, e, r⟩ := hv ρ2 h2 H2 p
    exact ⟨vs, SqL.of e, by rw [r.length]; exact Nat.le_refl _⟩
  yields i ρ2 h2 H2 v H3 p y d hd := by
    obtain ⟨vs, e, r⟩ := hv ρ2 h2 H2 p
    obtain ⟨rfl, hx⟩ := y
    obtain ⟨v', e1, r1⟩ := r.get hd
    have := hx vs (SqL.of e)
    rw [e1] at this; cases this
    exact ⟨Same.refl _, r1⟩
  lck := hl
abbrev Lck (l : Option Nat) (h0 h : CH) : Prop := ∀ i, l = some i → (∃ o, h[i]? = some o ∧ walked o = true) ∧ ∀ w, h0[i]? = some w → still w = false
theorem lck_none : Lck none h0 h := fun _ z => nomatch z
theorem walkT {ds : List D} {a : Addr} (hv : ∀ ρ2 h2 H2, Post g ρ h H ρ2 h2 H2 → ∃ vs, SqT g.K H2 a vs ∧ RDs g.K g.fa (live ρ2 h2) H2 ds vs) : WalkD g ds none h0 ρ h H (Itt g.K a) where
  goes i ρ2 h2 H2 hi p := by
    obtain ⟨vs, e, r⟩ := hv ρ2 h2 H2 p
    exact ⟨vs, vs[i]'(by rw [← r.length]; exact hi), e, by simp⟩
  stops ρ2 h2 H2 p := by
    obtain ⟨vs, e, r⟩ := hv ρ2 h2 H2 p
    exact ⟨vs, e, by rw [r.length]; exact Nat.le_refl _⟩
  yields i ρ2 h2 H2 v H3 p y d hd := by
    obtain ⟨vs, e, r⟩ := hv ρ2 h2 H2 p
    obtain ⟨rfl, hx⟩ := y
    obtain ⟨v', e1, r1⟩ := r.get hd
    have := hx vs e
    rw [e1] at this; cases this
    exact ⟨Same.refl _, r1⟩
  lck := lck_none
theorem walkS {s : List Nat} : WalkD g (s.map fun c => .str [c]) none h0 ρ h H (Its (sOf s)) where
  goes i ρ2 h2 H2 hi p := by
    show i < (sOf s).cps.size
    simpa [sOf] using hi
  stops ρ2 h2 H2 p := by
    show (sOf s).cps.size ≤ _
    simp [sOf]
  yields i ρ2 h2 H2 v H3 p y d hd := by
    obtain ⟨rfl, c, e, rfl⟩ := y
    rw [List.getElem?_map] at hd
    have e : s[i]? = some c := by simpa [sOf] using e
    rw [e] at hd
    cases hd
    exact ⟨Same.refl _, .str [c]⟩
  lck := lck_none
theorem upFrom_get (lo : Int) : ∀ (n i : Nat), i < n → (Py.upFrom lo n)[i]? = some (.int (lo + i))
  | 0, _, h => absurd h (Nat.not_lt_zero _)
  | n + 1, 0, _ => by simp [Py.upFrom]
  | n + 1, i + 1, h => by
    rw [Py.upFrom, List.getElem?_cons_succ, upFrom_get (lo + 1) n i (by omega)]
    congr 2
    omega
theorem upFrom_len (lo : Int) : ∀ n, (Py.upFrom lo n).length = n
  | 0 => rfl
  | n + 1 => by rw [Py.upFrom, List.length_cons, upFrom_len]
theorem walkR {lo : Int} {n : Nat} : WalkD g (Py.upFrom lo n) none h0 ρ h H (Itr lo n) where
  goes i ρ2 h2 H2 hi p := by rw [upFrom_len] at hi; exact hi
  stops ρ2 h2 H2 p := by rw [upFrom_len]; exact Nat.le_refl _
  yields i ρ2 h2 H2 v H3 p y d hd := by
    obtain ⟨rfl, rfl⟩ := y
    have hi : i < n := by rw [← upFrom_len lo n]; exact (List.getElem?_eq_some_iff.mp hd).1
    rw [upFrom_get lo n i hi] at hd
    cases hd
    exact ⟨Same.refl _, .int _⟩
  lck := lck_none
theorem enumD_get : ∀ (xs : List D) (k : Int) (i : Nat) (d : D), (Py.enumD k xs)[i]? = some d → ∃ x, xs[i]? = some x ∧ d = .tup [.int (k + i), x]
  | [], _, _, _, e => by simp [Py.enumD] at e
  | x :: xs, k, 0, d, e => by simp [Py.enumD] at e; exact ⟨x, rfl, by rw [← e]; simp⟩
  | x :: xs, k, i + 1, d, e => by
    rw [Py.enumD, List.getElem?_cons_succ] at e
    obtain ⟨y, e1, e2⟩ := enumD_get xs (k + 1) i d e
    refine ⟨y, by simpa using e1, ?_⟩
    rw [e2]
    congr 3
    simp; omega
theorem enumD_len : ∀ (xs : List D) (k : Int), (Py.enumD k xs).length = xs.length
  | [], _ => rfl
  | x :: xs, k => by rw [Py.enumD, List.length_cons, enumD_len, List.length_cons]
/-- a pair, new -/
theorem pair_rd {M : Addr → Prop} {d1 d2 : D} {x y : V} {T : Addr} (n : NoTup M H) (hT : H T = none) (r1 : RD g.K g.fa M H d1 x) (r2 : RD g.K g.fa M H d2 y) : Same H (upd H T (.tup [x, y])) ∧ RD g.K g.fa M (upd H T (.tup [x, y])) (.tup [d1, d2]) (.ref T) :=
  ⟨same_upd hT, RDs.newTup n hT (.cons r1 (.cons r2 .nil))⟩
theorem walkE {ds : List D} {a : Addr} (hv : ∀ ρ2 h2 H2, Post g ρ h H ρ2 h2 H2 → ∃ vs, H2 a = some (.lst vs) ∧ RDs g.K g.fa (live ρ2 h2) H2 ds vs) : WalkD g (Py.enumD 0 ds) none h0 ρ h H (Ite g.K a) where
  goes i ρ2 h2 H2 hi p := by
    rw [enumD_len] at hi
    obtain ⟨vs, e, r⟩ := hv ρ2 h2 H2 p
    exact ⟨vs, vs[i]'(by rw [← r.length]; exact hi), SqL.of e, by simp⟩
  stops ρ2 h2 H2 p := by
    obtain ⟨vs, e, r⟩ := hv ρ2 h2 H2 p
    exact ⟨vs, SqL.of e, by rw [enumD_len, r.length]; exact Nat.le_refl _⟩
  yields i ρ2 h2 H2 v H3 p y d hd := by
    obtain ⟨vs, e, r⟩ := hv ρ2 h2 H2 p
    obtain ⟨T, x, rfl, hT, rfl, hx⟩ := y
    obtain ⟨d', e1, rfl⟩ := enumD_get _ _ _ _ hd
    obtain ⟨v', e2, r1⟩ := r.get e1
    have := hx vs (SqL.of e)
    rw [e2] at this; cases this
    have q := pair_rd p.st.noTup hT (.int (i : Nat)) r1
    simpa using q
  lck := lck_none
theorem zipD_get : ∀ (xs ys : List D) (i : Nat) (d : D), (Py.zipD xs ys)[i]? = some d → ∃ x y, xs[i]? = some x ∧ ys[i]? = some y ∧ d = .tup [x, y]
  | [], _, _, _, e => by simp [Py.zipD] at e
  | _ :: _, [], _, _, e => by simp [Py.zipD] at e
  | x :: xs, y :: ys, 0, d, e => by simp [Py.zipD] at e; exact ⟨x, y, rfl, rfl, e.symm⟩
  | x :: xs, y :: ys, i + 1, d, e => by
    rw [Py.zipD, List.getElem?_cons_succ] at e
    simpa using zipD_get xs ys i d e
theorem zipD_len : ∀ (xs ys : List D), (Py.zipD xs ys).length = min xs.length ys.length
  | [], _ => by simp [Py.zipD]
  | _ :: _, [] => by simp [Py.zipD]
  | x :: xs, y :: ys => by rw [Py.zipD, List.length_cons, zipD_len, List.length_cons, List.length_cons]; omega
theorem walkZ {ds es : List D} {a b : Addr} (hv : ∀ ρ2 h2 H2, Post g ρ h H ρ2 h2 H2 → ∃ vs, H2 a = some (.lst vs) ∧ RDs g.K g.fa (live ρ2 h2) H2 ds vs) (hw : ∀ ρ2 h2 H2, Post g ρ h H ρ2 h2 H2 → ∃ vs, H2 b = some (.lst vs) ∧ RDs g.K g.fa (live ρ2 h2) H2 es vs) : WalkD g (Py.zipD ds es) none h0 ρ h H (Itz g.K a b) where
  goes i ρ2 h2 H2 hi p := by
    rw [zipD_len] at hi
    obtain ⟨vs, e, r⟩ := hv ρ2 h2 H2 p
    obtain ⟨ws, e', r'⟩ := hw ρ2 h2 H2 p
    exact ⟨vs, ws, vs[i]'(by rw [← r.length]; omega), ws[i]'(by rw [← r'.length]; omega), SqL.of e, SqL.of e', by simp, by simp⟩
  stops ρ2 h2 H2 p := by
    obtain ⟨vs, e, r⟩ := hv ρ2 h2 H2 p
    obtain ⟨ws, e', r'⟩ := hw ρ2 h2 H2 p
    refine ⟨vs, ws, SqL.of e, SqL.of e', ?_⟩
    rw [zipD_len, ← r.length, ← r'.length]; omega
  yields i ρ2 h2 H2 v H3 p y d hd := by
    obtain ⟨vs, e, r⟩ := hv ρ2 h2 H2 p
    obtain ⟨ws, e', r'⟩ := hw ρ2 h2 H2 p
    obtain ⟨T, x, y', rfl, hT, rfl, hx, hy⟩ := y
    obtain ⟨d1, d2, e1, e2, rfl⟩ := zipD_get _ _ _ _ hd
    obtain ⟨v1, f1, r1⟩ := r.get e1
    obtain ⟨v2, f2, r2⟩ := r'.get e2
    have q1 := hx vs (SqL.of e)
    have q2 := hy ws (SqL.of e')
    rw [f1] at q1; cases q1
    rw [f2] at q2; cases q2
    exact pair_rd p.st.noTup hT r1 r2
  lck := lck_none
theorem walkZT {ds es : List D} {a b : Addr} (hv : ∀ ρ2 h2 H2, Post g ρ h H ρ2 h2 H2 → ∃ vs, SqT g.K H2 a vs ∧ RDs g.K g.fa (live ρ2 h2) H2 ds vs) (hw : ∀ ρ2 h2 H2, Post g ρ h H ρ2 h2 H2 → ∃ vs, SqT g.K H2 b vs ∧ RDs g.K g.fa (live ρ2 h2) H2 es vs) : WalkD g (Py.zipD ds es) none h0 ρ h H (RZ.ItzT g.K a b) where
  goes i ρ2 h2 H2 hi p := by
    rw [zipD_len] at hi
    obtain ⟨vs, e, r⟩ := hv ρ2 h2 H2 p
    obtain ⟨ws, e', r'⟩ := hw ρ2 h2 H2 p
    exact ⟨vs, ws, vs[i]'(by rw [← r.length]; omega), ws[i]'(by rw [← r'.length]; omega), e, e', by simp, by simp⟩
  stops ρ2 h2 H2 p := by
    obtain ⟨vs, e, r⟩ := hv ρ2 h2 H2 p
    obtain ⟨ws, e', r'⟩ := hw ρ2 h2 H2 p
    refine ⟨vs, ws, e, e', ?_⟩
    rw [zipD_len, ← r.length, ← r'.length]; omega
  yields i ρ2 h2 H2 v H3 p y d hd := by
    obtain ⟨vs, e, r⟩ := hv ρ2 h2 H2 p
    obtain ⟨ws, e', r'⟩ := hw ρ2 h2 H2 p
    obtain ⟨T, x, y', rfl, hT, rfl, hx, hy⟩ := y
    obtain ⟨d1, d2, e1, e2, rfl⟩ := zipD_get _ _ _ _ hd
    obtain ⟨v1, f1, r1⟩ := r.get e1
    obtain ⟨v2, f2, r2⟩ := r'.get e2
    have q1 := hx vs e
    have q2 := hy ws e'
    rw [f1] at q1; cases q1
    rw [f2] at q2; cases q2
    exact pair_rd p.st.noTup hT r1 r2
  lck := lck_none
/-! how data stay -/
theorem stayL {ds : List D} {v : V} (rs : RSt g ρ h H) (r : RD g.K g.fa (live ρ h) H (.lst ds) v) : ∃ a, v = .ref a ∧ ∀ ρ2 h2 H2, Post g ρ h H ρ2 h2 H2 → ∃ vs, H2 a = some (.lst vs) ∧ RDs g.K g.fa (live ρ2 h2) H2 ds vs := by
  cases r with
  | lst h1 h2 h3 => exact ⟨_, rfl, fun ρ2 h2' H2 p => ⟨_, p.frm.keep _ _ h1 h2 (fun ps z => nomatch z), h3.post p rs.noTup⟩⟩
theorem stayT {ds : List D} {v : V} (rs : RSt g ρ h H) (r : RD g.K g.fa (live ρ h) H (.tup ds) v) : ∃ a, v = .ref a ∧ ∀ ρ2 h2 H2, Post g ρ h H ρ2 h2 H2 → ∃ vs, SqT g.K H2 a vs ∧ RDs g.K g.fa (live ρ2 h2) H2 ds vs := by
  cases r with
  | tup h1 h2 => exact ⟨_, rfl, fun ρ2 h2' H2 p => ⟨_, sqT_keep p.frm rs.noTup h1, h2.post p rs.noTup⟩⟩
/-- a walked cell's list -/
theorem stayC {i : Nat} {xs : List D} {a : Addr} {as : List Addr} (e : h[i]? = some (.lk xs)) (er : ρ.c[i]? = some (a :: as)) : ∀ ρ2 h2 H2, Post g ρ h H ρ2 h2 H2 → ∃ vs, H2 a = some (.lst vs) ∧ RDs g.K g.fa (live ρ2 h2) H2 xs vs := fun ρ2 h2 H2 p => by
  obtain ⟨b, vs, z, e1, r⟩ := p.st.cell i _ _ (p.sl i _ e rfl) (pre_get p.pre er)
  cases z
  exact ⟨vs, e1, r⟩
theorem sqL_of {a : Addr} {ds : List D} (hv : ∀ ρ2 h2 H2, Post g ρ h H ρ2 h2 H2 → ∃ vs, H2 a = some (.lst vs) ∧ RDs g.K g.fa (live ρ2 h2) H2 ds vs) (rs : RSt g ρ h H) : ∃ vs, SqL g.K H a vs := by
  obtain ⟨vs, e, _⟩ := hv ρ h H (.refl rs)
  exact ⟨vs, SqL.of e⟩
/-! the rules -/
theorem post_lock {i : Nat} {xs : List D} (p : Post g ρ0 h0 H0 ρ h H) (e : h[i]? = some (.ml xs)) (hs : ∀ w, h0[i]? = some w → still w = false) : Post g ρ0 h0 H0 ρ (h.set i (.lk xs)) H := p.relabel e rfl rfl (fun _ _ _ r => r) hs
theorem ml_before {i : Nat} {xs : List D} (p : Post g ρ0 h0 H0 ρ h H) (e : h[i]? = some (.ml xs)) : ∀ w, h0[i]? = some w → still w = false := fun w q => by
  cases z : still w with
  | false => rfl
  | true =>
    have := p.sl i w q z
    rw [e] at this; cases this
    cases z
theorem si_val (ha : PE X a (tD (gx X g) c W cf da)) : PI X tg a (tI (gx X g) c W cf (Py.iVal da)) :=
  (((pi_list ha).or (pi_tup ha)).or (pi_str ha)).imp fun σ H R ⟨ρ, env, h, re, rs, e⟩ => by
    unfold Py.iVal at e
    cases q : da cf env h with
    | stuck => rw [q] at e; exact e.elim
    | exc x h1 =>
      refine .inl (.inl ⟨ρ, env, h, re, rs, ?_⟩)
      rw [q] at e ⊢
      exact e
    | ok x h1 =>
      rw [q] at e
      have e : EndR (gx X g) W ρ h σ H _ (Py.lock x h1) := e
      cases x with
      | d x =>
        cases x with
        | lst ds =>
          refine .inl (.inl ⟨ρ, env, h, re, rs, ?_⟩)
          rw [q]
          intro ρ1 v H1 p r
          obtain ⟨a', rfl, hv⟩ := stayL p.st r
          exact ⟨a', rfl, sqL_of hv p.st, e ρ1 H1 _ p (walkL p.st hv lck_none)⟩
        | tup ds =>
          refine .inl (.inr ⟨ρ, env, h, re, rs, ?_⟩)
          rw [q]
          intro ρ1 v H1 p r
          obtain ⟨a', rfl, hv⟩ := stayT p.st r
          obtain ⟨vs, e1, _⟩ := hv ρ1 h1 H1 (.refl p.st)
          exact ⟨a', rfl, ⟨vs, e1⟩, e ρ1 H1 _ p (walkT hv)⟩
        | str s =>
          refine .inr ⟨ρ, env, h, re, rs, ?_⟩
          rw [q]
          intro ρ1 v H1 p r
          cases r
          exact ⟨_, rfl, e ρ1 H1 _ p walkS⟩
        | _ => exact e.elim
      | m i =>
        unfold Py.lock at e
        simp only [Py.nth_eq] at e
        cases q2 : h1[i]? with
        | none => rw [q2] at e; exact e.elim
        | some o =>
          rw [q2] at e
          cases o with
          | ml xs =>
            simp only [Py.setAt_eq] at e
            refine .inl (.inl ⟨ρ, env, h, re, rs, ?_⟩)
            rw [q]
            intro ρ1 v H1 p r
            obtain ⟨a', as, e1, rfl⟩ := r
            have hs := ml_before p q2
            have p2 := post_lock p q2 hs
            have hi : i < h1.length := (List.getElem?_eq_some_iff.mp q2).1
            have q3 : (h1.set i (.lk xs))[i]? = some (.lk xs) := List.getElem?_set_self hi
            have hv := stayC (g := gx X g) (H := H1) q3 e1
            exact ⟨a', rfl, sqL_of hv p2.st, e ρ1 H1 _ p2 (walkL p2.st hv fun j z => by cases z; exact ⟨⟨_, q3, rfl⟩, hs⟩)⟩
          | lk xs =>
            refine .inl (.inl ⟨ρ, env, h, re, rs, ?_⟩)
            rw [q]
            intro ρ1 v H1 p r
            obtain ⟨a', as, e1, rfl⟩ := r
            have hv := stayC (g := gx X g) (H := H1) q2 e1
            exact ⟨a', rfl, sqL_of hv p.st, e ρ1 H1 _ p (walkL p.st hv lck_none)⟩
          | _ => exact e.elim
      | _ => exact e.elim
theorem rng_ok {i j : Int} (h : Py.rngOk i j = true) : -(2 ^ 62) ≤ i ∧ i < 2 ^ 62 ∧ -(2 ^ 62) ≤ j ∧ j < 2 ^ 62 := by
  unfold Py.rngOk at h
  simp only [Bool.and_eq_true, Nat.blt_eq] at h
  omega
theorem si_rng1 (hg : Gl X "range") (hm : X.mg "range" = none) (ha : PE X a (tD g c W cf da)) (hs : starEach [a] X.env = [(false, eval a X.env)] := by rfl) : PI X tg (.Call (.Name "range" p) [a] [] pos) (tI g c W cf (Py.iRng1 da)) :=
  (pi_range1 hg hm (pa_cons ha pa_nil hs) hs).imp fun σ H R ⟨ρ, env, h, re, rs, e⟩ => tD.go re rs e fun x h1 ρ1 v H1 p1 r1 e => by
    cases x with
    | d x =>
      cases x with
      | int j =>
        simp only at e
        split at e
        · rename_i hr
          obtain ⟨_, _, q3, q4⟩ := rng_ok hr
          exact ⟨j, by rw [RD.int' r1], q3, q4, e ρ1 H1 _ p1 walkR⟩
        · exact e.elim
      | _ => exact e.elim
    | _ => exact e.elim
theorem si_rng2 (hg : Gl X "range") (hm : X.mg "range" = none) (ha : PE X a (tD g c W cf da)) (hb : PE X b (tD g c W cf db)) (hs2 : starEach [b] X.env = [(false, eval b X.env)] := by rfl) (hs : starEach [a, b] X.env = (false, eval a X.env) :: starEach [b] X.env := by rfl) : PI X tg (.Call (.Name "range" p) [a, b] [] pos) (tI g c W cf (Py.iRng2 da db)) :=
  (pi_range2 hg hm (pa_cons ha (pa_cons hb pa_nil hs2) hs) (by rw [hs, hs2]) hs2).imp fun σ H R ⟨ρ, env, h, re, rs, e⟩ => tD.go re rs e fun x h1 ρ1 v H1 p1 r1 e => tD.go (re.keep p1 rs.noTup) p1.st e fun y h2 ρ2 w H2 p2 r2 e => by
    cases x with
    | d x =>
      cases x with
      | int i =>
        cases y with
        | d y =>
          cases y with
          | int j =>
            simp only at e
            split at e
            · rename_i hr
              have r1 := r1.keep p2 p1.st.noTup
              exact ⟨i, j, by rw [RD.int' r1, RD.int' r2], rng_ok hr, e ρ2 H2 _ (p1.trans p2) walkR⟩
            · exact e.elim
          | _ => exact e.elim
        | _ => exact e.elim
      | _ => exact e.elim
    | _ => exact e.elim
end
end Sd

set_option autoImplicit false
set_option linter.all false
set_option maxRecDepth 100000
set_option maxHeartbeats 2000000
/-! SndX: comprehensions. -/
namespace Sd
open PySem L2 PySem.Spec PyProof.Rows
abbrev WNo : WX := fun _ _ _ _ => False
theorem wipe_off {vs : List Nat} {σ σ' : L2.St} (o : Off vs σ σ') : wipe σ' vs = wipe σ vs := by
  have get : ∀ (ws : List Nat) (σ : L2.St) (j : Nat), (wipe σ ws)[j]? = if j ∈ ws ∧ j < σ.length then some none else σ[j]? := by
    intro ws
    induction ws with
    | nil => intro σ j; simp [wipe]
    | cons w ws ih =>
      intro σ j
      rw [wipe]
      by_cases hj : w = j
      · subst hj
        by_cases hl : w < σ.length
        · rw [List.getElem?_set_self (by rw [wipe_length]; exact hl), if_pos ⟨List.mem_cons_self, hl⟩]
        · rw [List.getElem?_eq_none (by simpa [wipe_length] using hl), if_neg (fun z => hl z.2), List.getElem?_eq_none (by simpa using hl)]
      · rw [List.getElem?_set_ne hj, ih]
        have : j ∈ w :: ws ↔ j ∈ ws := by simp [Ne.symm hj]
        simp only [this]
  apply List.ext_getElem?
  intro j
  rw [get, get, o.1]
  split
  · rfl
  · rename_i hn
    by_cases hj : j ∈ vs
    · have hl : ¬ j < σ.length := fun z => hn ⟨hj, z⟩
      rw [List.getElem?_eq_none (by rw [o.1]; omega), List.getElem?_eq_none (by omega)]
    · exact o.2 j hj
theorem off_wipe : ∀ (vs : List Nat) (σ : L2.St), Off vs σ (wipe σ vs)
  | [], σ => .refl
  | v :: vs, σ => ⟨wipe_length _ _, fun j hj => by
    rw [wipe, List.getElem?_set_ne (fun z => hj (by rw [z]; exact List.mem_cons_self))]
    exact (off_wipe vs σ).2 j fun z => hj (List.mem_cons_of_mem _ z)⟩
section
variable {g : G} {c : Fx} {W : WX} {cf : Py.CallF}
variable {ρ ρ0 ρ1 ρ2 : Rho} {h h0 h1 h2 : CH} {H H0 H1 H2 : Hp} {env : Py.Ev} {σ : L2.St}
theorem REnv.wipe (vs : List Nat) (re : REnv g c ρ h H env σ) : REnv g c ρ h H (Py.wipeE vs env) (L2.wipe σ vs) := by
  induction vs with
  | nil => exact re
  | cons v vs ih =>
    rw [Py.wipeE, L2.wipe, Py.setAt_eq]
    refine ⟨by rw [List.length_set, List.length_set]; exact ih.1, fun i x e => ?_⟩
    rcases get_set e with ⟨rfl, rfl⟩ | ⟨hv, e⟩
    · exact .inl rfl
    · rw [List.getElem?_set_ne hv]; exact ih.2 i x e
theorem Res.assoc {α β γ : Type} (r : Py.Res α) (f : α → CH → Py.Res β) (k : β → CH → Py.Res γ) : (r.bind f).bind k = r.bind fun a h => (f a h).bind k := by cases r <;> rfl
/-- nothing is let out -/
def Quiet {α : Type} : Py.Res α → Prop
  | .exc _ _ => False
  | _ => True
theorem comp_quiet {γ : Py.Gn} {t : Py.Tn} {e : Py.Dn} : ∀ (xs : List D) (h : CH), Quiet (Py.compLoop γ t e cf env xs h)
  | [], h => trivial
  | x :: xs, h => by
    rw [Py.compLoop]
    cases hγ : γ x env with
    | none => trivial
    | some env' =>
      show Quiet (match t cf env' h with | .ok false h1 => _ | .ok true h1 => _ | _ => _)
      cases ht : t cf env' h with
      | ok b h1 =>
        cases b with
        | false => exact comp_quiet xs h1
        | true =>
          simp only
          cases he : e cf env' h1 with
          | ok y h2 =>
            simp only
            cases hy : Py.pd y with
            | none => trivial
            | some d =>
              have := comp_quiet (γ := γ) (t := t) (e := e) xs h2
              show Quiet ((Py.compLoop γ t e cf env xs h2).bind _)
              cases hq : Py.compLoop γ t e cf env xs h2 with
              | ok _ _ => trivial
              | exc _ _ => rw [hq] at this; exact this
              | stuck => trivial
          | exc _ _ => trivial
          | stuck => trivial
      | exc _ _ => trivial
      | stuck => trivial
theorem EndR.quiet {α β : Type} {r : Py.Res α} {f : α → CH → Py.Res β} {k : β → CH → Prop} (q : Quiet r) (e : EndR g W ρ h σ H k (r.bind f)) : ∃ a h1, r = .ok a h1 ∧ EndR g W ρ h σ H k (f a h1) := by
  cases r with
  | ok a h1 => exact ⟨a, h1, rfl, e⟩
  | exc _ _ => exact q.elim
  | stuck => exact e.elim
theorem RDs.snoc {K : PySem.W.Frag} {fa : Nat → Addr} {M : Addr → Prop} {ds : List D} {vs : List V} {d : D} {v : V} (r : RDs K fa M H ds vs) (r1 : RD K fa M H d v) : RDs K fa M H (ds ++ [d]) (vs ++ [v]) := r.append (.cons r1 .nil)
/-- the list comprehension's end -/
def compEnd (l : Option Nat) (ds : List D) (h : CH) : Py.Res Sl := if Nat.ble ds.length Py.line then .ok (.d (.lst ds)) (Py.unlock l h) else .stuck
theorem lc_of {i : Py.In} {γ : Py.Gn} {t : Py.Tn} {e : Py.Dn} {vs : List Nat} {Q : VK} (tt : tN g c W cf (Py.eComp vs i γ t e) σ H Q) : tLc (tI g c W cf i) (tG g c vs γ) (tT g c WNo cf t) (tD g c WNo cf e) vs σ H Q := by
  obtain ⟨ρ, env, h, re, rs, en⟩ := tt
  refine ⟨ρ, env, h, re, rs, en.bind.imp fun p h1 en ρ1 H1 J po k Dp hD => ?_⟩
  obtain ⟨xs, l⟩ := p
  have hD0 : H Dp = none := none_back po.frm.there hD
  have nP : ¬ ρ.p Dp := notP_of_none rs hD0
  have nP1 : ¬ ρ1.p Dp := notP_of_none po.st hD
  have lD : LD (upd H1 Dp (.lst [])) Dp := .inl ⟨_, upd_same⟩
  have pN := Post.new po.st (same_upd (o := .lst []) hD) hD lD
  have K0 := en
  -- the invariant
  let En : CH → List D → List D → Prop := fun h2 ys acc => EndR g W ρ h σ H (fun x h' => ∀ ρ' v H', Post g ρ h H ρ' h' H' → RRs g c ρ' h' H H' x v → (∀ d, x = .d d → isLD d → ∃ ρ2, Post g ρ h H ρ2 h' H' ∧ RRs g c ρ2 h' H H' (.f d) v) → Q v H')
    ((Py.compLoop γ t e cf (Py.wipeE vs env) ys h2).bind fun ds h3 => compEnd l (acc ++ ds) h3)
  let Wv : Nat → Nat → Hp → Prop := fun i m H2 => m = xs.length - i ∧ i ≤ xs.length ∧ ∃ ρ2 h2 acc vs2, Post g ρ h H ρ2 h2 H2 ∧ Post g ρ1 h1 H1 ρ2 h2 H2 ∧ ρ2.p Dp ∧ H2 Dp = some (.lst vs2) ∧ RDs g.K g.fa (live ρ2 h2) H2 acc vs2 ∧ En h2 (xs.drop i) acc
  refine ⟨Wv, ⟨xs.length, by simp, Nat.zero_le _, ρ1.add Dp, h1, [], [], po.trans pN, pN, .inr rfl, upd_same, .nil, K0⟩, ?_⟩
  rintro i m H2 ⟨rfl, hi, ρ2, h2, acc, vs2, p2, q2, pD, eD, rD, e2⟩
  have re2 := re.keep p2 rs.noTup
  by_cases hlt : i < xs.length
  · right
    refine ⟨k.goes i ρ2 h2 H2 hlt q2, Wv (i + 1) (xs.length - (i + 1)), fun H' w => ⟨_, by omega, w⟩, fun x H3 y => ?_⟩
    have hx : xs[i]? = some xs[i] := List.getElem?_eq_getElem hlt
    obtain ⟨sm, rd⟩ := k.yields i ρ2 h2 H2 x H3 q2 y _ hx
    have pS := Post.same p2.st sm
    have e2 : EndR g W ρ h σ H _ ((Py.compLoop γ t e cf (Py.wipeE vs env) (xs.drop i) h2).bind _) := e2
    rw [List.drop_eq_getElem_cons hlt, Py.compLoop] at e2
    cases hγ : γ xs[i] (Py.wipeE vs env) with
    | none => rw [hγ] at e2; exact e2.elim
    | some env3 =>
      rw [hγ] at e2
      refine ⟨ρ2, h2, Py.wipeE vs env, xs[i], env3, (re2.keep pS p2.st.noTup).wipe vs, pS.st, rd, hγ, fun σ3 of re3 => ⟨?_, ?_⟩⟩
      · rw [wipe_off of]
        exact wipe_off (off_wipe vs _)
      · have e2 : EndR g W ρ h σ H _ ((match t cf env3 h2 with | .ok false h1 => _ | .ok true h1 => _ | _ => Py.Res.stuck).bind _) := e2
        refine ⟨ρ2, env3, h2, re3, pS.st, ?_⟩
        cases ht : t cf env3 h2 with
        | stuck => simp only [ht] at e2; exact e2.elim
        | exc _ _ => simp only [ht] at e2; exact e2.elim
        | ok b h3 =>
          simp only [ht] at e2
          intro ρ3 H4 p3
          have p23 := pS.trans p3
          have pD3 := (p23.pp Dp pD)
          have rD3 := rD.post p23 p2.st.noTup
          cases b with
          | false => exact ⟨rfl, hlt, ρ3, h3, acc, vs2, p2.trans p23, q2.trans p23, pD3.1, pD3.2.trans eD, rD3, e2⟩
          | true =>
            simp only at e2
            rw [if_pos rfl]
            refine ⟨ρ3, env3, h3, re3.keep p3 pS.st.noTup, p3.st, ?_⟩
            cases he : e cf env3 h3 with
            | stuck => simp only [he] at e2; exact e2.elim
            | exc _ _ => simp only [he] at e2; exact e2.elim
            | ok y h4 =>
              simp only [he] at e2
              intro ρ4 v4 H5 p4 r4
              have p24 := p23.trans p4
              have pD4 := (p24.pp Dp pD)
              have rD4 := rD.post p24 p2.st.noTup
              cases hy : Py.pd y with
              | none => rw [hy] at e2; exact e2.elim
              | some d =>
                rw [hy] at e2
                have e2 : EndR g W ρ h σ H _ (((Py.compLoop γ t e cf (Py.wipeE vs env) (xs.drop (i + 1)) h4).bind fun ds h5 => Py.Res.ok (d :: ds) h5).bind _) := e2
                rw [Res.assoc] at e2
                have e2' : En h4 (xs.drop (i + 1)) (acc ++ [d]) := by
                  show EndR _ _ _ _ _ _ _ _
                  simp only [List.append_assoc, List.singleton_append]
                  exact e2
                obtain ⟨ds, h5, q5, e5⟩ := EndR.quiet (comp_quiet _ _) e2'
                have hl : vs2.length < sizeLine := by
                  unfold compEnd at e5
                  split at e5
                  · rename_i hl
                    have := Nat.ble_eq.mp hl
                    rw [← line_eq, ← rD.length]
                    simp at this; omega
                  · exact e5.elim
                have hn := pD4.2.trans eD
                have lv : LD (upd H5 Dp (.lst (vs2 ++ [v4]))) Dp := .inl ⟨_, upd_same⟩
                have pU := Post.updP (p2.trans p24) nP hD0 pD4.1 lv
                have qU := Post.updP (q2.trans p24) nP1 hD pD4.1 lv
                have fr : Frm (live ρ4 h4) H5 (upd H5 Dp (.lst (vs2 ++ [v4]))) := ⟨fun b o e n _ => by rw [upd_ne (fun z => n (by rw [z]; exact .inr pD4.1))]; exact e, fun b o e => by
                  by_cases hb : b = Dp
                  · exact ⟨_, by rw [hb, upd_same]⟩
                  · exact ⟨o, by rw [upd_ne hb]; exact e⟩⟩
                exact ⟨vs2, hn, hl, rfl, hlt, ρ4, h4, acc ++ [d], vs2 ++ [v4], pU, qU, pD4.1, upd_same, RDs.keep fr p4.st.noTup (fun _ z => .inl z) (rD4.snoc (RSt.pd r4 hy)), e2'⟩
  · have hi' : i = xs.length := by omega
    subst hi'
    left
    refine ⟨k.stops ρ2 h2 H2 q2, ?_⟩
    have e2 : EndR g W ρ h σ H _ ((Py.compLoop γ t e cf (Py.wipeE vs env) (xs.drop xs.length) h2).bind _) := e2
    rw [List.drop_length, Py.compLoop] at e2
    have e2 : EndR g W ρ h σ H _ (compEnd l (acc ++ []) h2) := e2
    rw [List.append_nil] at e2
    unfold compEnd at e2
    split at e2
    · have fr := k.free p2 q2
      have rt : RT g.K g.fa (live ρ2 (Py.unlock l h2)) H2 (.lst acc) (.ref Dp) := ⟨Dp, vs2, rfl, eD, by rw [fr.2]; exact rD⟩
      exact e2 _ _ H2 (fr.1.drop nP) (drop_rd fr.1.st pD rt trivial) fun d z _ => by
        cases z
        exact ⟨ρ2, fr.1, Dp, rfl, hD0, pD, rt, trivial⟩
    · exact e2.elim
end
end Sd

set_option autoImplicit false
set_option linter.all false
set_option maxRecDepth 100000
set_option maxHeartbeats 2000000
/-! SndY: comprehensions as expressions and statements; methods of lists; calls of defs; a def's promise. -/
namespace Sd
open PySem L2 PySem.Spec PyProof.Rows
section
variable {X : Cx} {g : G} {c : Fx} {W : WX} {cf : Py.CallF}
variable {a b e : Expr} {da db : Py.Dn} {pos : Pos} {st : Stmt}
variable {ρ ρ0 ρ1 ρ2 : Rho} {h h0 h1 h2 : CH} {H H0 H1 H2 : Hp} {env : Py.Ev} {σ : L2.St}
abbrev Bk (X : Cx) (s : Shared) (H : Hp) (scope : Scope) (C : Addr) (cl : List (Str × Addr)) (fp : List Addr) : Cx := X.blk s H scope (compEnvC scope cl C X.env) fp
theorem ts_nil : PTs X [] (tT g c W cf Py.tYes) := ⟨fun pins s σ H Q I ⟨ρ, env, h, re, rs, e⟩ => pts_nil.run pins s σ H Q I (e ρ H (.refl rs))⟩
theorem ts_one {cnd : Expr} {t : Py.Tn} (p : PT X cnd (tT g c W cf t)) : PTs X [cnd] (tT g c W cf t) := pts_one p
theorem sn_comp {elt tg iter : Expr} {ifs : List Expr} {scope : Scope} {own : List (Str × Nat)} {vs : List Nat} {i : Py.In} {γ : Py.Gn} {t : Py.Tn} (hc : X.calm = true) (hN : X.N.Nodup) (ho : own.map (·.2) = vs) (hi : PI X tg iter (tI g c W cf i)) (ok : BlkOk X.N X.env.scope scope own)
    (hg : ∀ (s : Shared) (H : Hp) (C : Addr) (cl : List (Str × Addr)) (fp : List Addr), PG (Bk X s H scope C cl fp) tg (tG g c vs γ)) (ht : ∀ (s : Shared) (H : Hp) (C : Addr) (cl : List (Str × Addr)) (fp : List Addr), PTs (Bk X s H scope C cl fp) ifs (tT g c WNo cf t))
    (he : ∀ (s : Shared) (H : Hp) (C : Addr) (cl : List (Str × Addr)) (fp : List Addr), PE (Bk X s H scope C cl fp) elt (tD g c WNo cf da)) (hs : ∀ x, foldedSetIterable iter X.env x = pure x := by intro _; rfl) :
    PE X (.ListComp elt [⟨tg, iter, ifs, 0⟩] scope pos) (tN g c W cf (Py.eComp vs i γ t da)) := by
  subst ho
  exact (pe_lc hc hN hi ok hg ht he hs).imp fun _ _ _ => lc_of
/-- name = [..] on one line -/
theorem ss_setLc {k : Nat} {y : Str} {py spos : Pos} {elt tg iter : Expr} {ifs : List Expr} {scope : Scope} {own : List (Str × Nat)} {vs : List Nat} {i : Py.In} {γ : Py.Gn} {t : Py.Tn} (hc : X.calm = true) (hN : X.N.Nodup) (ho : own.map (·.2) = vs) (hy : X.N[k]? = some y) (hyl : X.env.scope.names.lookup y = some .local)
    (hsw : swapsWith (.ListComp elt [⟨tg, iter, ifs, 0⟩] scope pos) (some (.Name y py)) spos.line X.env = pure true) (hi : PI X tg iter (tI g c W cf i)) (ok : BlkOk X.N X.env.scope scope own)
    (hg : ∀ (s : Shared) (H : Hp) (C : Addr) (cl : List (Str × Addr)) (fp : List Addr), PG (Bk X s H scope C cl fp) tg (tG g c vs γ)) (ht : ∀ (s : Shared) (H : Hp) (C : Addr) (cl : List (Str × Addr)) (fp : List Addr), PTs (Bk X s H scope C cl fp) ifs (tT g c WNo cf t))
    (he : ∀ (s : Shared) (H : Hp) (C : Addr) (cl : List (Str × Addr)) (fp : List Addr), PE (Bk X s H scope C cl fp) elt (tD g c WNo cf da)) (hs : ∀ x, foldedSetIterable iter X.env x = pure x := by intro _; rfl) :
    PS X (.Assign [.Name y py] (.ListComp elt [⟨tg, iter, ifs, 0⟩] scope pos) spos) (tS g c W cf (Py.sAsg k (Py.eComp vs i γ t da))) := by
  subst ho
  exact (ps_setLc hc hN hy hyl hsw hi ok hg ht he hs).imp fun D σ H t => lc_of (tN.weak (asg_of t))
theorem ss_newLc {k : Nat} {y : Str} {py spos : Pos} {elt tg iter : Expr} {ifs : List Expr} {scope : Scope} {own : List (Str × Nat)} {vs : List Nat} {i : Py.In} {γ : Py.Gn} {t : Py.Tn} (hc : X.calm = true) (hN : X.N.Nodup) (ho : own.map (·.2) = vs) (hy : X.N[k]? = some y) (hyl : X.env.scope.names.lookup y = some .local)
    (hsw : swapsWith (.ListComp elt [⟨tg, iter, ifs, 0⟩] scope pos) (some (.Name y py)) spos.line X.env = pure true) (hi : PI X tg iter (tI g c W cf i)) (ok : BlkOk X.N X.env.scope scope own)
    (hg : ∀ (s : Shared) (H : Hp) (C : Addr) (cl : List (Str × Addr)) (fp : List Addr), PG (Bk X s H scope C cl fp) tg (tG g c vs γ)) (ht : ∀ (s : Shared) (H : Hp) (C : Addr) (cl : List (Str × Addr)) (fp : List Addr), PTs (Bk X s H scope C cl fp) ifs (tT g c WNo cf t))
    (he : ∀ (s : Shared) (H : Hp) (C : Addr) (cl : List (Str × Addr)) (fp : List Addr), PE (Bk X s H scope C cl fp) elt (tD g c WNo cf da)) (hs : ∀ x, foldedSetIterable iter X.env x = pure x := by intro _; rfl) :
    PS X (.Assign [.Name y py] (.ListComp elt [⟨tg, iter, ifs, 0⟩] scope pos) spos) (tS g c W cf (Py.sNew k (Py.eF (Py.eComp vs i γ t da)))) := by
  subst ho
  exact (ps_setLc hc hN hy hyl hsw hi ok hg ht he hs).imp fun D σ H t => lc_of (tN.f (new_of t))

/-! methods of lists -/
def rL1 (g : G) (f : D → List D → Option (D × List D)) : V → List V → Hp → VK → Prop := fun x vs H Q => ∃ (M : Addr → Prop) (l : Addr) (ws : List V) (y : V) (d r : D) (xs ys : List D), x = .ref l ∧ vs = [y] ∧ H l = some (.lst ws) ∧ RD g.K g.fa M H d y ∧ RDs g.K g.fa M H xs ws ∧ f d xs = some (r, ys) ∧
  ∀ v ws', RDs g.K g.fa M H ys ws' → RD g.K g.fa M H r v → Q v (upd H l (.lst ws'))
theorem ml_append : MtM X "list.append" (rL1 (gx X g) Py.lAppend) := by
  intro pins s σ H x vs v us Q I rx rv h
  obtain ⟨M, l, ws, y, d, r, xs, ys, rfl, rfl, hH, rd, rds, f, q⟩ := h
  unfold Py.lAppend at f
  split at f
  · rename_i hl
    cases f
    have hl := Nat.blt_eq.mp hl
    exact mt_append pins s σ H _ _ v us Q I rx rv ⟨l, ws, y, rfl, rfl, hH, by rw [← rds.length, ← line_eq]; exact hl, q _ _ (rds.append (.cons rd .nil)) .non⟩
  · cases f
theorem so_upL1 {i : Nat} {x : Str} {nm : Str} {p apos cpos : Pos} {f : D → List D → Option (D × List D)} {idS : String} (pa : PlainAttrs "list") (slot : Slot "list" nm idS) (hty : typeOf (.builtin idS) = pure (.type "method_descriptor")) (hm : MtM X idS (rL1 (gx X g) f))
    (hN : X.N[i]? = some x) (hv : Vis X.env.scope x) (ha : PE X a (tD (gx X g) c W cf da)) (hd : (x == ("__debug__" : Str)) = false := by decide) (hcd : (x == ("__classdict__" : Str)) = false := by decide)
    (hbase : attributeBase (.Name x p) nm X.env (eval (.Name x p) X.env) = eval (.Name x p) X.env := by rfl)
    (hfew : ((backTo cpos (starEach [a] X.env)).all (fun x => !x.1) && (backToKw cpos (keywordEach [] X.env)).all (fun x => x.1.isSome)
      && decide (([a] : List Expr).length + ([] : List Keyword).length + (if ([] : List Keyword).isEmpty then 0 else 1) < 30)) = true := by rfl)
    (hline : (apos.endLine == cpos.line) = true := by rfl) (hs : starEach [a] X.env = (false, eval a X.env) :: starEach [] X.env := by rfl) (hplain : (backTo cpos (starEach [] X.env)).any (·.1) = false := by rfl) :
    PE X (.Call (.Attribute (.Name x p) nm apos) [a] [] cpos) (tD (gx X g) c W cf (Py.upL1 i da f)) :=
  (pe_bm pa slot hty hm (pe_var hN hv hd hcd) (pa_cons ha pa_nil hs) hbase hfew hline hs hplain).imp fun σ H Q ⟨ρ, env, h, re, rs, e⟩ => by
    unfold Py.upL1 at e
    simp only [Py.nth_eq] at e
    cases q : env[i]? with
    | none => rw [q] at e; exact e.elim
    | some y =>
      rw [q] at e
      cases y with
      | m k =>
        simp only at e
        obtain ⟨o, e1, e⟩ := e.of
        split at e
        · rename_i hl
          rcases re.2 i _ q with z | ⟨v, e2, a', as, e3, rfl⟩
          · cases z
          · have lst : ∃ xs, SqL X.K H a' xs := by
              have ro := rs.cell k o _ e1 e3
              cases o with
              | ml xs => obtain ⟨b', vs, z, q1, _⟩ := ro; cases z; exact ⟨vs, SqL.of q1⟩
              | lk xs => obtain ⟨b', vs, z, q1, _⟩ := ro; cases z; exact ⟨vs, SqL.of q1⟩
              | _ => simp [Py.isLs] at hl
            refine ⟨_, e2, .inl ⟨rfl, lst⟩, tD.go re rs e fun y h1 ρ1 w H1 p1 r1 e => ?_⟩
            obtain ⟨d, e4, e⟩ := e.of
            cases q2 : h1[k]? with
            | none => rw [q2] at e; exact e.elim
            | some o2 =>
              rw [q2] at e
              cases o2 with
              | ml xs =>
                simp only at e
                obtain ⟨r, e5, e⟩ := e.of
                simp only [Py.frL_eq, Py.setAt_eq] at e
                obtain ⟨r, ys⟩ := r
                have e3' := pre_get p1.pre e3
                obtain ⟨b', ws, z, q3, q4⟩ := p1.st.cell k _ _ q2 e3'
                cases z
                refine ⟨live ρ1 h1, _, ws, w, d, r, xs, ys, rfl, rfl, q3, RSt.pd r1 e4, q4, e5, fun v ws' rys rr => ?_⟩
                have la : live ρ1 h1 a' := .inl ⟨k, _, _, e3', q2, rfl, by simp⟩
                have fr : Frm (live ρ1 h1) H1 (upd H1 a' (.lst ws')) := ⟨fun b o e n _ => by rw [upd_ne (fun z => n (by rw [z]; exact la))]; exact e, fun b o e => by
                  by_cases hb : b = a'
                  · exact ⟨_, by rw [hb, upd_same]⟩
                  · exact ⟨o, by rw [upd_ne hb]; exact e⟩⟩
                have pc := Post.cell (u := .lst ws') (o' := .ml ys) p1.st q2 e3' rfl rfl (.inl ⟨_, q3⟩) ⟨a', ws', rfl, upd_same, RDs.keep fr p1.st.noTup (fun _ z => .inl z) rys⟩
                exact e ρ1 v _ (p1.trans pc) (RD.post pc p1.st.noTup rr)
              | _ => exact e.elim
        · exact e.elim
      | _ => exact e.elim
end
end Sd

set_option autoImplicit false
set_option linter.all false
set_option maxRecDepth 100000
set_option maxHeartbeats 2000000
/-! SndZ: calls of defs; a def's promise. -/
namespace Sd
open PySem L2 PySem.Spec PyProof.Rows
inductive RSls (g : G) (ρ : Rho) (h : CH) (H : Hp) : List Sl → List V → Prop
  | nil : RSls g ρ h H [] []
  | cons {x : Sl} {xs : List Sl} {v : V} {vs : List V} : RSl g Fx.none ρ h H x v → RSls g ρ h H xs vs → RSls g ρ h H (x :: xs) (v :: vs)
def EndC (g : G) (ρ : Rho) (h : CH) (H : Hp) (Q : VK) (E : XK) : Py.Res Sl → Prop
  | .ok x h' => ∀ ρ' v H', Post g ρ h H ρ' h' H' → RRs g Fx.none ρ' h' H H' x v → Q v H'
  | .exc x h' => ∀ ρ' cls dd H', Post g ρ h H ρ' h' H' → RX g H' x cls dd → E cls dd H'
  | .stuck => False
/-- what the def of the number f promises -/
def spEv (g : G) (cf : Py.CallF) (f n : Nat) : Sp := fun vs H Q E => vs.length = n ∧ ∃ ρ h xs, RSt g ρ h H ∧ RSls g ρ h H xs vs ∧ EndC g ρ h H Q E (cf f xs h)
section
variable {g : G} {c : Fx} {W : WX} {cf : Py.CallF}
variable {ρ ρ0 ρ1 ρ2 : Rho} {h h0 h1 h2 : CH} {H H0 H1 H2 : Hp} {env : Py.Ev} {σ : L2.St}
theorem EndR.imp' {α : Type} {k k' : α → CH → Prop} {r : Py.Res α} (e : EndR g W ρ h σ H k r) (f : ∀ a h', r = .ok a h' → k a h' → k' a h') : EndR g W ρ h σ H k' r := by
  cases r with
  | ok a h' => exact f _ _ rfl e
  | exc x h' => exact e
  | stuck => exact e
def ArgLen (as : Py.An) (n : Nat) : Prop := ∀ (cf : Py.CallF) (env : Py.Ev) (h : CH) (xs : List Sl) (h' : CH), as cf env h = .ok xs h' → xs.length = n
theorem aLen_nil : ArgLen Py.aNil 0 := fun cf env h xs h' e => by cases e; rfl
theorem aLen_cons {a : Py.Dn} {r : Py.An} {n : Nat} (q : ArgLen r n) : ArgLen (Py.aCons a r) (n + 1) := fun cf env h xs h' e => by
  unfold Py.aCons at e
  cases ea : a cf env h with
  | ok x h1 =>
    rw [ea] at e
    have e : ((r cf env h1).bind fun xs h2 => Py.Res.ok (x :: xs) h2) = .ok xs h' := e
    cases er : r cf env h1 with
    | ok ys h2 => rw [er] at e; cases e; simp [q _ _ _ _ _ er]
    | exc _ _ => rw [er] at e; cases e
    | stuck => rw [er] at e; cases e
  | exc _ _ => rw [ea] at e; cases e
  | stuck => rw [ea] at e; cases e
theorem RRss.sls {Hb : Hp} {xs : List Sl} {vs : List V} (r : RRss g c ρ h H Hb xs vs) (n : Py.noF xs = true) : RSls g ρ h H xs vs := by
  induction r with
  | nil => exact .nil
  | cons _ r _ _ ih =>
    unfold Py.noF at n
    split at n
    · exact .cons (x := .d _) r (ih n)
    · exact .cons (x := .m _) r (ih n)
    · cases n
theorem EndC.ofR {r : Py.Res Sl} {Q : VK} (e : EndR g W ρ h σ H (fun x h' => ∀ ρ' v H', Post g ρ h H ρ' h' H' → RRs g Fx.none ρ' h' H H' x v → Q v H') r) : EndC g ρ h H Q (WE W σ) r := by
  cases r with
  | ok x h' => exact e
  | exc x h' => exact e
  | stuck => exact e
theorem RRs.noC {x : Sl} {v : V} (r : RRs g Fx.none ρ h H0 H x v) : RRs g c ρ h H0 H x v := by
  cases x with
  | clo f => exact r.elim
  | ex e => exact r.elim
  | d x => exact r
  | f x => exact r
  | m x => exact r
  | no => exact r
theorem callN_of {as : Py.An} {f n : Nat} {Q : VK} (hl : ArgLen as n) (t : tD g c W cf (Py.eCallN f as) σ H Q) : tCallSD (spEv g cf f n) [] (WE W) (tA g c W cf as) σ H Q := by
  obtain ⟨ρ, env, h, re, rs, e⟩ := t
  refine ⟨ρ, env, h, re, rs, e.bind.imp' fun xs h1 eq e ρ1 vs H1 p r => ?_⟩
  have e := e.later p
  split at e
  · rename_i nf
    refine ⟨by rw [List.append_nil, ← r.length]; exact hl _ _ _ _ _ eq, ρ1, h1, xs, p.st, by rw [List.append_nil]; exact r.sls nf, EndC.ofR (e.imp fun x h2 q ρ2 v H2 p2 r2 => q ρ2 v H2 (p.trans p2) (r2.since p.frm.there).noC)⟩
  · exact e.elim
/-- a new thing handed on as data -/
theorem ofS_of {d : Py.Dn} {Q : VK} (t : tD g c W cf (fun cf env h => (d cf env h).bind fun x h1 => .ok (Py.ofS x) h1) σ H Q) : tD g c W cf d σ H Q := by
  obtain ⟨ρ, env, h, re, rs, e⟩ := t
  refine ⟨ρ, env, h, re, rs, e.bind.imp fun x h1 e ρ1 v H1 p r => ?_⟩
  cases x with
  | f d =>
    obtain ⟨a, rfl, e2, e3, e4, e5⟩ := r
    exact e (ρ1.del a) _ H1 (p.drop (notP_of_none rs e2)) (drop_rd p.st e3 e4 e5)
  | d x => exact e ρ1 v H1 p r
  | m x => exact e ρ1 v H1 p r
  | no => exact e ρ1 v H1 p r
  | clo x => exact e ρ1 v H1 p r
  | ex x => exact e ρ1 v H1 p r
section
variable {X : Cx} {k : Nat} {fad : Addr} {fd : FuncData} {ps : List Str} {x : Str} {p pos : Pos} {e : Expr} {es : List Expr} {as : Py.An} {f n : Nat}
theorem so_callN (F : FnOk X.prog X.w X.K X.mg X.base (L2N.CX X.prog X.w) k fad fd ps (spEv (gx X g) cf f n)) (hr : Room k X.A) (hg : Gl X x) (hm : X.mg x = some (.ref fad)) (hk : PySem.W.keepIn X.K (.ref fad) = true) (hb : Binds X.K fd ps []) (tk : L2N.Takes X W) (hl : ArgLen as n)
    (ha : PA X (e :: es) (tA (gx X g) c W cf as)) (hdb : (x == ("__debug__" : Str)) = false := by decide) (he : starEach (e :: es) X.env = (false, eval e X.env) :: starEach es X.env := by rfl) (hpl : (backTo pos (starEach es X.env)).any (·.1) = false := by rfl) :
    PE X (.Call (.Name x p) (e :: es) [] pos) (tD (gx X g) c W cf (Py.eCallN f as)) :=
  (pe_callSD F hr hg hm hk hb .nil (L2N.passAt tk) ha hdb he hpl).imp fun _ _ _ => callN_of hl
theorem so_call (F : FnOk X.prog X.w X.K X.mg X.base (L2N.CX X.prog X.w) k fad fd ps (spEv (gx X g) cf f n)) (hr : Room k X.A) (hg : Gl X x) (hm : X.mg x = some (.ref fad)) (hk : PySem.W.keepIn X.K (.ref fad) = true) (hb : Binds X.K fd ps []) (tk : L2N.Takes X W) (hl : ArgLen as n)
    (ha : PA X (e :: es) (tA (gx X g) c W cf as)) (hdb : (x == ("__debug__" : Str)) = false := by decide) (he : starEach (e :: es) X.env = (false, eval e X.env) :: starEach es X.env := by rfl) (hpl : (backTo pos (starEach es X.env)).any (·.1) = false := by rfl) :
    PE X (.Call (.Name x p) (e :: es) [] pos) (tD (gx X g) c W cf (Py.eCall f as)) :=
  (so_callN F hr hg hm hk hb tk hl ha hdb he hpl).imp fun _ _ _ => ofS_of
end
/-! ### a def's body -/
theorem take_flat {α : Type} (l : List (List α)) (n : Nat) : (l.take n).flatten.Sublist l.flatten := by
  conv => rhs; rw [← List.take_append_drop n l, List.flatten_append]
  exact List.sublist_append_left _ _
def Rho.cut (ρ : Rho) (n : Nat) : Rho := ⟨ρ.c.take n, ρ.p⟩
theorem live_cut {n : Nat} {a : Addr} (z : live (ρ.cut n) (h.take n) a) : live ρ h a := by
  rcases z with ⟨i, as, o, e1, e2, e3, m⟩ | z
  · have e1 : (ρ.c.take n)[i]? = some as := e1
    rw [List.getElem?_take] at e1 e2
    split at e1
    · rw [if_pos (by assumption)] at e2
      exact .inl ⟨i, as, o, e1, e2, e3, m⟩
    · cases e1
  · exact .inr z
theorem Post.cut (p : Post g ρ h H ρ1 h1 H1) (rs : RSt g ρ h H) : Post g ρ h H (ρ1.cut h.length) (h1.take h.length) H1 := by
  have sub : ∀ a, live (ρ1.cut h.length) (h1.take h.length) a → live ρ1 h1 a := fun a => live_cut
  refine ⟨p.frm, ⟨?_, ?_, fun a q z => ?_, p.st.pk, fun i o as e1 e2 => ?_, p.st.tabs⟩, fun a z => p.sub a (sub a z), ?_, p.pp, fun i o e1 e2 => ?_⟩
  · show (ρ1.c.take h.length).length = _
    rw [List.length_take, List.length_take, p.st.len]
  · show (ρ1.c.take h.length).flatten.Nodup
    exact p.st.nd.sublist (take_flat _ _)
  · have z : a ∈ (ρ1.c.take h.length).flatten := z
    exact p.st.pn a q ((take_flat _ _).subset z)
  · have e2 : (ρ1.c.take h.length)[i]? = some as := e2
    rw [List.getElem?_take] at e1 e2
    split at e1
    · rw [if_pos (by assumption)] at e2
      exact (p.st.cell i o as e1 e2).keep (.refl _ _) p.st.noTup (fun a z => .inl (sub a z)) fun _ _ => rfl
    · cases e1
  · show ρ.c <+: ρ1.c.take h.length
    obtain ⟨t, q⟩ := p.pre
    rw [← q, ← rs.len, List.take_left]
    exact List.prefix_refl _
  · rw [List.getElem?_take, if_pos (List.getElem?_eq_some_iff.mp e1).1]
    exact p.sl i o e1 e2
theorem RSls.frame {xs : List Sl} {vs : List V} (r : RSls g ρ h H xs vs) (m : Nat) : REnv g Fx.none ρ h H (xs ++ Py.nos m) (vs.map some ++ List.replicate m none) := by
  have nl : ∀ m, (Py.nos m).length = m := fun m => by induction m with
    | zero => rfl
    | succ m ih => simp [Py.nos, ih]
  have ng : ∀ (m i : Nat) (x : Sl), (Py.nos m)[i]? = some x → x = .no := fun m => by induction m with
    | zero => intro i x e; simp [Py.nos] at e
    | succ m ih =>
      intro i x e
      cases i with
      | zero => simp [Py.nos] at e; exact e.symm
      | succ i => exact ih i x (by simpa [Py.nos] using e)
  induction r with
  | nil => exact ⟨by simp [nl], fun i x e => .inl (ng m i x (by simpa using e))⟩
  | cons r _ ih =>
    refine ⟨by simpa using ih.1, fun i x e => ?_⟩
    cases i with
    | zero => simp at e; subst e; exact .inr ⟨_, rfl, r⟩
    | succ i => exact ih.2 i x (by simpa using e)
theorem RSls.length {xs : List Sl} {vs : List V} (r : RSls g ρ h H xs vs) : xs.length = vs.length := by
  induction r with
  | nil => rfl
  | cons _ _ ih => simp [ih]
theorem body_of {fns : List Py.Fn} {f k : Nat} {fdn : Py.Fn} {ps N : List Str} {vs : List V} {Q : VK} {E : XK} (hf : Py.nth fns f = some fdn) (hp : fdn.params = ps.length) (hsl : fdn.slots = N.length) (sp : spEv g (Py.callF fns (k + 1)) f ps.length vs H Q E) :
    tS g Fx.none (fun cls d _ H => E cls d H) (Py.callF fns k) fdn.body { nx := fun _ H' => Q .non H', rt := Q } (L2.start N vs) H := by
  obtain ⟨hl, ρ, h, xs, rs, ra, e⟩ := sp
  simp only [Py.callF, hf] at e
  have hx : xs.length = ps.length := ra.length.trans hl
  rw [if_pos (by rw [hp, hx]; exact Nat.beq_refl _)] at e
  refine ⟨ρ, xs ++ Py.nos (fdn.slots - fdn.params), h, ?_, rs, ?_⟩
  · rw [hsl, hp]
    unfold L2.start
    rw [hl]
    exact ra.frame _
  · have sm : ∀ {ρ' h' H'} (d : D) (v : V), Post g ρ h H ρ' h' H' → RD g.K g.fa (live ρ' h') H' d v → RD g.K g.fa (live (ρ'.cut h.length) (h'.take h.length)) H' d v := fun d v p r => RD.keep (.refl _ _) p.st.noTup (fun a z => .inl (live_cut z)) r
    cases q : fdn.body (Py.callF fns k) (xs ++ Py.nos (fdn.slots - fdn.params)) h with
    | nx e1 h' => rw [q] at e; exact fun ρ' σ' H' p _ => e _ _ H' (p.cut rs) .non
    | ct e1 h' => rw [q] at e; exact e.elim
    | ret x h' =>
      rw [q] at e
      cases x with
      | d x => exact fun ρ' v H' p r => e _ v H' (p.cut rs) (sm x v p r)
      | f x =>
        intro ρ' v H' p r
        obtain ⟨a, rfl, e2, e3, e4, e5⟩ := r
        refine e _ _ H' (p.cut rs) ⟨a, rfl, e2, e3, ?_, e5⟩
        exact e4.keepAt (.refl _ _) p.st.noTup (fun a z => .inl (live_cut z)) rfl e5
      | _ => exact e.elim
    | exc x e1 h' => rw [q] at e; exact fun ρ' cls dd σ' H' p _ rx => e _ cls dd H' (p.cut rs) rx
    | stuck => rw [q] at e; exact e.elim
end
section
variable {P : Program} {w : World} {K : PySem.W.Frag} {mg : Str → Option Value} {base : Heap} {g : G}
/-- the context of a def's body -/
abbrev CxD (P : Program) (w : World) (K : PySem.W.Frag) (mg : Str → Option Value) (base : Heap) (N : List Str) (qual : Str) (st : Stmt) (fad : Addr) (cdv : Value) (A : Around) (outer : List Env) (s : Shared) (H : Hp) (E : XK) : Cx :=
  cxOf (L2N.CX P w) P w K mg base N qual (defScope st) fad cdv A outer s H E
theorem fn_ev {fns : List Py.Fn} {f k : Nat} {fdn : Py.Fn} {x qual : Str} {st : Stmt} {fad : Addr} {fd : FuncData} {N ps : List Str} (F : FunD K x qual (defArgs st) (defBody st) (defScope st) [] [] fad fd) (S : FnScope N ps (defScope st)) (hf : Py.nth fns f = some fdn) (hp : fdn.params = ps.length) (hsl : fdn.slots = N.length)
    (hbody : ∀ (cdv : Value) (A : Around) (outer : List Env) (s : Shared) (H : Hp) (E : XK), Room k (CxD P w K mg base N qual st fad cdv A outer s H E).A → PSs (CxD P w K mg base N qual st fad cdv A outer s H E) (defBody st) (tS g Fx.none (fun cls d _ H => E cls d H) (Py.callF fns k) fdn.body)) :
    FnOk P w K mg base (L2N.CX P w) (k + 1) fad fd ps (spEv g (Py.callF fns (k + 1)) f ps.length) :=
  F.ok S (fun vs H Q E h => h.1) fun cdv A outer s H vs Q E hr h => ⟨_, hbody cdv A outer s H E hr, body_of hf hp hsl h⟩
theorem fn_ev0 {fns : List Py.Fn} {f n : Nat} {fad : Addr} {fd : FuncData} {ps : List Str} (hl : ps.length = n) : FnOk P w K mg base (L2N.CX P w) 0 fad fd ps (spEv g (Py.callF fns 0) f n) :=
  ⟨fun vs H Q E h => h.1.trans hl.symm, fun A outer s H args us vs Q E _ _ _ _ h => by
    obtain ⟨_, ρ, h, xs, _, _, e⟩ := h
    exact e.elim⟩
end
end Sd

set_option autoImplicit false
set_option linter.all false
set_option maxRecDepth 100000
set_option maxHeartbeats 2000000
/-! SndP: calls by name and by a slot, raise, stores of several names, of items. -/
namespace Sd
open PySem L2 PySem.Spec PyProof.Rows
/-- the def of the number f keeps its promise -/
structure DefOk (P : Program) (w : World) (K : PySem.W.Frag) (mg : Str → Option Value) (base : Heap) (g : G) (cf : Py.CallF) (k f n : Nat) : Prop where
  ex : ∃ (fd : FuncData) (ps : List Str), FnOk P w K mg base (L2N.CX P w) k (g.fa f) fd ps (spEv g cf f n) ∧ PySem.W.keepIn K (.ref (g.fa f)) = true ∧ Binds K fd ps []
  ar : ∀ xs h, cf f xs h = .stuck ∨ xs.length = n
abbrev Fam (P : Program) (w : World) (K : PySem.W.Frag) (mg : Str → Option Value) (base : Heap) (g : G) (cf : Py.CallF) (k nf : Nat) : Prop := ∀ f, f < nf → ∃ n, DefOk P w K mg base g cf k f n
section
variable {X : Cx} {g : G} {c : Fx} {W : WX} {cf : Py.CallF} {k : Nat}
variable {ρ ρ0 ρ1 ρ2 : Rho} {h h0 h1 h2 : CH} {H H0 H1 H2 : Hp} {env : Py.Ev} {σ : L2.St}
variable {x : Str} {p pos : Pos} {e : Expr} {es : List Expr} {as : Py.An} {f n : Nat}
theorem callN_by {Q : VK} (ar : ∀ xs h, cf f xs h = .stuck ∨ xs.length = n) (t : tD g c W cf (Py.eCallN f as) σ H Q) : tCallSD (spEv g cf f n) [] (WE W) (tA g c W cf as) σ H Q := by
  obtain ⟨ρ, env, h, re, rs, e⟩ := t
  refine ⟨ρ, env, h, re, rs, e.bind.imp fun xs h1 e ρ1 vs H1 p r => ?_⟩
  have e := e.later p
  split at e
  · rename_i nf
    rcases ar xs h1 with z | z
    · rw [z] at e; exact e.elim
    · exact ⟨by rw [List.append_nil, ← r.length]; exact z, ρ1, h1, xs, p.st, by rw [List.append_nil]; exact r.sls nf, EndC.ofR (e.imp fun x h2 q ρ2 v H2 p2 r2 => q ρ2 v H2 (p.trans p2) (r2.since p.frm.there).noC)⟩
  · exact e.elim
theorem so_defN (F : DefOk X.prog X.w X.K X.mg X.base (gx X g) cf k f n) (hr : Room k X.A) (hg : Gl X x) (hm : X.mg x = some (.ref (g.fa f))) (tk : L2N.Takes X W)
    (ha : PA X (e :: es) (tA (gx X g) c W cf as)) (hdb : (x == ("__debug__" : Str)) = false := by decide) (he : starEach (e :: es) X.env = (false, eval e X.env) :: starEach es X.env := by rfl) (hpl : (backTo pos (starEach es X.env)).any (·.1) = false := by rfl) :
    PE X (.Call (.Name x p) (e :: es) [] pos) (tD (gx X g) c W cf (Py.eCallN f as)) := by
  obtain ⟨fd, ps, F1, hk, hb⟩ := F.ex
  exact (pe_callSD F1 hr hg hm hk hb .nil (L2N.passAt tk) ha hdb he hpl).imp fun _ _ _ => callN_by F.ar
theorem so_def (F : DefOk X.prog X.w X.K X.mg X.base (gx X g) cf k f n) (hr : Room k X.A) (hg : Gl X x) (hm : X.mg x = some (.ref (g.fa f))) (tk : L2N.Takes X W)
    (ha : PA X (e :: es) (tA (gx X g) c W cf as)) (hdb : (x == ("__debug__" : Str)) = false := by decide) (he : starEach (e :: es) X.env = (false, eval e X.env) :: starEach es X.env := by rfl) (hpl : (backTo pos (starEach es X.env)).any (·.1) = false := by rfl) :
    PE X (.Call (.Name x p) (e :: es) [] pos) (tD (gx X g) c W cf (Py.eCall f as)) := (so_defN F hr hg hm tk ha hdb he hpl).imp fun _ _ _ => ofS_of
theorem pe_call0SD {sp : Sp} {fad : Addr} {fd : FuncData} {ps : List Str} {E : L2.St → XK} (F : FnOk X.prog X.w X.K X.mg X.base (L2N.CX X.prog X.w) k fad fd ps sp) (hr : Room k X.A) (hg : Gl X x) (hm : X.mg x = some (.ref fad)) (hk : PySem.W.keepIn X.K (.ref fad) = true) (hb : Binds X.K fd ps []) (hx : ∀ σ, PassesAt (L2N.CX X.prog X.w) X σ (E σ))
    (hdb : (x == ("__debug__" : Str)) = false := by decide) : PE X (.Call (.Name x p) [] [] pos) (tCallSD sp [] E tNil) := by
  refine ⟨fun pins s σ H Q I h => ?_⟩
  refine wpAny_Call_Name_kw (ld_glob I hg hm ?_ hdb)
  exact PySem.W.callWith_K0 I.kIn hk (run_fnSD (us := []) F hr hb .nil (hx σ) I .nil h)
theorem tA_nil {Q : List V → Hp → Prop} (t : tA g c W cf Py.aNil σ H Q) : tNil σ H Q := by
  obtain ⟨ρ, env, h, re, rs, e⟩ := t
  exact e ρ [] H (.refl rs) .nil
theorem so_defN0 (F : DefOk X.prog X.w X.K X.mg X.base (gx X g) cf k f n) (hr : Room k X.A) (hg : Gl X x) (hm : X.mg x = some (.ref (g.fa f))) (tk : L2N.Takes X W) (hdb : (x == ("__debug__" : Str)) = false := by decide) :
    PE X (.Call (.Name x p) [] [] pos) (tD (gx X g) c W cf (Py.eCallN f Py.aNil)) := by
  obtain ⟨fd, ps, F1, hk, hb⟩ := F.ex
  exact (pe_call0SD F1 hr hg hm hk hb (L2N.passAt tk) hdb).imp fun σ H Q t => tA_nil (callN_by F.ar t)
theorem so_def0 (F : DefOk X.prog X.w X.K X.mg X.base (gx X g) cf k f n) (hr : Room k X.A) (hg : Gl X x) (hm : X.mg x = some (.ref (g.fa f))) (tk : L2N.Takes X W) (hdb : (x == ("__debug__" : Str)) = false := by decide) :
    PE X (.Call (.Name x p) [] [] pos) (tD (gx X g) c W cf (Py.eCall f Py.aNil)) := (so_defN0 F hr hg hm tk hdb).imp fun _ _ _ => ofS_of
/-- x(..), x a slot that holds a def -/
theorem so_callV {i nf : Nat} (A : Fam X.prog X.w X.K X.mg X.base (gx X g) cf k nf) (hr : Room k X.A) (hN : X.N[i]? = some x) (hv : Vis X.env.scope x) (tk : L2N.Takes X W) (ha : PA X (e :: es) (tA (gx X g) c W cf as))
    (hdb : (x == ("__debug__" : Str)) = false := by decide) (hcd : (x == ("__classdict__" : Str)) = false := by decide) (he : starEach (e :: es) X.env = (false, eval e X.env) :: starEach es X.env := by rfl) (hpl : (backTo pos (starEach es X.env)).any (·.1) = false := by rfl) :
    PE X (.Call (.Name x p) (e :: es) [] pos) (tD (gx X g) c W cf (Py.eCallV nf i as)) := by
  refine ⟨fun pins s σ H Q I t => ?_⟩
  obtain ⟨ρ, env, h, re, rs, en⟩ := t
  unfold Py.eCallV at en
  simp only [Py.nth_eq] at en
  cases q : env[i]? with
  | none => rw [q] at en; exact en.elim
  | some y =>
    rw [q] at en
    rcases re.2 i _ q with z | ⟨v, e2, r⟩
    · subst z; exact en.elim
    · cases y with
      | d y =>
        cases y with
        | fn f =>
          have ev : v = .ref (g.fa f) := by cases (show RD _ _ _ _ (.fn f) v from r); rfl
          subst ev
          simp only at en
          split at en
          · rename_i hlt
            obtain ⟨n, F⟩ := A f (Nat.blt_eq.mp hlt)
            obtain ⟨fd, ps, F1, hk, hb⟩ := F.ex
            have t : tD (gx X g) c W cf (Py.eCall f as) σ H Q := ⟨ρ, env, h, re, rs, en⟩
            have t := callN_by F.ar (ofS_of t)
            refine wpAny_Call_Name_kw (thn ((pe_var (pos := p) hN hv hdb hcd).run pins s σ H (fun v H1 => v = .ref (g.fa f) ∧ H1 = H) I ⟨_, e2, rfl, rfl⟩) fun u s1 ⟨v, H1, I1, r1, q1⟩ => ?_)
            obtain ⟨rfl, rfl⟩ := q1
            cases r1
            refine PySem.W.callWith_K (h₀ := X.base) I.ok.mod.kin hk (thn (ha.run pos pins s1 σ _ _ I1 t) fun us s2 ⟨vs, H2, I2, r, q⟩ => ⟨I2.kIn, ?_⟩) he hpl
            exact run_fnSD F1 hr hb .nil (L2N.passAt tk σ) I2 r q
          · exact en.elim
        | _ => exact en.elim
      | _ => exact en.elim
/-! raise -/
theorem ss_raise {m : Str} {j cn : Nat} {p2 pos' : Pos} (hc : X.calm = true) (tk : L2N.Takes X W) (q : PySem.W.excIn X.K (g.ca cn) He.veBase "ValueError.__new__" = true) (gC : X.mg x = some (.ref (g.ca cn))) (kC : PySem.W.keepIn X.K (.ref (g.ca cn)) = true)
    (r1 : PySem.W.subIn X.K (.ref (g.ca cn)) (.type "BaseException") = some true) (r2 : PySem.W.typeIn X.K (.ref (g.ca cn)) = some (.type "type")) (hg : Gl X x) (hdb : (x == ("__debug__" : Str)) = false := by decide) :
    PS X (.Raise (some (.Call (.Name x p) [.Constant (.str m) j p2] [] pos')) none pos) (tS g c W cf (Py.sRaise cn)) :=
  (L2N.ps_raise hc tk (L2N.pmk_own PySem.F.excBase_ValueError q gC kC (raises_own r1 r2) hg hdb)).imp fun D σ H ⟨ρ, env, h, re, rs, e⟩ => e ρ _ none σ H (.refl rs) re ⟨rfl, rfl⟩
end
end Sd

set_option autoImplicit false
set_option linter.all false
set_option maxRecDepth 100000
set_option maxHeartbeats 2000000
/-! SndR: zip and enumerate of lists and tuples in any mixture, also while an exception is handled. -/
namespace Sd
open PySem L2 PySem.Spec PyProof.Rows
/-- a tuple (true) or a list (false) -/
def SqK (k : Bool) (K : PySem.W.Frag) (H : Hp) (a : Addr) (xs : List V) : Prop := match k with
  | true => SqT K H a xs
  | false => SqL K H a xs
def IsK (k : Bool) (h : Heap) (a : Addr) (its : Array Value) : Prop := match k with
  | true => h.IsTuple a its
  | false => h.IsList a its
def ItK (k : Bool) (h : Heap) (it a : Addr) (i : Nat) : Prop := match k with
  | true => h.IsTupleIter it a i
  | false => h.IsListIter it a i
def obK (k : Bool) (a : Addr) : Obj := match k with
  | true => { cls := .type "tuple_iterator", data := .fields #[.ref a, .int 0 0] }
  | false => { cls := .type "list_iterator", data := .fields #[.ref a, .int 0 0] }
theorem beginsK (k : Bool) (a : Addr) (its : Array Value) : Begins (.ref a) (obK k a) fun h => IsK k h a its := match k with
  | true => begins_tuple a its
  | false => begins_list a its
theorem startK {k : Bool} {h : Heap} {it a : Addr} (e : h.get? it = some (obK k a)) : ItK k h it a 0 := match k with
  | true => ⟨_, e, rfl, rfl⟩
  | false => ⟨_, e, rfl, rfl⟩
theorem ItK.keep {k : Bool} {h h' : Heap} {it a : Addr} {i : Nat} (x : ItK k h it a i) (q : ∀ o, h.get? it = some o → h'.get? it = some o) : ItK k h' it a i := match k, x with
  | true, x => Heap.IsTupleIter.at x q
  | false, x => Heap.IsListIter.at x q
theorem IsK.keep {k : Bool} {h h' : Heap} {a : Addr} {its : Array Value} (x : IsK k h a its) (q : ∀ o, h.get? a = some o → h'.get? a = some o) : IsK k h' a its := match k, x with
  | true, x => Heap.IsTuple.at x q
  | false, x => Heap.IsList.at x q
theorem ItK.obj {k : Bool} {h : Heap} {it a : Addr} {i : Nat} (x : ItK k h it a i) : ∃ o, h.get? it = some o ∧ ∀ v, o.data ≠ .cell v := match k, x with
  | true, ⟨o, e, _, d⟩ => ⟨o, e, fun v z => by rw [d] at z; cases z⟩
  | false, ⟨o, e, _, d⟩ => ⟨o, e, fun v z => by rw [d] at z; cases z⟩
theorem seqK {X : Cx} {pins : List (Addr × Obj)} {σ : L2.St} {H : Hp} {s : Shared} {k : Bool} {a : Addr} {xs : List V} (I : Inv X pins σ H s) (h : SqK k X.K H a xs) : ∃ its : List Value, Vals xs its ∧ IsK k s.heap a its.toArray ∧ xs.length ≤ sizeLine := by
  cases k with
  | true => obtain ⟨its, r, t, z⟩ := I.tuple h; exact ⟨its, r, t, z⟩
  | false => obtain ⟨its, r, t, z⟩ := I.list h; exact ⟨its, r, t.isList, z⟩
theorem IsK.lt {k : Bool} {h : Heap} {a : Addr} {its : Array Value} (x : IsK k h a its) : a < h.objs.size := match k, x with
  | true, ⟨o, e, _⟩ => Heap.lt_size e
  | false, ⟨o, e, _⟩ => Heap.lt_size e
/-- what an iterator draws; SE: a thing more that stands -/
abbrev DrK (P : Program) (w : World) (A : Around) (fe : List Addr) (SE : Heap → Prop) (k : Bool) (it a : Addr) (its : Array Value) : Prop :=
  Draws P w A it (it :: a :: fe) its.size (fun i v => its[i]? = some v) (fun i h => (ItK k h it a i ∧ IsK k h a its) ∧ SE h)
theorem drK_calm {P : Program} {w : World} {A : Around} (hh : A.handled = none) (k : Bool) (it a : Addr) (its : Array Value) (hne : a ≠ it) : DrK P w A [] (fun _ => True) k it a its := by
  have go : ∀ {St : Nat → Heap → Prop}, Draws P w A it [it, a] its.size (fun i v => its[i]? = some v) St → Draws P w A it [it, a] its.size (fun i v => its[i]? = some v) (fun i h => St i h ∧ True) := fun D =>
    ⟨fun i h x => D.live i h x.1, fun i h h' x q => ⟨D.frame i h h' x.1 q, trivial⟩, fun i s Q E hi x q => D.item i s Q E hi x.1 fun v h' tk p st sb => q v h' tk p ⟨st, trivial⟩ sb, fun s Q E x q => D.done s Q E x.1 q⟩
  cases k with
  | true => exact go (Draws.tuple hh it a hne its)
  | false => exact go (Draws.list hh it a hne its)
/-- two things walked side by side -/
def ItzK (K : PySem.W.Frag) (k1 k2 : Bool) (a1 a2 : Addr) : It :=
  ⟨fun i H => ∃ (xs ys : List V) (x y : V), SqK k1 K H a1 xs ∧ SqK k2 K H a2 ys ∧ xs[i]? = some x ∧ ys[i]? = some y,
   fun i H v H' => ∃ T x y, v = .ref T ∧ H T = none ∧ H' = upd H T (.tup [x, y]) ∧ (∀ xs, SqK k1 K H a1 xs → xs[i]? = some x) ∧ ∀ ys, SqK k2 K H a2 ys → ys[i]? = some y,
   fun i H => ∃ xs ys : List V, SqK k1 K H a1 xs ∧ SqK k2 K H a2 ys ∧ i = min xs.length ys.length⟩
/-- the cells of a zip at N and on -/
def zSt (N : Addr) (k1 k2 : Bool) (a1 a2 : Addr) (i : Nat) (h : Heap) : Prop :=
  IsZip h (N + 4) (N + 2) (N + 3) .none ∧ IsTupOf2 h (N + 2) (.ref N) (.ref (N + 1)) ∧ (∃ u v, IsTupOf2 h (N + 3) u v) ∧ ItK k1 h N a1 i ∧ ItK k2 h (N + 1) a2 i
abbrev zFp (N : Addr) : List Addr := [N + 4, N + 2, N + 3, N, N + 1]
theorem sub4 {N b : Addr} (hb : b ∈ [N + 4, N + 3, N, N + 1]) : b ∈ zFp N := by
  simp only [zFp, List.mem_cons, List.not_mem_nil, or_false] at hb ⊢
  rcases hb with h | h | h | h
  · exact .inl h
  · exact .inr (.inr (.inl h))
  · exact .inr (.inr (.inr (.inl h)))
  · exact .inr (.inr (.inr (.inr h)))
theorem zSt.keep {N : Addr} {k1 k2 : Bool} {a1 a2 : Addr} {i : Nat} {h h' : Heap} (x : zSt N k1 k2 a1 a2 i h) (q : ∀ b ∈ zFp N, ∀ o, h.get? b = some o → h'.get? b = some o) : zSt N k1 k2 a1 a2 i h' := by
  obtain ⟨z, t, ⟨u, v, o⟩, i1, i2⟩ := x
  exact ⟨q _ (by simp) _ z, q _ (by simp) _ t, ⟨u, v, q _ (by simp) _ o⟩, i1.keep (q _ (by simp)), i2.keep (q _ (by simp))⟩
theorem zSt.obj {N : Addr} {k1 k2 : Bool} {a1 a2 : Addr} {i : Nat} {h : Heap} (x : zSt N k1 k2 a1 a2 i h) : ∀ b ∈ zFp N, ∃ o, h.get? b = some o ∧ ∀ v, o.data ≠ .cell v := fun b hb => by
  obtain ⟨z, t, ⟨u, v, o⟩, i1, i2⟩ := x
  simp only [zFp, List.mem_cons, List.not_mem_nil, or_false] at hb
  rcases hb with rfl | rfl | rfl | rfl | rfl
  · exact ⟨_, z, fun v q => nomatch q⟩
  · exact ⟨_, t, fun v q => nomatch q⟩
  · exact ⟨_, o, fun v q => nomatch q⟩
  · exact i1.obj
  · exact i2.obj
theorem not_zFp {N b : Nat} (h : b < N) : (b : Addr) ∉ zFp N := fun z => by
  simp only [zFp, List.mem_cons, List.not_mem_nil, or_false] at z
  rcases z with z | z | z | z | z
  · have z : (b : Nat) = N + 4 := z; omega
  · have z : (b : Nat) = N + 2 := z; omega
  · have z : (b : Nat) = N + 3 := z; omega
  · have z : (b : Nat) = N := z; omega
  · have z : (b : Nat) = N + 1 := z; omega
theorem sepK {N : Nat} {fp1 fp2 : List Addr} (h1 : ∀ b ∈ fp1, b ∉ zFp N) (h2 : ∀ b ∈ fp2, b ∉ zFp N) : ZipSep2 (N + 4) (N + 2) (N + 3) N (N + 1) (N :: fp1) ((N + 1) :: fp2) := by
  have q : ∀ {fp : List Addr} {b i : Nat}, (∀ b ∈ fp, b ∉ zFp N) → b ∈ zFp N → b ≠ i → b ∉ ((i : Addr) :: fp) := fun {fp b i} h hb hn z => by
    rcases List.mem_cons.mp z with z | z
    · exact hn z
    · exact h b z hb
  have m1 : (N : Addr) ∈ zFp N := by simp
  have m2 : (N + 1 : Addr) ∈ zFp N := by simp
  have m3 : (N + 3 : Addr) ∈ zFp N := by simp
  have m4 : (N + 4 : Addr) ∈ zFp N := by simp
  have n1 : (N + 2 : Nat) ≠ N + 4 := by omega
  have n2 : (N + 3 : Nat) ≠ N + 4 := by omega
  have n3 : (N + 2 : Nat) ≠ N + 3 := by omega
  have n4 : (N + 2 : Nat) ≠ N := by omega
  have n5 : (N + 2 : Nat) ≠ N + 1 := by omega
  have n6 : (N + 4 : Nat) ≠ N := by omega
  have n7 : (N + 3 : Nat) ≠ N := by omega
  have n8 : (N + 4 : Nat) ≠ N + 1 := by omega
  have n9 : (N + 3 : Nat) ≠ N + 1 := by omega
  have n10 : (N : Nat) ≠ N + 1 := by omega
  have n11 : (N + 1 : Nat) ≠ N := by omega
  exact ⟨n1, n2, n3, n4, List.mem_cons_self .., q h1 m4 n6, q h1 m3 n7, n5, List.mem_cons_self .., q h2 m4 n8, q h2 m3 n9, q h2 m1 n10, q h1 m2 n11⟩
section
variable {X : Cx} {pins : List (Addr × Obj)} {σ : L2.St} {H : Hp} {s : Shared} {E : Value → Shared → Prop} {N a1 a2 : Addr} {k1 k2 : Bool} {fe : List Addr} {SE : Heap → Prop} {i : Nat} {elts : List Expr} {kk : Nat} {tpos : Pos}
theorem zip_item (D : ∀ k it a its, a ≠ it → it ∈ zFp N → DrK X.prog X.w X.A.in1 fe SE k it a its) (I : Inv X pins σ H s) (hf : ∀ b ∈ zFp N, FpOk X pins H b) (lfe : ∀ b ∈ fe, b ∉ zFp N) (l1 : a1 < N) (l2 : a2 < N) (st : zSt N k1 k2 a1 a2 i s.heap) (se : SE s.heap) (go : (ItzK X.K k1 k2 a1 a2).go i H) :
    wpAny (model X.prog X.w) X.A (pyNext (.ref (N + 4))) (fun r s1 => ∃ u, r = some u ∧ wpAny (model X.prog X.w) X.A (letOwnedTupleGo (.Tuple elts kk tpos) (.ref (N + 4)) u) (fun _ s2 => ∃ x H', Inv X pins σ H' s2 ∧ RelV x u ∧ (ItzK X.K k1 k2 a1 a2).yld i H x H' ∧ zSt N k1 k2 a1 a2 (i + 1) s2.heap ∧ ∀ b ∈ zFp N, H' b = none) E s1) E s := by
  obtain ⟨xs, ys, x, y, q1, q2, e1, e2⟩ := go
  obtain ⟨its1, r1, t1, _⟩ := seqK I q1
  obtain ⟨its2, r2, t2, _⟩ := seqK I q2
  obtain ⟨z, t, o, i1, i2⟩ := st
  have sep := sepK (N := N) (fp1 := a1 :: fe) (fp2 := a2 :: fe) (fun b hb => by rcases List.mem_cons.mp hb with e | e; rw [e]; exact not_zFp l1; exact lfe b e) (fun b hb => by rcases List.mem_cons.mp hb with e | e; rw [e]; exact not_zFp l2; exact lfe b e)
  have W := WalksT.zipD2 (prog := X.prog) (w := X.w) (A := X.A) sep (D k1 N a1 its1.toArray (Nat.ne_of_lt l1) (by simp)) (D k2 (N + 1) a2 its2.toArray (Nat.ne_of_lt (Nat.lt_succ_of_lt l2)) (by simp))
  have n1 : i < xs.length := (List.getElem?_eq_some_iff.mp e1).1
  have n2 : i < ys.length := (List.getElem?_eq_some_iff.mp e2).1
  have m1 := r1.length
  have m2 := r2.length
  obtain ⟨u1, g1, ru1⟩ := r1.get e1
  obtain ⟨u2, g2, ru2⟩ := r2.get e2
  refine W.item i s _ E (by simp; omega) ⟨z, t, o, ⟨⟨i1, t1⟩, se⟩, ⟨i2, t2⟩, se⟩ fun T vals h' tk pv lT isT mid kp => ?_
  refine ⟨.ref T, rfl, W.go elts kk tpos i T { s with heap := h', toks := tk } _ E mid fun h2 st2 kp2 => ?_⟩
  obtain ⟨x1, x2, p1, p2, rfl⟩ := pv
  have p1 : its1[i]? = some x1 := by simpa using p1
  have p2 : its2[i]? = some x2 := by simpa using p2
  rw [g1] at p1; cases p1
  rw [g2] at p2; cases p2
  have hT : T ∉ [N + 4, N + 3, N, N + 1] := W.apart i T h' mid
  have isT2 : h2.IsTuple T #[u1, u2] := isT.at fun o e => kp2 T o hT e
  have hn : H T = none := I.hok.fresh lT
  have new : ObjOk X.prog X.w (upd H T (.tup [x, y])) h2 T (.tup [x, y]) := by
    obtain ⟨ob, g, c, n, d⟩ := isT2
    exact ⟨by show 2 ≤ sizeLine; decide, [u1, u2], .cons ru1 (.cons ru2 .nil), ⟨ob, g, c, n, d⟩⟩
  have J : Inv X pins σ (upd H T (.tup [x, y])) { s with heap := h2, toks := tk } := I.turnedNew (ch := [N + 4, N + 3, N, N + 1]) (fun b ob hb e => kp2 b ob hb (kp b ob hb e)) (fun b hb => hf b (sub4 hb)) lT new
  obtain ⟨z2, t2', o2, ⟨⟨j1, _⟩, _⟩, ⟨j2, _⟩, _⟩ := st2
  refine ⟨.ref T, _, J, rfl, ⟨T, x, y, rfl, hn, rfl, fun xs' h' => ?_, fun ys' h' => ?_⟩, ⟨z2, t2', o2, j1, j2⟩, fun b hb => ?_⟩
  · have : xs' = xs := by
      cases k1 with
      | true => exact I.tuple_inj h' q1
      | false => exact I.list_inj h' q1
    rw [this]; exact e1
  · have : ys' = ys := by
      cases k2 with
      | true => exact I.tuple_inj h' q2
      | false => exact I.list_inj h' q2
    rw [this]; exact e2
  · obtain ⟨ob, g, _⟩ := zSt.obj ⟨z, t, o, i1, i2⟩ b hb
    rw [upd_ne (Nat.ne_of_lt (Nat.lt_of_lt_of_le (Heap.lt_size g) lT))]
    exact (hf b hb).1
theorem zip_done (D : ∀ k it a its, a ≠ it → it ∈ zFp N → DrK X.prog X.w X.A.in1 fe SE k it a its) (I : Inv X pins σ H s) (hf : ∀ b ∈ zFp N, FpOk X pins H b) (lfe : ∀ b ∈ fe, b ∉ zFp N) (l1 : a1 < N) (l2 : a2 < N) (st : zSt N k1 k2 a1 a2 i s.heap) (se : SE s.heap) (stop : (ItzK X.K k1 k2 a1 a2).stop i H) :
    wpAny (model X.prog X.w) X.A (pyNext (.ref (N + 4))) (fun r s1 => r = none ∧ Inv X pins σ H s1) E s := by
  obtain ⟨xs, ys, q1, q2, rfl⟩ := stop
  obtain ⟨its1, r1, t1, _⟩ := seqK I q1
  obtain ⟨its2, r2, t2, _⟩ := seqK I q2
  obtain ⟨z, t, o, i1, i2⟩ := st
  have sep := sepK (N := N) (fp1 := a1 :: fe) (fp2 := a2 :: fe) (fun b hb => by rcases List.mem_cons.mp hb with e | e; rw [e]; exact not_zFp l1; exact lfe b e) (fun b hb => by rcases List.mem_cons.mp hb with e | e; rw [e]; exact not_zFp l2; exact lfe b e)
  have W := WalksT.zipD2 (prog := X.prog) (w := X.w) (A := X.A) sep (D k1 N a1 its1.toArray (Nat.ne_of_lt l1) (by simp)) (D k2 (N + 1) a2 its2.toArray (Nat.ne_of_lt (Nat.lt_succ_of_lt l2)) (by simp))
  have m1 := r1.length
  have m2 := r2.length
  have hn : min xs.length ys.length = min its1.toArray.size its2.toArray.size := by rw [m1, m2]; simp
  rw [hn] at i1 i2
  exact W.done s _ E ⟨z, t, o, ⟨⟨i1, t1⟩, se⟩, ⟨i2, t2⟩, se⟩ fun h' tk kp => ⟨rfl, I.turnedL (ch := [N + 4, N + 3, N, N + 1]) kp fun b hb => hf b (sub4 hb)⟩
end
theorem turn_zipK {P : Program} {w : World} {K : PySem.W.Frag} {elts : List Expr} {kk : Nat} {tpos : Pos} {N a1 a2 : Addr} {k1 k2 : Bool} (l1 : a1 < N) (l2 : a2 < N) :
    Turn P w K (.Tuple elts kk tpos) (ItzK K k1 k2 a1 a2) (zFp N) (N + 4) (fun i h => zSt N k1 k2 a1 a2 i h) where
  mem := by simp
  obj := fun i h st => st.obj
  keep := fun i h h' st q => st.keep q
  item := fun X hP hw hK hc i pins s σ H E I hf st go => by
    subst hP hw hK
    exact zip_item (fe := []) (SE := fun _ => True) (fun k it a its hne _ => drK_calm (show X.A.in1.handled = none from I.ok.hd hc) k it a its hne) I hf (fun b hb => nomatch hb) l1 l2 st trivial go
  done := fun X hP hw hK hc i pins s σ H E I hf st stop => by
    subst hP hw hK
    exact zip_done (fe := []) (SE := fun _ => True) (fun k it a its hne _ => drK_calm (show X.A.in1.handled = none from I.ok.hd hc) k it a its hne) I hf (fun b hb => nomatch hb) l1 l2 st trivial stop
  self := fun A i s Q E st q => wpAny_pyIter_zip st.1 q
/-- zip(x, y), each a list or a tuple -/
def iZipK (K : PySem.W.Frag) (ta : TA) : TI := fun σ H R => ta σ H fun vs H1 => ∃ k1 k2 a b xs ys, vs = [.ref a, .ref b] ∧ SqK k1 K H1 a xs ∧ SqK k2 K H1 b ys ∧ R (ItzK K k1 k2 a b) H1
section
variable {X : Cx} {e e2 : Expr} {ta : TA} {p pos tpos : Pos} {elts : List Expr} {kk : Nat}
theorem zip_start {pins : List (Addr × Obj)} {σ : L2.St} {H1 : Hp} {s1 : Shared} {k1 k2 : Bool} {a b : Addr} {xs ys : List V} {Q : Value → Shared → Prop} (I1 : Inv X pins σ H1 s1) (q1 : SqK k1 X.K H1 a xs) (q2 : SqK k2 X.K H1 b ys)
    (h : ∀ N h', a < N → b < N → (∀ c ∈ zFp N, FpOk X pins H1 c) → zSt N k1 k2 a b 0 h' → Inv X pins σ H1 { s1 with heap := h' } → (∀ c o, s1.heap.get? c = some o → c < N ∧ h'.get? c = some o) → Q (.ref (N + 4)) { s1 with heap := h' }) :
    wpAny (model X.prog X.w) X.A (call (.type "zip") [.ref a, .ref b]) Q X.xe s1 := by
  obtain ⟨its1, r1, t1, _⟩ := seqK I1 q1
  obtain ⟨its2, r2, t2, _⟩ := seqK I1 q2
  have fresh5 : ∀ c ∈ zFp s1.heap.objs.size, FpOk X pins H1 c := fun c hc => by
    have hle : s1.heap.objs.size ≤ c := by
      simp only [zFp, List.mem_cons, List.not_mem_nil, or_false] at hc
      rcases hc with e | e | e | e | e <;> rw [e]
      · exact Nat.le_add_right _ _
      · exact Nat.le_add_right _ _
      · exact Nat.le_add_right _ _
      · exact Nat.le_refl _
      · exact Nat.le_add_right _ _
    exact I1.fpOk hle (I1.hok.fresh hle)
  refine zip_begins2 (beginsK k1 a its1.toArray) (beginsK k2 b its2.toArray) t1 t2 fun h' hz hTI hTO g1 g2 hsz hk => ?_
  exact h _ h' t1.lt t2.lt fresh5 ⟨hz, hTI, ⟨_, _, hTO⟩, startK g1, startK g2⟩ (I1.kept (t' := s1.toks) hk) fun c o q => ⟨Heap.lt_size q, hk c o q⟩
theorem pi_zipK (hg : Gl X "zip") (hm : X.mg "zip" = none) (ha : PA X [e, e2] ta) (hs : starEach [e, e2] X.env = (false, eval e X.env) :: starEach [e2] X.env := by rfl) (hpl : (backTo pos (starEach [e2] X.env)).any (·.1) = false := by rfl) :
    PI X (.Tuple elts kk tpos) (.Call (.Name "zip" p) [e, e2] [] pos) (iZipK X.K ta) := by
  refine ⟨fun pins s σ H R I h => ?_⟩
  refine Call_ (ld_blt I hg hm PyProof.Rows.boot_zip (PyProof.Rows.callWith_type1 (thn (ha.run pos pins s σ H _ I h) fun us s1 ⟨vs, H1, I1, r1, q1⟩ => ?_) hs hpl))
  obtain ⟨k1, k2, a, b, xs, ys, rfl, hx, hy, q⟩ := q1
  obtain ⟨u1, u2, rfl, ru1, ru2⟩ := Vals.two r1
  cases ru1
  cases ru2
  exact zip_start I1 hx hy fun N h' l1 l2 fr st J _ => wpAny_pyIter_zip st.1 ⟨N + 4, zFp N, _, _, H1, rfl, J, turn_zipK l1 l2, st, fr, q⟩
end
/-! ### over data -/
/-- as long as the cells are kept the thing at a stays so -/
def Stay (g : G) (ρ : Rho) (h : CH) (H : Hp) (k : Bool) (a : Addr) (ds : List D) : Prop := ∀ ρ2 h2 H2, Post g ρ h H ρ2 h2 H2 → ∃ vs, SqK k g.K H2 a vs ∧ RDs g.K g.fa (live ρ2 h2) H2 ds vs
section
variable {X : Cx} {g : G} {c : Fx} {W : WX} {cf : Py.CallF}
variable {ρ ρ0 ρ1 ρ2 : Rho} {h h0 h1 h2 : CH} {H H0 H1 H2 : Hp} {env : Py.Ev} {σ : L2.St}
theorem walkZK {k1 k2 : Bool} {ds es : List D} {a b : Addr} {l : Option Nat} (hv : Stay g ρ h H k1 a ds) (hw : Stay g ρ h H k2 b es) (hl : Lck l h0 h) : WalkD g (Py.zipD ds es) l h0 ρ h H (ItzK g.K k1 k2 a b) where
  goes i ρ2 h2 H2 hi p := by
    rw [zipD_len] at hi
    obtain ⟨vs, e, r⟩ := hv ρ2 h2 H2 p
    obtain ⟨ws, e', r'⟩ := hw ρ2 h2 H2 p
    exact ⟨vs, ws, vs[i]'(by rw [← r.length]; omega), ws[i]'(by rw [← r'.length]; omega), e, e', by simp, by simp⟩
  stops ρ2 h2 H2 p := by
    obtain ⟨vs, e, r⟩ := hv ρ2 h2 H2 p
    obtain ⟨ws, e', r'⟩ := hw ρ2 h2 H2 p
    refine ⟨vs, ws, e, e', ?_⟩
    rw [zipD_len, ← r.length, ← r'.length]
  yields i ρ2 h2 H2 v H3 p y d hd := by
    obtain ⟨vs, e, r⟩ := hv ρ2 h2 H2 p
    obtain ⟨ws, e', r'⟩ := hw ρ2 h2 H2 p
    obtain ⟨T, x, y', rfl, hT, rfl, hx, hy⟩ := y
    obtain ⟨d1, d2, e1, e2, rfl⟩ := zipD_get _ _ _ _ hd
    obtain ⟨v1, f1, r1⟩ := r.get e1
    obtain ⟨v2, f2, r2⟩ := r'.get e2
    have q1 := hx vs e
    have q2 := hy ws e'
    rw [f1] at q1; cases q1
    rw [f2] at q2; cases q2
    exact pair_rd p.st.noTup hT r1 r2
  lck := hl
theorem stay_src {x : Sl} {v : V} {xs : List D} {l : Option Nat} (rs : RSt g ρ h H) (r : RRs g c ρ h H0 H x v) (e : Py.src x h = some (xs, l)) :
    ∃ k a, v = .ref a ∧ match l with
      | none => Stay g ρ h H k a xs
      | some i => h[i]? = some (.ml xs) ∧ Stay g ρ (h.set i (.lk xs)) H k a xs := by
  cases x with
  | d x =>
    cases x with
    | lst ds =>
      simp only [Py.src, Py.seqOf, Option.some.injEq, Prod.mk.injEq] at e
      obtain ⟨rfl, rfl⟩ := e
      obtain ⟨a, rfl, hv⟩ := stayL rs r
      exact ⟨false, a, rfl, fun ρ2 h2 H2 p => let ⟨vs, q, z⟩ := hv ρ2 h2 H2 p; ⟨vs, SqL.of q, z⟩⟩
    | tup ds =>
      simp only [Py.src, Py.seqOf, Option.some.injEq, Prod.mk.injEq] at e
      obtain ⟨rfl, rfl⟩ := e
      obtain ⟨a, rfl, hv⟩ := stayT rs r
      exact ⟨true, a, rfl, hv⟩
    | _ => simp [Py.src, Py.seqOf] at e
  | m i =>
    obtain ⟨a, as, e1, rfl⟩ := r
    simp only [Py.src, Py.nth_eq] at e
    cases q : h[i]? with
    | none => rw [q] at e; cases e
    | some o =>
      rw [q] at e
      have hi : i < h.length := (List.getElem?_eq_some_iff.mp q).1
      cases o with
      | ml ys =>
        simp only [Option.some.injEq, Prod.mk.injEq] at e
        obtain ⟨rfl, rfl⟩ := e
        refine ⟨false, a, rfl, q, fun ρ2 h2 H2 p => ?_⟩
        obtain ⟨vs, q1, z⟩ := stayC (g := g) (H := H) (List.getElem?_set_self hi) e1 ρ2 h2 H2 p
        exact ⟨vs, SqL.of q1, z⟩
      | lk ys =>
        simp only [Option.some.injEq, Prod.mk.injEq] at e
        obtain ⟨rfl, rfl⟩ := e
        refine ⟨false, a, rfl, fun ρ2 h2 H2 p => ?_⟩
        obtain ⟨vs, q1, z⟩ := stayC (g := g) (H := H) q e1 ρ2 h2 H2 p
        exact ⟨vs, SqL.of q1, z⟩
      | _ => simp at e
  | _ => simp [Py.src] at e
/-- what stays stays behind a step -/
theorem Stay.later {k : Bool} {a : Addr} {ds : List D} (s : Stay g ρ h H k a ds) (p : Post g ρ h H ρ1 h1 H1) : Stay g ρ1 h1 H1 k a ds := fun ρ2 h2 H2 q => s ρ2 h2 H2 (p.trans q)
end
end Sd

set_option autoImplicit false
set_option linter.all false
set_option maxRecDepth 100000
set_option maxHeartbeats 2000000
/-! SndR2: enumerate; the rules of zip and enumerate. -/
namespace Sd
open PySem L2 PySem.Spec PyProof.Rows
theorem meets_enum1 {v : Value} {o : Obj} {Hc : Heap → Prop} (B : Begins v o Hc) :
    Meets (Builtin.«enumerate.__new__» ⟨[.type "enumerate", v], []⟩) (fun _ R s => Hc s.heap ∧
      R (.ok (.ret (.ref (s.heap.push o).objs.size))) { s with heap := (s.heap.push o).push { cls := .type "enumerate", data := .fields #[.none, .bool false, .ref s.heap.objs.size, rawInt 0, .none, .none] } }) :=
  .of_wp fun prog w A R s hr => by
    obtain ⟨hp, gs, dr, tk, os⟩ := s
    obtain ⟨hc, hr⟩ := hr
    have hsub := sub_enumerate
    have begun : ∀ {A2 : Around} {E : Value → Shared → Prop} {Q : Value → Shared → Prop}, Q (.ref hp.objs.size) ⟨hp.push o, gs, dr, tk, os⟩ → wpAny (model prog w) A2 (pyIter v) Q E ⟨hp, gs, dr, tk, os⟩ := fun q => B.iter prog w _ _ _ _ hc q
    wp_walk using begun
    refine wpAny_stack_any fun st => wpAny_pure ?_
    split
    · rename_i cl _ _ _ _ _
      cases (cl == Value.type "enumerate")
      · wp_walk using begun
        exact ⟨_, rfl, hr⟩
      · wp_walk using begun
        exact ⟨_, rfl, hr⟩
    · wp_walk using begun
      exact ⟨_, rfl, hr⟩
theorem call_enum1 {prog : Program} {w : World} {A : Around} {E : Value → Shared → Prop} {s : Shared} {v : Value} {o : Obj} {Hc : Heap → Prop} {Q : Value → Shared → Prop} (B : Begins v o Hc) (hc : Hc s.heap)
    (q : ∀ h', IsEnum h' (s.heap.objs.size + 1) s.heap.objs.size 0 .none → h'.get? s.heap.objs.size = some o → (∀ b ob, s.heap.get? b = some ob → h'.get? b = some ob) → Q (.ref (s.heap.objs.size + 1)) { s with heap := h' }) :
    wpAny (model prog w) A (call (.type "enumerate") [v]) Q E s := by
  refine callType_new F.called_enumerate (by decide) (F.typeCall_enumerate_1 _) (F.newCall_enumerate_1 _) (fun obj => F.args_object_init_2 obj _) F.entry_enumerate_new (meets_enum1 B) ⟨hc, ?_⟩
  have hz : (s.heap.push o).objs.size = s.heap.objs.size + 1 := Heap.size_push ..
  show _ ∧ _
  rw [hz]
  have he := Heap.get?_push_size (s.heap.push o) (o := { cls := .type "enumerate", data := .fields #[.none, .bool false, .ref s.heap.objs.size, rawInt 0, .none, .none] }) rfl
  rw [hz] at he
  have ho : ((s.heap.push o).push { cls := .type "enumerate", data := .fields #[.none, .bool false, .ref s.heap.objs.size, rawInt 0, .none, .none] }).get? s.heap.objs.size = some o := Heap.get?_push_of_some _ (Heap.get?_push_size _ B.free)
  exact ⟨⟨_, he, rfl⟩, q _ he ho fun b ob e => Heap.get?_push_of_some _ (Heap.get?_push_of_some _ e)⟩
/-- items with their numbers -/
def IteK (K : PySem.W.Frag) (k : Bool) (a : Addr) : It :=
  ⟨fun i H => ∃ (xs : List V) (x : V), SqK k K H a xs ∧ xs[i]? = some x,
   fun i H v H' => ∃ T x, v = .ref T ∧ H T = none ∧ H' = upd H T (.tup [.int (i : Nat), x]) ∧ ∀ xs, SqK k K H a xs → xs[i]? = some x,
   fun i H => ∃ xs : List V, SqK k K H a xs ∧ i = xs.length⟩
def eSt (N : Addr) (k : Bool) (a : Addr) (i : Nat) (h : Heap) : Prop := (∃ old, IsEnum h (N + 1) N ((i : Nat) : Int) old) ∧ ItK k h N a i
abbrev eFp (N : Addr) : List Addr := [N + 1, N]
theorem turn_enumK {P : Program} {w : World} {K : PySem.W.Frag} {elts : List Expr} {kk : Nat} {tpos : Pos} {N a : Addr} {k : Bool} (l1 : a < N) : Turn P w K (.Tuple elts kk tpos) (IteK K k a) (eFp N) (N + 1) (fun i h => eSt N k a i h) where
  mem := by simp
  obj := fun i h st b hb => by
    obtain ⟨⟨old, he⟩, hi⟩ := st
    simp only [eFp, List.mem_cons, List.not_mem_nil, or_false] at hb
    rcases hb with rfl | rfl
    · exact ⟨_, he, fun v q => nomatch q⟩
    · exact hi.obj
  keep := fun i h h' st q => ⟨let ⟨old, he⟩ := st.1; ⟨old, q _ (by simp) _ he⟩, st.2.keep (q _ (by simp))⟩
  item := fun X hP hw hK hc i pins s σ H E I hf st go => by
    subst hP hw hK
    obtain ⟨xs, x, q1, e1⟩ := go
    obtain ⟨its, r1, t1, _⟩ := seqK I q1
    obtain ⟨he, i1⟩ := st
    have W := WalksT.enumerateD (A := X.A) (drK_calm (P := X.prog) (w := X.w) (show X.A.in1.handled = none from I.ok.hd hc) k N a its.toArray (Nat.ne_of_lt l1)) (N + 1) (Nat.succ_ne_self N) (fun z => by
      simp only [List.mem_cons, List.not_mem_nil, or_false] at z
      rcases z with z | z
      · exact Nat.succ_ne_self N z
      · exact absurd l1 (by rw [← z]; exact Nat.not_lt.mpr (Nat.le_succ N))) (List.mem_cons_self ..)
    have n1 : i < xs.length := (List.getElem?_eq_some_iff.mp e1).1
    have m1 := r1.length
    obtain ⟨u1, g1, ru1⟩ := r1.get e1
    have sub2 : ∀ {b}, b ∈ [N + 1, N] → b ∈ eFp N := fun hb => hb
    refine W.item i s _ E (by simp; omega) ⟨he, ⟨i1, t1⟩, trivial⟩ fun T vals h' tk pv lT isT mid kp => ?_
    refine ⟨.ref T, rfl, W.go elts kk tpos i T { s with heap := h', toks := tk } _ E mid fun h2 st2 kp2 => ?_⟩
    obtain ⟨t, x1, p1, rfl⟩ := pv
    have p1 : its[i]? = some x1 := by simpa using p1
    rw [g1] at p1; cases p1
    have hT : T ∉ [N + 1, N] := W.apart i T h' mid
    have isT2 : h2.IsTuple T #[.int i t, u1] := isT.at fun o e => kp2 T o hT e
    have hn : H T = none := I.hok.fresh lT
    have new : ObjOk X.prog X.w (upd H T (.tup [.int (i : Nat), x])) h2 T (.tup [.int (i : Nat), x]) := by
      obtain ⟨ob, g, c, n, d⟩ := isT2
      exact ⟨by show 2 ≤ sizeLine; decide, [.int i t, u1], .cons ⟨_, rfl⟩ (.cons ru1 .nil), ⟨ob, g, c, n, d⟩⟩
    have J : Inv X pins σ (upd H T (.tup [.int (i : Nat), x])) { s with heap := h2, toks := tk } := I.turnedNew (ch := [N + 1, N]) (fun b ob hb e => kp2 b ob hb (kp b ob hb e)) (fun b hb => hf b (sub2 hb)) lT new
    refine ⟨.ref T, _, J, rfl, ⟨T, x, rfl, hn, rfl, fun xs' h' => ?_⟩, ⟨st2.1, st2.2.1.1⟩, fun b hb => ?_⟩
    · have : xs' = xs := by
        cases k with
        | true => exact I.tuple_inj h' q1
        | false => exact I.list_inj h' q1
      rw [this]; exact e1
    · have : ∃ o, s.heap.get? b = some o := by
        simp only [eFp, List.mem_cons, List.not_mem_nil, or_false] at hb
        rcases hb with rfl | rfl
        · exact ⟨_, he.choose_spec⟩
        · obtain ⟨o, z, _⟩ := i1.obj; exact ⟨o, z⟩
      obtain ⟨o, z⟩ := this
      rw [upd_ne (Nat.ne_of_lt (Nat.lt_of_lt_of_le (Heap.lt_size z) lT))]
      exact (hf b hb).1
  done := fun X hP hw hK hc i pins s σ H E I hf st stop => by
    subst hP hw hK
    obtain ⟨xs, q1, rfl⟩ := stop
    obtain ⟨its, r1, t1, _⟩ := seqK I q1
    obtain ⟨he, i1⟩ := st
    have W := WalksT.enumerateD (A := X.A) (drK_calm (P := X.prog) (w := X.w) (show X.A.in1.handled = none from I.ok.hd hc) k N a its.toArray (Nat.ne_of_lt l1)) (N + 1) (Nat.succ_ne_self N) (fun z => by
      simp only [List.mem_cons, List.not_mem_nil, or_false] at z
      rcases z with z | z
      · exact Nat.succ_ne_self N z
      · exact absurd l1 (by rw [← z]; exact Nat.not_lt.mpr (Nat.le_succ N))) (List.mem_cons_self ..)
    have m1 : xs.length = its.toArray.size := by rw [r1.length]; simp
    rw [m1] at he i1
    exact W.done s _ E ⟨he, ⟨i1, t1⟩, trivial⟩ fun h' tk kp => ⟨rfl, I.turnedL (ch := [N + 1, N]) kp fun b hb => hf b hb⟩
  self := fun A i s Q E st q => by
    obtain ⟨⟨old, he⟩, _⟩ := st
    exact wpAny_pyIter_enum he q
def iEnumK (K : PySem.W.Frag) (ta : TA) : TI := fun σ H R => ta σ H fun vs H1 => ∃ k a xs, vs = [.ref a] ∧ SqK k K H1 a xs ∧ R (IteK K k a) H1
section
variable {X : Cx} {e e2 : Expr} {ta : TA} {p pos tpos : Pos} {elts : List Expr} {kk : Nat}
theorem pi_enumK (hg : Gl X "enumerate") (hm : X.mg "enumerate" = none) (ha : PA X [e] ta) (hs : starEach [e] X.env = [(false, eval e X.env)] := by rfl) : PI X (.Tuple elts kk tpos) (.Call (.Name "enumerate" p) [e] [] pos) (iEnumK X.K ta) := by
  refine ⟨fun pins s σ H R I h => ?_⟩
  refine Call_ (ld_blt I hg hm boot_enumerate (PyProof.Rows.callWith_type1 (thn (ha.run pos pins s σ H _ I h) fun us s1 ⟨vs, H1, I1, r1, q1⟩ => ?_) hs rfl))
  obtain ⟨k, a, xs, rfl, hx, q⟩ := q1
  obtain ⟨u1, rfl, ru1⟩ := Vals.one r1
  cases ru1
  obtain ⟨its, r, t1, _⟩ := seqK I1 hx
  refine call_enum1 (beginsK k a its.toArray) t1 fun h' he ho kp => wpAny_pyIter_enum he ?_
  refine ⟨s1.heap.objs.size + 1, eFp s1.heap.objs.size, _, _, H1, rfl, I1.kept (t' := s1.toks) kp, turn_enumK t1.lt, ⟨⟨.none, he⟩, startK ho⟩, fun c hc => ?_, q⟩
  have hle : s1.heap.objs.size ≤ c := by
    simp only [eFp, List.mem_cons, List.not_mem_nil, or_false] at hc
    rcases hc with e | e <;> rw [e]
    · exact Nat.le_add_right _ _
    · exact Nat.le_refl _
  exact I1.fpOk hle (I1.hok.fresh hle)
end
section
variable {X : Cx} {g : G} {c : Fx} {W : WX} {cf : Py.CallF}
variable {ρ ρ0 ρ1 ρ2 : Rho} {h h0 h1 h2 : CH} {H H0 H1 H2 : Hp} {env : Py.Ev} {σ : L2.St}
variable {a b : Expr} {da db : Py.Dn} {p pos tpos : Pos} {elts : List Expr} {kk : Nat}
theorem walkEK {k : Bool} {ds : List D} {a : Addr} {l : Option Nat} (hv : Stay g ρ h H k a ds) (hl : Lck l h0 h) : WalkD g (Py.enumD 0 ds) l h0 ρ h H (IteK g.K k a) where
  goes i ρ2 h2 H2 hi p := by
    rw [enumD_len] at hi
    obtain ⟨vs, e, r⟩ := hv ρ2 h2 H2 p
    exact ⟨vs, vs[i]'(by rw [← r.length]; exact hi), e, by simp⟩
  stops ρ2 h2 H2 p := by
    obtain ⟨vs, e, r⟩ := hv ρ2 h2 H2 p
    exact ⟨vs, e, by rw [enumD_len, r.length]⟩
  yields i ρ2 h2 H2 v H3 p y d hd := by
    obtain ⟨vs, e, r⟩ := hv ρ2 h2 H2 p
    obtain ⟨T, x, rfl, hT, rfl, hx⟩ := y
    obtain ⟨d', e1, rfl⟩ := enumD_get _ _ _ _ hd
    obtain ⟨v', e2, r1⟩ := r.get e1
    have := hx vs e
    rw [e2] at this; cases this
    simpa using pair_rd p.st.noTup hT (.int (i : Nat)) r1
  lck := hl
/-- the source is kept from here on -/
theorem src_lock {x : Sl} {xs : List D} {l : Option Nat} {Hb : Hp} {hb : CH} {ρb : Rho} (p : Post g ρb hb Hb ρ h H) (e : Py.src x h = some (xs, l)) (hm : ∀ i, l = some i → h[i]? = some (.ml xs)) : Post g ρb hb Hb ρ (Py.lockAt l xs h) H ∧ Lck l hb (Py.lockAt l xs h) := by
  cases l with
  | none => exact ⟨p, lck_none⟩
  | some i =>
    have q := hm i rfl
    have hs := ml_before p q
    have hi : i < h.length := (List.getElem?_eq_some_iff.mp q).1
    simp only [Py.lockAt, Py.setAt_eq]
    exact ⟨post_lock p q hs, fun j z => by cases z; exact ⟨⟨_, List.getElem?_set_self hi, rfl⟩, hs⟩⟩
theorem si_enum (hg : Gl X "enumerate") (hm : X.mg "enumerate" = none) (ha : PE X a (tD (gx X g) c W cf da)) (hs : starEach [a] X.env = [(false, eval a X.env)] := by rfl) : PI X (.Tuple elts kk tpos) (.Call (.Name "enumerate" p) [a] [] pos) (tI (gx X g) c W cf (Py.iEnum da)) :=
  (pi_enumK hg hm (pa_cons ha pa_nil hs) hs).imp fun σ H R ⟨ρ, env, h, re, rs, e⟩ => by
    refine ⟨ρ, env, h, re, rs, e.bind.imp fun x h1 e ρ1 v H1 p1 r1 => ?_⟩
    obtain ⟨⟨xs, l⟩, e1, e⟩ := e.of
    obtain ⟨k, a', rfl, hv⟩ := stay_src p1.st r1 e1
    have hml : ∀ i, l = some i → h1[i]? = some (.ml xs) := fun i z => by subst z; exact hv.1
    obtain ⟨p2, lk⟩ := src_lock p1 e1 hml
    have st : Stay (gx X g) ρ1 (Py.lockAt l xs h1) H1 k a' xs := by
      cases l with
      | none => exact hv
      | some i => simp only [Py.lockAt, Py.setAt_eq]; exact hv.2
    obtain ⟨vs, ev, _⟩ := st _ _ _ (.refl p2.st)
    exact ⟨k, a', vs, rfl, ev, e ρ1 H1 _ p2 (walkEK st lk)⟩
theorem zip_ends {x y : Sl} {v w : V} {xs ys : List D} {l1 l2 l : Option Nat} {xl : List D} {Hb : Hp} {hb : CH} {ρb : Rho} (p : Post g ρb hb Hb ρ h H) (r1 : RRs g c ρ h H0 H x v) (r2 : RRs g c ρ h H1 H y w) (e1 : Py.src x h = some (xs, l1)) (e2 : Py.src y h = some (ys, l2))
    (hl : (l1 = none ∧ l = l2 ∧ xl = ys) ∨ (l2 = none ∧ l = l1 ∧ xl = xs)) : ∃ k1 k2 a b, v = .ref a ∧ w = .ref b ∧ Post g ρb hb Hb ρ (Py.lockAt l xl h) H ∧ Lck l hb (Py.lockAt l xl h) ∧ Stay g ρ (Py.lockAt l xl h) H k1 a xs ∧ Stay g ρ (Py.lockAt l xl h) H k2 b ys := by
  obtain ⟨k1, a, rfl, s1⟩ := stay_src p.st r1 e1
  obtain ⟨k2, b, rfl, s2⟩ := stay_src p.st r2 e2
  refine ⟨k1, k2, a, b, rfl, rfl, ?_⟩
  rcases hl with ⟨rfl, rfl, rfl⟩ | ⟨rfl, rfl, rfl⟩
  · obtain ⟨p2, lk⟩ := src_lock p e2 (fun i z => by subst z; exact s2.1)
    cases l with
    | none => exact ⟨p2, lk, s1, s2⟩
    | some i =>
      have q := src_lock (Post.refl p.st) e2 (fun i z => by cases z; exact s2.1)
      refine ⟨p2, lk, s1.later q.1, ?_⟩
      simp only [Py.lockAt, Py.setAt_eq]; exact s2.2
  · obtain ⟨p2, lk⟩ := src_lock p e1 (fun i z => by subst z; exact s1.1)
    cases l with
    | none => exact ⟨p2, lk, s1, s2⟩
    | some i =>
      have q := src_lock (Post.refl p.st) e1 (fun i z => by cases z; exact s1.1)
      refine ⟨p2, lk, ?_, s2.later q.1⟩
      simp only [Py.lockAt, Py.setAt_eq]; exact s1.2
theorem zip_of {σ : L2.St} {H : Hp} {R : It → Hp → Prop} (z : tI (gx X g) c W cf (Py.iZip da db) σ H R) : iZipK X.K (tCons (tD (gx X g) c W cf da) (tCons (tD (gx X g) c W cf db) tNil)) σ H R := by
    obtain ⟨ρ, env, h, re, rs, e⟩ := z
    refine tD.go re rs e fun x h1 ρ1 v H1 p1 r1 e => tD.go (re.keep p1 rs.noTup) p1.st e fun y h2 ρ2 w H2 p2 r2 e => ?_
    obtain ⟨⟨xs, l1⟩, e1, e⟩ := e.of
    obtain ⟨⟨ys, l2⟩, e2, e⟩ := e.of
    have go : ∀ (l : Option Nat) (xl : List D), ((l1 = none ∧ l = l2 ∧ xl = ys) ∨ (l2 = none ∧ l = l1 ∧ xl = xs)) → EndR (gx X g) W ρ2 h2 σ H2 (fun p h' => ∀ ρ' H' J, Post (gx X g) ρ h H ρ' h' H' → WalkD (gx X g) p.1 p.2 h ρ' h' H' J → R J H') (Py.Res.ok (Py.zipD xs ys, l) (Py.lockAt l xl h2)) → ∃ k1 k2 a b vs ws, [v, w] = [V.ref a, V.ref b] ∧ SqK k1 X.K H2 a vs ∧ SqK k2 X.K H2 b ws ∧ R (ItzK X.K k1 k2 a b) H2 := fun l xl hl e => by
      obtain ⟨k1, k2, a', b', rfl, rfl, pq, lk, s1, s2⟩ := zip_ends (p1.trans p2) (r1.keep p2 p1.st.noTup) r2 e1 e2 hl
      obtain ⟨vs, ev, _⟩ := s1 _ _ _ (.refl pq.st)
      obtain ⟨ws, ew, _⟩ := s2 _ _ _ (.refl pq.st)
      exact ⟨k1, k2, a', b', vs, ws, rfl, ev, ew, e ρ2 H2 _ pq (walkZK s1 s2 lk)⟩
    cases l1 with
    | none => exact go l2 ys (.inl ⟨rfl, rfl, rfl⟩) e
    | some i =>
      cases l2 with
      | none => exact go (some i) xs (.inr ⟨rfl, rfl, rfl⟩) e
      | some j => exact e.elim
theorem si_zip (hg : Gl X "zip") (hm : X.mg "zip" = none) (ha : PE X a (tD (gx X g) c W cf da)) (hb : PE X b (tD (gx X g) c W cf db)) (hs2 : starEach [b] X.env = [(false, eval b X.env)] := by rfl) (hs : starEach [a, b] X.env = (false, eval a X.env) :: starEach [b] X.env := by rfl) (hpl : (backTo pos (starEach [b] X.env)).any (·.1) = false := by rfl) :
    PI X (.Tuple elts kk tpos) (.Call (.Name "zip" p) [a, b] [] pos) (tI (gx X g) c W cf (Py.iZip da db)) :=
  (pi_zipK hg hm (pa_cons ha (pa_cons hb pa_nil hs2) hs) hs hpl).imp fun _ _ _ => zip_of
end
end Sd

set_option autoImplicit false
set_option linter.all false
set_option maxRecDepth 100000
set_option maxHeartbeats 2000000
/-! SndHt: the end of a list's or tuple's iterator while an exception is handled. -/
namespace Sd
open PySem L2 PySem.Spec PyProof.Rows HotX
section
variable {P : Program} {w : World} {A : Around} {E : Value → Shared → Prop} {s : Shared}
/-- a new StopIteration, raised -/
theorem stop_hot {x1 it : Addr} {o : Obj} {vs : Array Value} {α : Type} {Q : α → Shared → Prop} (hot : HotAt A x1 s.heap) (ho : s.heap.get? it = some o) (hd : o.data = .fields vs) (hn : x1 ≠ it)
    (hE : ∀ h' e, Heap.ExtBut it s.heap h' → (∃ o, h'.get? e = some o ∧ o.cls = .type "StopIteration") → E (.ref e) { s with heap := h' }) :
    wpAny (model P w) A (newExc (.type "StopIteration") [] >>= fun e => (raiseNew e : Sem α)) Q E { s with heap := s.heap.update it (Obj.mapFields (·.setIfInBounds 0 .none)) } := by
  obtain ⟨hh, o1, vs1, h1, d1, c1⟩ := hot
  have h1' : (s.heap.update it (Obj.mapFields (·.setIfInBounds 0 .none))).get? x1 = some o1 := by rw [Heap.get?_update_other _ _ (Ne.symm hn)]; exact h1
  refine wpAny_bind ?_
  simp only [newExc, newTuple]
  refine wpAny_bind (wpAny_newObj_type ?_ (by size_fits))
  refine wpAny_bind (m := firstArgMember _ _) (wpAny_of_eq (a := Value.none) (by first | rfl | (simp only [firstArgMember]; rfl)) ?_)
  refine wpAny_newObj_type ?_ (by size_fits)
  refine raiseNew_hot ⟨hh, o1, vs1, Heap.get?_push_of_some _ (Heap.get?_push_of_some _ h1'), d1, c1⟩ (Nat.ne_of_lt (Heap.lt_size (Heap.get?_push_of_some _ h1'))) (Heap.get?_push_size _ rfl) rfl (by first | (simp; done) | (simp; omega) | (simp only [Array.size_append]; simp; omega)) ?_
  refine hE _ _ ?_ ⟨_, Heap.get?_update_self _ (Heap.get?_push_size _ rfl) rfl, rfl⟩
  intro b ob hb e
  have e2 : (s.heap.update it (Obj.mapFields (·.setIfInBounds 0 .none))).get? b = some ob := by rw [Heap.get?_update_other _ _ (Ne.symm hb)]; exact e
  rw [Heap.get?_update_other _ _ (Nat.ne_of_gt (Heap.lt_size (Heap.get?_push_of_some _ e2)))]
  exact Heap.get?_push_of_some _ (Heap.get?_push_of_some _ e2)
theorem tuple_end_hot {x1 it t : Addr} {i : Nat} {items : Array Value} {Q : Value → Shared → Prop} (hot : HotAt A x1 s.heap) (hn : x1 ≠ it) (hit : s.heap.IsTupleIter it t i) (ht : s.heap.IsTuple t items) (hx : items[i]? = none)
    (hE : ∀ h' e, Heap.ExtBut it s.heap h' → (∃ o, h'.get? e = some o ∧ o.cls = .type "StopIteration") → E (.ref e) { s with heap := h' }) : wpAny (model P w) A (Builtin.SmallTypes.nextOf (.ref it)) Q E s := by
  obtain ⟨o, ho, hc, hd⟩ := id hit
  obtain ⟨ol, hol, _, nl, hdl⟩ := ht
  unfold Builtin.SmallTypes.nextOf
  refine wpAny_bind (wpAny_callSpecial?_slot (name := Str.ofString "__next__") hit.typeIs F.slot_tuple_iterator_next
    (wpAny_call_entry F.slot_tuple_iterator_next hit.typeIs F.entry_tuple_iterator_next ?_ (F.args_tuple_iterator_next_1 _)))
  show wpAny _ _ (field (.ref it) 0 >>= _) _ _ s
  refine wpAny_bind (wpAny_field ho hd (x := .ref t) rfl ?_)
  show wpAny _ _ (if (Value.ref t == Value.none) = true then _ else _) _ _ s
  rw [if_neg (show ¬ ((Value.ref t == Value.none) = true) from Bool.false_ne_true)]
  show wpAny _ _ (field (.ref it) 1 >>= _) _ _ s
  refine wpAny_bind (wpAny_field ho hd (x := .int i 0) rfl ?_)
  show wpAny _ _ (seqItems? (.ref t) >>= _) _ _ s
  refine wpAny_bind (wpAny_seqItems hol hdl ?_)
  simp only [Int.toNat_natCast, hx]
  refine wpAny_bind (wpAny_rule (wpAny_bind (wpAny_setField ho hd (by simp) ?_)))
  exact stop_hot (A := A.in1) hot ho hd hn hE
theorem list_end_hot {x1 it t : Addr} {i : Nat} {items : Array Value} {Q : Value → Shared → Prop} (hot : HotAt A x1 s.heap) (hn : x1 ≠ it) (hit : s.heap.IsListIter it t i) (ht : s.heap.IsList t items) (hx : items[i]? = none)
    (hE : ∀ h' e, Heap.ExtBut it s.heap h' → (∃ o, h'.get? e = some o ∧ o.cls = .type "StopIteration") → E (.ref e) { s with heap := h' }) : wpAny (model P w) A (Builtin.SmallTypes.nextOf (.ref it)) Q E s := by
  obtain ⟨o, ho, hc, hd⟩ := id hit
  obtain ⟨ol, hol, _, nl, hdl⟩ := ht
  unfold Builtin.SmallTypes.nextOf
  refine wpAny_bind (wpAny_callSpecial?_slot (name := Str.ofString "__next__") hit.typeIs slot_listiter_next
    (wpAny_call_entry slot_listiter_next hit.typeIs entry_listiter_next ?_ (args_listiter_next _)))
  show wpAny _ _ (field (.ref it) 0 >>= _) _ _ s
  refine wpAny_bind (wpAny_field ho hd (x := .ref t) rfl ?_)
  show wpAny _ _ (if (Value.ref t == Value.none) = true then _ else _) _ _ s
  rw [if_neg (show ¬ ((Value.ref t == Value.none) = true) from Bool.false_ne_true)]
  show wpAny _ _ (field (.ref it) 1 >>= _) _ _ s
  refine wpAny_bind (wpAny_field ho hd (x := .int i 0) rfl ?_)
  show wpAny _ _ (seqItems? (.ref t) >>= _) _ _ s
  refine wpAny_bind (wpAny_seqItems hol hdl ?_)
  simp only [Int.toNat_natCast, hx]
  refine wpAny_bind (wpAny_rule (wpAny_bind (wpAny_setField ho hd (by simp) ?_)))
  exact stop_hot (A := A.in1) hot ho hd hn hE
/-- what a list's or tuple's iterator draws while x1's exception is handled -/
theorem drK_hot {x1 : Addr} {o1 : Obj} {vs1 : Array Value} (hh : A.handled = some (.ref x1)) (d1 : o1.data = .fields vs1) (c1 : vs1[2]? = some .none) (k : Bool) (it a : Addr) (its : Array Value) (hne : a ≠ it) (hx : x1 ≠ it) : DrK P w A [x1] (fun h => h.get? x1 = some o1) k it a its where
  live := fun i h x => by
    obtain ⟨o, e, _⟩ := x.1.1.obj
    exact ⟨o, e⟩
  frame := fun i h h' x q => ⟨⟨x.1.1.keep (q it (by simp)), x.1.2.keep (q a (by simp))⟩, q x1 (by simp) _ x.2⟩
  item := fun i s Q E hi x hQ => by
    obtain ⟨⟨st, sa⟩, sx⟩ := x
    cases k with
    | true =>
      refine wpAny_nextOf_tuple_item st sa (x := its[i]) (by simp [hi]) fun h' hit' hs' => ?_
      exact hQ _ h' s.toks (by simp [hi]) ⟨⟨hit', Heap.IsTuple.at sa fun o e => hs'.extBut a o hne e⟩, hs'.extBut x1 o1 hx sx⟩ hs'
    | false =>
      refine wpAny_nextOf_list_item st sa (x := its[i]) (by simp [hi]) fun h' hit' hs' => ?_
      exact hQ _ h' s.toks (by simp [hi]) ⟨⟨hit', Heap.IsList.at sa fun o e => hs'.extBut a o hne e⟩, hs'.extBut x1 o1 hx sx⟩ hs'
  done := fun s Q E x hE => by
    obtain ⟨⟨st, sa⟩, sx⟩ := x
    cases k with
    | true => exact tuple_end_hot ⟨hh, o1, vs1, sx, d1, c1⟩ hx st sa (by simp) hE
    | false => exact list_end_hot ⟨hh, o1, vs1, sx, d1, c1⟩ hx st sa (by simp) hE
end
end Sd

set_option autoImplicit false
set_option linter.all false
set_option maxRecDepth 100000
set_option maxHeartbeats 2000000
/-! SndHu: zip while an exception is handled. -/
namespace Sd
open PySem L2 L2H PySem.Spec PyProof.Rows HotX
theorem turn_zipH {P : Program} {w : World} {K : PySem.W.Frag} {elts : List Expr} {kk : Nat} {tpos : Pos} {N a1 a2 : Addr} {k1 k2 : Bool} (l1 : a1 < N) (l2 : a2 < N) :
    TurnH P w K (.Tuple elts kk tpos) (ItzK K k1 k2 a1 a2) (zFp N) (N + 4) (fun i h => zSt N k1 k2 a1 a2 i h) where
  mem := by simp
  obj := fun i h st => st.obj
  keep := fun i h h' st q => st.keep q
  item := fun X hP hw hK hc i pins s σ H E I hf st go => by
    subst hP hw hK
    obtain ⟨p, ⟨hh, v1, e1, c1⟩, hp⟩ := hc
    have pin := I.pin p (List.mem_append_left _ hp)
    have ne : ∀ b ∈ zFp N, p.1 ≠ b := fun b hb => (hf b hb).2.2.2.2.2 p (List.mem_append_left _ hp)
    exact zip_item (fe := [p.1]) (SE := fun h => h.get? p.1 = some p.2) (fun k it a its hne hm => drK_hot (A := X.A.in1) hh e1 c1 k it a its hne (ne it hm)) I hf (fun b hb => by rw [List.mem_singleton.mp hb]; exact fun z => ne _ z rfl) l1 l2 st pin.1 go
  done := fun X hP hw hK hc i pins s σ H E I hf st stop => by
    subst hP hw hK
    obtain ⟨p, ⟨hh, v1, e1, c1⟩, hp⟩ := hc
    have pin := I.pin p (List.mem_append_left _ hp)
    have ne : ∀ b ∈ zFp N, p.1 ≠ b := fun b hb => (hf b hb).2.2.2.2.2 p (List.mem_append_left _ hp)
    exact zip_done (fe := [p.1]) (SE := fun h => h.get? p.1 = some p.2) (fun k it a its hne hm => drK_hot (A := X.A.in1) hh e1 c1 k it a its hne (ne it hm)) I hf (fun b hb => by rw [List.mem_singleton.mp hb]; exact fun z => ne _ z rfl) l1 l2 st pin.1 stop
  self := fun A i s Q E st q => wpAny_pyIter_zip st.1 q
section
variable {X : Cx} {e e2 : Expr} {ta : TA} {p pos tpos : Pos} {elts : List Expr} {kk : Nat}
theorem pi_zipH (hg : Gl X "zip") (hm : X.mg "zip" = none) (ha : PA X [e, e2] ta) (hs : starEach [e, e2] X.env = (false, eval e X.env) :: starEach [e2] X.env := by rfl) (hpl : (backTo pos (starEach [e2] X.env)).any (·.1) = false := by rfl) :
    PIH X (.Tuple elts kk tpos) (.Call (.Name "zip" p) [e, e2] [] pos) (iZipK X.K ta) := by
  refine ⟨fun pins s σ H R I h => ?_⟩
  refine Call_ (ld_blt I hg hm PyProof.Rows.boot_zip (PyProof.Rows.callWith_type1 (thn (ha.run pos pins s σ H _ I h) fun us s1 ⟨vs, H1, I1, r1, q1⟩ => ?_) hs hpl))
  obtain ⟨k1, k2, a, b, xs, ys, rfl, hx, hy, q⟩ := q1
  obtain ⟨u1, u2, rfl, ru1, ru2⟩ := Vals.two r1
  cases ru1
  cases ru2
  exact zip_start I1 hx hy fun N h' l1 l2 fr st J _ => wpAny_pyIter_zip st.1 ⟨N + 4, zFp N, _, _, H1, rfl, J, turn_zipH l1 l2, st, fr, q⟩
end
end Sd

set_option autoImplicit false
set_option linter.all false
set_option maxRecDepth 100000
set_option maxHeartbeats 2000000
/-! SndHv: a list comprehension while an exception is handled. -/
namespace Sd
open PySem L2 L2H PySem.Spec PyProof.Rows HotX
/-- a comprehension's block that keeps the pins of its def -/
abbrev blkH (X : Cx) (s : Shared) (H : Hp) (scope : Scope) (cenv : Env) (fp : List Addr) : Cx := { X.blk s H scope cenv fp with pn := X.pn }
section
variable {X : Cx}
theorem hotB {s : Shared} {H : Hp} {scope : Scope} {cenv : Env} {fp : List Addr} (h : HotC X) : HotC (blkH X s H scope cenv fp) := h
theorem block_startH {pins : List (Addr × Obj)} {σ : L2.St} {H : Hp} {s : Shared} {scope : Scope} {own : List (Str × Nat)} {fp : List Addr} (I : Inv X pins σ H s) (ok : BlkOk X.N X.env.scope scope own) (hN : X.N.Nodup) (hfp : ∀ b ∈ fp, FpOk X pins H b ∧ b < s.heap.objs.size) :
    Inv (blkH X s H scope (compEnvC scope (cellsFrom (s.heap.objs.size + 1) scope.names (cloFrom X.env.cells scope.names [])) s.heap.objs.size X.env) fp) [] (wipe σ (own.map (·.2))) H { s with heap := pushCells (s.heap.push { cls := .type "dict", data := .dict #[] }) scope.names } := by
  have J := block_start I ok hN hfp
  refine ⟨⟨J.ok.mod, J.ok.kind, J.ok.glob, J.ok.blt, J.ok.above, J.ok.inj, J.ok.has, J.ok.cab, J.ok.hd, J.ok.frames, J.ok.stk, J.ok.exf, J.ok.bs, J.ok.bsz, J.ok.noex, J.ok.exfs, J.ok.funs, J.ok.frf⟩, J.os, J.bare, J.base, J.loc, J.cell, J.free, J.freeC, fun p hp => ?_, J.hok, J.len⟩
  have hp : p ∈ X.pn := by
    have hp : p ∈ X.pn ++ [] := hp
    rwa [List.append_nil] at hp
  obtain ⟨e, n, ne, nf, d⟩ := I.pin p (List.mem_append_left _ hp)
  refine ⟨pushCells_keeps _ _ _ _ (Heap.get?_push_of_some _ e), n, Nat.ne_of_lt (Heap.lt_size e), ?_, d⟩
  show p.1 ∉ frs X.stack
  rcases I.ok.stk with z | ⟨z, f⟩
  · rw [z]; exact nf
  · rw [z, frs, List.filterMap_cons, f]
    intro q
    rcases List.mem_cons.mp q with q | q
    · exact ne q
    · exact nf q
theorem lc_coreH {pins : List (Addr × Obj)} {s : Shared} {σ : L2.St} {H : Hp} {Q : VK} {elt tg iter : Expr} {ifs : List Expr} {scope : Scope} {own : List (Str × Nat)} {pos pos' : Pos} {wi : TI} {g : TG} {tt : TT} {te : TE} {use : Option (Value → Sem Unit)} {Qf : Value → Shared → Prop}
    (hc : HotC X) (hN : X.N.Nodup) (I : Inv X pins σ H s) (hi : PIH X tg iter wi) (ok : BlkOk X.N X.env.scope scope own)
    (hg : ∀ (s : Shared) (H : Hp) (C : Addr) (cl : List (Str × Addr)) (fp : List Addr), PG (blkH X s H scope (compEnvC scope cl C X.env) fp) tg g) (ht : ∀ (s : Shared) (H : Hp) (C : Addr) (cl : List (Str × Addr)) (fp : List Addr), PTs (blkH X s H scope (compEnvC scope cl C X.env) fp) ifs tt)
    (he : ∀ (s : Shared) (H : Hp) (C : Addr) (cl : List (Str × Addr)) (fp : List Addr), PE (blkH X s H scope (compEnvC scope cl C X.env) fp) elt te) (hs : ∀ x, foldedSetIterable iter X.env x = pure x)
    (h : tLc wi g tt te (own.map (·.2)) σ H Q)
    (hRR : ∀ D C s' m H', Inv X pins σ H' s' → Q (.ref D) H' → s'.heap.Ns C m → FpOk X pins H' C → compPost (model X.prog X.w) X.A X.xe use Qf (.ref D) C (.ok .next) s') :
    wpAny (model X.prog X.w) X.A (comprehension (.ListComp elt [⟨tg, iter, ifs, 0⟩] scope pos) scope X.env pos' (newList []) false (eval iter X.env) use) Qf X.xe s := by
  have hfree : ∀ y ∈ scope.names, y.2 = .free → ∃ c, X.env.cells.lookup y.1 = some c := fun y hy e => by
    rcases ok.free y hy e with k | k
    · exact I.ok.has _ (.inl k)
    · exact I.ok.has _ (.inr k)
  refine wpAny_comprehension_free (use := use) rfl hs (closure_ok hfree) ok.kind (fun y hy e => by rw [ok.uniq y hy, e])
    (thn (hi.run pins s σ H _ I h) fun xv s1 hx => thn hx fun itv s2 h2 => ?_)
  obtain ⟨it, fp, tn, J, H2, e, I2, T, st2, f2, q⟩ := h2
  subst e
  refine wpAny_newObj_type (newEnv_comp ?_) (by show 0 ≤ sizeLine; decide)
  generalize hD : s2.heap.objs.size = D
  have hDn : H2 D = none := I2.hok.fresh (Nat.le_of_eq hD)
  obtain ⟨W, ⟨m0, w0⟩, turn⟩ := q D hDn
  -- the new list
  generalize hs3 : ({ s2 with heap := s2.heap.push { cls := .type "list", data := .seq ([] : List Value).toArray } } : Shared) = s3
  have I3 : Inv X pins σ (upd H2 D (.lst [])) s3 := by
    rw [← hs3]
    refine I2.laid (t' := s2.toks) (fun b o e => Heap.get?_push_of_some _ e) (Nat.le_of_eq hD) ⟨Nat.zero_le _, [], 0, .nil, ?_⟩
    rw [← hD]
    exact Heap.get?_push_size _ rfl
  have h3 : s3.heap = s2.heap.push { cls := .type "list", data := .seq ([] : List Value).toArray } := by rw [← hs3]
  have sz : ∀ b ∈ fp, b < s2.heap.objs.size := fun b hb => by
    obtain ⟨o, e, _⟩ := T.obj _ _ st2 b hb
    exact Heap.lt_size e
  have f3 : ∀ b ∈ fp, FpOk X pins (upd H2 D (.lst [])) b ∧ b < s3.heap.objs.size := fun b hb => by
    have hlt := sz b hb
    refine ⟨⟨?_, (f2 b hb).2⟩, by rw [h3, Heap.size_push]; exact Nat.lt_succ_of_lt hlt⟩
    rw [upd_ne (by rw [← hD]; exact Nat.ne_of_lt hlt)]
    exact (f2 b hb).1
  have st3 : tn 0 s3.heap := T.keep _ _ _ st2 fun b _ o e => by rw [h3]; exact Heap.get?_push_of_some _ e
  have I4 := block_startH I3 ok hN f3
  have pg := hg s3 (upd H2 D (.lst [])) s3.heap.objs.size (cellsFrom (s3.heap.objs.size + 1) scope.names (cloFrom X.env.cells scope.names [])) fp
  have pt := ht s3 (upd H2 D (.lst [])) s3.heap.objs.size (cellsFrom (s3.heap.objs.size + 1) scope.names (cloFrom X.env.cells scope.names [])) fp
  have pe := he s3 (upd H2 D (.lst [])) s3.heap.objs.size (cellsFrom (s3.heap.objs.size + 1) scope.names (cloFrom X.env.cells scope.names [])) fp
  show codeAny _ _ (.compStart (.ListComp elt [⟨tg, iter, ifs, 0⟩] scope pos) 0 (.ref it) (.ref D) (compEnvC scope (cellsFrom (s3.heap.objs.size + 1) scope.names (cloFrom X.env.cells scope.names [])) s3.heap.objs.size X.env)) (compPost (model X.prog X.w) X.A X.xe use Qf (.ref D) s3.heap.objs.size) { s3 with heap := pushCells (s3.heap.push { cls := .type "dict", data := .dict #[] }) scope.names }
  have nfp : ∀ b ∈ fp, (upd H2 D (.lst [])) b = none := fun b hb => (f3 b hb).1.1
  generalize hce : compEnvC scope (cellsFrom (s3.heap.objs.size + 1) scope.names (cloFrom X.env.cells scope.names [])) s3.heap.objs.size X.env = ce at I4 pg pt pe ⊢
  have cL : ce.locals = s3.heap.objs.size := by subst hce; rfl
  generalize hH3 : upd H2 D (.lst []) = H3 at I3 I4 pg pt pe w0 nfp f3
  generalize hs4 : ({ s3 with heap := pushCells (s3.heap.push { cls := .type "dict", data := .dict #[] }) scope.names } : Shared) = s4 at I4 ⊢
  have st4 : tn 0 s4.heap := T.keep _ _ _ st3 fun b _ o e => by rw [← hs4]; exact pushCells_keeps _ _ _ _ (Heap.get?_push_of_some _ e)
  have stat : ∀ {σ' : L2.St} {H' : Hp} {s' : Shared}, Inv (blkH X s3 H3 scope ce fp) [] σ' H' s' → (∀ b ∈ fp, H' b = none) → ∀ b ∈ fp, FpOk (blkH X s3 H3 scope ce fp) [] H' b := fun {σ' H' s'} I' hn b hb =>
    ⟨hn b hb, (I'.ok.exf b hb).1, I'.ok.exfs b hb, .inl hb, fun x c e => (I'.ok.exf b hb).2 x c e, fun p hp => (f3 b hb).1.2.2.2.2.2 p (by have hp : p ∈ X.pn ++ [] := hp; rw [List.append_nil] at hp; exact List.mem_append_left _ hp)⟩
  have loop : codeAny (model X.prog X.w) X.A (.compLoop (.ListComp elt [⟨tg, iter, ifs, 0⟩] scope pos) 0 (.ref it) (.ref D) ce) (compPost (model X.prog X.w) X.A X.xe use Qf (.ref D) s3.heap.objs.size) s4 := by
    refine compLoop_any (fun n s' => ∃ i H', Inv (blkH X s3 H3 scope ce fp) [] (wipe σ (own.map (·.2))) H' s' ∧ tn i s'.heap ∧ (∀ b ∈ fp, H' b = none) ∧ W i n H') ?_ m0 ⟨0, H3, I4, st4, nfp, w0⟩
    rintro n s5 ⟨i, H5, I5, st5, n5, w5⟩
    rcases turn i n H5 w5 with ⟨stop, qq⟩ | ⟨go, Nx, hNx, step⟩
    · have td := T.done (blkH X s3 H3 scope ce fp) rfl rfl rfl (hotB hc) i [] s5 _ H5 (fun _ _ => False) I5 (stat I5 n5) st5 stop
      refine thnF td fun r s6 ⟨hr, I6⟩ => ?_
      subst hr
      -- back in the def's context
      have I7 : Inv X pins σ H5 s6 := I3.call' (ch := fp) I6.os I6.base I6.hok I6.bare fun b hb => ⟨(f3 b hb).1.2.2.2.1, (f3 b hb).1.2.1, (f3 b hb).1.2.2.2.2.1, (f3 b hb).1.2.2.2.2.2⟩
      have nC : H5 s3.heap.objs.size = none := by
        have z : H5 ce.locals = none := I6.free
        rw [cL] at z
        exact z
      obtain ⟨m, hn, _⟩ := I6.loc
      have hn : s6.heap.Ns ce.locals m := hn
      rw [cL] at hn
      exact hRR D s3.heap.objs.size s6 m H5 I7 qq hn (I3.fpOk (Nat.le_refl _) nC)
    · have ti := T.item (blkH X s3 H3 scope ce fp) rfl rfl rfl (hotB hc) i [] s5 _ H5 (fun _ _ => False) I5 (stat I5 n5) st5 go
      refine thnF ti fun r s6 ⟨u, hr, h6⟩ => ?_
      subst hr
      refine thnF h6 fun _ s7 ⟨x, H7, I7, r7, y7, st7, n7⟩ => ?_
      have I7' := I7.pinned (stat I7 n7) (T.obj _ _ st7)
      refine thnF (pg.run _ s7 _ H7 x u _ I7' r7 (step x H7 y7)) fun _ s8 ⟨σ8, H8, I8, hw8, q8⟩ => ?_
      refine thnF (pt.run _ s8 σ8 H8 _ I8 q8) fun b s9 ⟨H9, I9, q9⟩ => ?_
      -- the turn's end
      have fin : ∀ {s' : Shared} {H' : Hp}, Inv (blkH X s3 H3 scope ce fp) ([] ++ pinsAt fp s7.heap) σ8 H' s' → Nx H' → ∃ m, m < n ∧ ∃ i H', Inv (blkH X s3 H3 scope ce fp) [] (wipe σ (own.map (·.2))) H' s' ∧ tn i s'.heap ∧ (∀ b ∈ fp, H' b = none) ∧ W i m H' := fun {s' H'} I' nx => by
        obtain ⟨m', hm, w'⟩ := hNx H' nx
        have pin' : ∀ b ∈ fp, ∀ o, s7.heap.get? b = some o → s'.heap.get? b = some o ∧ H' b = none := fun b hb o e =>
          let z := I'.pin (b, o) (List.mem_append_right _ (List.mem_append_right _ (mem_pinsAt hb e)))
          ⟨z.1, z.2.1⟩
        have hl : (wipe σ (own.map (·.2))).length = σ8.length := by rw [← hw8, wipe_length]
        refine ⟨m', hm, i + 1, H', (I'.unpinned (pins := [])).weak hl (fun j v e => ?_), T.keep _ _ _ st7 fun b hb o e => (pin' b hb o e).1, fun b hb => ?_, w'⟩
        · rw [← hw8] at e
          exact (wipe_some e).1
        · obtain ⟨o, e, _⟩ := T.obj _ _ st7 b hb
          exact (pin' b hb o e).2
      cases b with
      | false =>
        simp only [Bool.false_eq_true, if_false] at q9 ⊢
        exact fin I9 q9
      | true =>
        simp only [if_true] at q9 ⊢
        refine thnF (pe.run _ s9 σ8 H9 _ I9 q9) fun z s10 ⟨yv, H10, I10, r10, acc, hD10, hz10, nx⟩ => ?_
        exact app_ok (X := blkH X s3 H3 scope ce fp) I10 hD10 hz10 r10 fun s11 I11 => fin I11 nx
  exact codeAny_compStart_list loop (T.self X.A 0 _ _ _ st4 loop)
theorem ps_setLcH {i : Nat} {y : Str} {py : Pos} {elt tg iter : Expr} {ifs : List Expr} {scope : Scope} {own : List (Str × Nat)} {pos spos : Pos} {wi : TI} {g : TG} {tt : TT} {te : TE} (hc : HotC X) (hN : X.N.Nodup) (hy : X.N[i]? = some y) (hyl : X.env.scope.names.lookup y = some .local)
    (hsw : swapsWith (.ListComp elt [⟨tg, iter, ifs, 0⟩] scope pos) (some (.Name y py)) spos.line X.env = pure true) (hi : PIH X tg iter wi) (ok : BlkOk X.N X.env.scope scope own)
    (hg : ∀ (s : Shared) (H : Hp) (C : Addr) (cl : List (Str × Addr)) (fp : List Addr), PG (blkH X s H scope (compEnvC scope cl C X.env) fp) tg g) (ht : ∀ (s : Shared) (H : Hp) (C : Addr) (cl : List (Str × Addr)) (fp : List Addr), PTs (blkH X s H scope (compEnvC scope cl C X.env) fp) ifs tt)
    (he : ∀ (s : Shared) (H : Hp) (C : Addr) (cl : List (Str × Addr)) (fp : List Addr), PE (blkH X s H scope (compEnvC scope cl C X.env) fp) elt te) (hs : ∀ x, foldedSetIterable iter X.env x = pure x := by intro _; rfl) :
    PS X (.Assign [.Name y py] (.ListComp elt [⟨tg, iter, ifs, 0⟩] scope pos) spos) (tAsg (tLc wi g tt te (own.map (·.2))) (gName i)) := by
  refine ⟨fun pins s σ H D I h => ?_⟩
  rw [exec_Assign_Name_used _ _ _ _ hsw]
  refine wpAny_bind (wpAny_standAt (wpAny_bind ?_))
  show wpAny _ X.A (do let _ ← comprehension (.ListComp elt [⟨tg, iter, ifs, 0⟩] scope pos) scope X.env (firstIterPos [⟨tg, iter, ifs, 0⟩] pos) (newList []) false (eval iter X.env) (some (assign (.Name y py) X.env))) _ _ s
  have h : tLc wi g tt te (own.map (·.2)) σ H (fun x H1 => gName i x σ H1 D.nx) := h
  refine wpAny_bind (thn (lc_coreH (Qf := fun _ s' => SP X pins D .next s') hc hN I hi ok hg ht he hs h fun L C s' m H' I' q hn f => ?_) fun _ s' hq => wpAny_pure (wpAny_pure hq))
  show wpAny _ _ (assign (.Name y py) X.env (.ref L)) _ _ _
  refine wpAny_assign_Name (store_ok2 (v := V.ref L) I' hN hy (.inl hyl) rfl (fun s2 I2 ⟨a, sb, ha⟩ => ?_) (.inr hyl))
  obtain ⟨f0, f1, f2, f3, f4, f5⟩ := f
  have haC : C ≠ a := by
    rcases ha with z | z
    · rw [z]; exact f1
    · exact fun e => f4 y a z e.symm
  refine ⟨m, hn.sameBut sb haC, fun h3 sb3 => ?_⟩
  exact ⟨_, H', I2.turned (t' := s2.toks) (fun b o hb e => (sb3.2 b hb).trans e) f0 f1 f3 f4 f5, q⟩
variable {g : G} {c : Fx} {W : WX} {cf : Py.CallF} {a b : Expr} {da db : Py.Dn} {p pos tpos : Pos} {elts : List Expr} {kk : Nat}
theorem PIH.imp {tg iter : Expr} {w1 w2 : TI} (x : PIH X tg iter w1) (f : ∀ σ H R, w2 σ H R → w1 σ H R) : PIH X tg iter w2 := ⟨fun pins s σ H R I h => x.run pins s σ H R I (f σ H R h)⟩
theorem si_zipH (hg : Gl X "zip") (hm : X.mg "zip" = none) (ha : PE X a (tD (gx X g) c W cf da)) (hb : PE X b (tD (gx X g) c W cf db)) (hs2 : starEach [b] X.env = [(false, eval b X.env)] := by rfl) (hs : starEach [a, b] X.env = (false, eval a X.env) :: starEach [b] X.env := by rfl) (hpl : (backTo pos (starEach [b] X.env)).any (·.1) = false := by rfl) :
    PIH X (.Tuple elts kk tpos) (.Call (.Name "zip" p) [a, b] [] pos) (tI (gx X g) c W cf (Py.iZip da db)) :=
  PIH.imp (pi_zipH hg hm (pa_cons ha (pa_cons hb pa_nil hs2) hs) hs hpl) fun _ _ _ => zip_of
end
end Sd

set_option autoImplicit false
set_option linter.all false
set_option maxRecDepth 100000
set_option maxHeartbeats 2000000
/-! SndQ: stores of several names, of items; sum, sorted, join. -/
namespace Sd
open PySem L2 PySem.Spec PyProof.Rows
section
variable {X : Cx} {g : G} {c : Fx} {W : WX} {cf : Py.CallF}
variable {a b e : Expr} {es elts : List Expr} {da db : Py.Dn} {as : Py.An} {pos p tpos : Pos} {kk : Nat}
variable {ρ ρ0 ρ1 ρ2 : Rho} {h h0 h1 h2 : CH} {H H0 H1 H2 : Hp} {env : Py.Ev} {σ : L2.St}
/-- the slots, one after the other -/
def sets : List (Nat × Bool) → List V → L2.St → L2.St
  | i :: is, v :: vs, σ => sets is vs (σ.set i.1 (some v))
  | _, _, σ => σ
theorem RRss.push {xs : List Sl} {vs : List V} {Hb : Hp} {a : Addr} {o : MO} (lv : live (ρ.push a) (h ++ [o]) = live ρ h) (ha : ∃ o, Hb a = some o) (r : RRss g c ρ h H Hb xs vs) : RRss g c (ρ.push a) (h ++ [o]) H Hb xs vs := by
  induction r with
  | nil => exact .nil
  | @cons H0 H1 x xs v vs q r z _ ih =>
    obtain ⟨o1, ha⟩ := ha
    refine .cons q ?_ z (ih (q a o1 ha))
    cases x with
    | d x => show RD _ _ _ _ _ _; rw [lv]; exact r
    | f x =>
      obtain ⟨b, e1, e2, e3, e4, e5⟩ := r
      exact ⟨b, e1, e2, ⟨e3, fun z => by rw [z, ha] at e2; cases e2⟩, by rw [lv]; exact e4, e5⟩
    | m i =>
      obtain ⟨b, as, e1, e2⟩ := r
      exact ⟨b, as, pre_get (List.prefix_append _ _) e1, e2⟩
    | clo f => show c.C _ _ _ _; rw [lv]; exact r
    | ex e => show c.C _ _ _ _; rw [lv]; exact r
    | no => exact r
theorem REnv.pushed {a : Addr} {o : MO} (lv : Sd.live (ρ.push a) (h ++ [o]) = Sd.live ρ h) (re : REnv g c ρ h H env σ) : REnv g c (ρ.push a) (h ++ [o]) H env σ := ⟨re.1, fun i x e => (re.2 i x e).imp id fun ⟨v, e1, r⟩ => ⟨v, e1, by
  cases x with
  | d x => show RD _ _ _ _ _ _; rw [lv]; exact r
  | m i =>
    obtain ⟨b, as, e1, e2⟩ := r
    exact ⟨b, as, pre_get (List.prefix_append _ _) e1, e2⟩
  | f x => exact r
  | clo f => show c.C _ _ _ _; rw [lv]; exact r
  | ex e => show c.C _ _ _ _; rw [lv]; exact r
  | no => exact r⟩⟩
/-- all are stored -/
theorem store_all : ∀ {is : List (Nat × Bool)} {xs : List Sl} {vs : List V} {Hb : Hp} {ρ1 : Rho} {h1 h2 : CH} {env env' : Py.Ev} {σ : L2.St}, Post g ρ h H ρ1 h1 H1 → (∀ a o, H a = some o → ∃ o', Hb a = some o') → (∀ a, ρ.p a → ∃ o, H a = some o) → RRss g c ρ1 h1 H1 Hb xs vs → REnv g c ρ1 h1 H1 env σ →
    Py.storeAll is xs env h1 = some (env', h2) → ∃ ρ2, Post g ρ h H ρ2 h2 H1 ∧ REnv g c ρ2 h2 H1 env' (sets is vs σ)
  | [], _, _, _, _, _, _, _, _, _, p, _, _, r, re, e => by
    cases r with
    | nil => simp only [Py.storeAll, Option.some.injEq, Prod.mk.injEq] at e; obtain ⟨rfl, rfl⟩ := e; exact ⟨_, p, re⟩
    | cons _ _ _ _ => simp [Py.storeAll] at e
  | (i, false) :: is, _, _, _, _, _, _, _, _, _, p, hb, hp, r, re, e => by
    cases r with
    | nil => simp [Py.storeAll] at e
    | @cons _ Hm x xs v vs q r z rr =>
      simp only [Py.storeAll] at e
      split at e
      · cases e
      · rename_i hf
        simp only [Py.frSl_eq] at e
        exact store_all (is := is) p (fun a o z => let ⟨_, z1⟩ := hb a o z; q a _ z1) hp rr (re.set i (r.sl (by simpa using hf))) e
  | (i, true) :: is, _, _, _, _, _, _, _, _, _, p, hb, hp, r, re, e => by
    cases r with
    | nil => simp [Py.storeAll] at e
    | @cons _ Hm x xs v vs q r z rr =>
      cases x with
      | f d =>
        simp only [Py.storeAll] at e
        cases ec : Py.cell d with
        | none => rw [ec] at e; cases e
        | some o =>
          rw [ec] at e
          obtain ⟨a, rfl, e2, e3, e4, e5⟩ := r
          obtain ⟨ro, ng⟩ := RO_of ec e4
          have n0 : ¬ ρ.p a := fun z => by
            obtain ⟨o, w⟩ := hp a z
            obtain ⟨o', w'⟩ := hb a o w
            rw [e2] at w'; cases w'
          have lv := live_push (o := o) p.st e3 ng
          have p2 := p.push n0 e3 ng ro
          have hm := z rfl a rfl
          refine store_all (is := is) p2 (fun a o z => let ⟨_, z1⟩ := hb a o z; q a _ z1) hp (rr.push lv hm) ((re.pushed lv).set i (x := .m _) ⟨a, [], ?_, rfl⟩) e
          show (_ ++ [[a]])[_]? = _
          rw [← p.st.len, List.getElem?_concat_length]
      | _ => simp [Py.storeAll] at e
theorem storeAll_len : ∀ {is : List (Nat × Bool)} {xs : List Sl} {env : Py.Ev} {h : CH} {r : Py.Ev × CH}, Py.storeAll is xs env h = some r → xs.length = is.length
  | [], [], _, _, _, _ => rfl
  | [], _ :: _, _, _, _, e => by simp [Py.storeAll] at e
  | (i, false) :: is, [], _, _, _, e => by simp [Py.storeAll] at e
  | (i, true) :: is, [], _, _, _, e => by simp [Py.storeAll] at e
  | (i, false) :: is, x :: xs, _, _, _, e => by
    simp only [Py.storeAll] at e
    split at e
    · cases e
    · simp only [Py.frSl_eq] at e
      simp [storeAll_len e]
  | (i, true) :: is, x :: xs, _, _, _, e => by
    cases x with
    | f d =>
      simp only [Py.storeAll] at e
      cases ec : Py.cell d with
      | none => rw [ec] at e; cases e
      | some o => rw [ec] at e; simp [storeAll_len e]
    | _ => simp [Py.storeAll] at e
theorem par_go {is : List (Nat × Bool)} {D : Ends} {Q : List V → Hp → Prop} (t : tS g c W cf (Py.sPar is as) D σ H) (q : ∀ vs H1, vs.length = is.length → (∀ H2, Same H1 H2 → D.nx (sets is vs σ) H2) → Q vs H1) : tA g c W cf as σ H Q := by
  obtain ⟨ρ, env, h, re, rs, e⟩ := t
  refine ⟨ρ, env, h, re, rs, (e.bind re rs).imp fun xs h1 e ρ1 vs H1 p r => ?_⟩
  cases es : Py.storeAll is xs env h1 with
  | none => rw [es] at e; exact e.elim
  | some eh =>
    obtain ⟨env', h2⟩ := eh
    simp only [es, Py.frL_eq] at e
    obtain ⟨ρ2, p2, re2⟩ := store_all p (fun a o z => ⟨o, z⟩) (fun a z => let ⟨o, w, _⟩ := (rs.pk a z).some; ⟨o, w⟩) r (re.keep p rs.noTup) es
    refine q vs H1 (by rw [← r.length]; exact storeAll_len es) fun H2 sm => ?_
    have pS := Post.same p2.st sm
    exact e ρ2 _ H2 (p2.trans pS) (re2.keep pS p2.st.noTup)
theorem ss_par2 {i j : Nat} {bi bj : Bool} {x y : Str} {px py pt : Pos} {kt k2 : Nat} {pt2 : Pos} (hc : X.calm = true) (hN : X.N.Nodup) (hi : X.N[i]? = some x) (hj : X.N[j]? = some y) (hij : i ≠ j) (hx : X.env.scope.names.lookup x = some .local) (hy : X.env.scope.names.lookup y = some .local)
    (hw : swappedStores [.Tuple [.Name x px, .Name y py] kt pt] (.Tuple [a, b] k2 pt2) X.env = pure (some [x, y])) (hs : swapsWithSole [.Tuple [.Name x px, .Name y py] kt pt] (.Tuple [a, b] k2 pt2) pos.line X.env = pure false) (ha : PA X [a, b] (tA g c W cf as)) :
    PS X (.Assign [.Tuple [.Name x px, .Name y py] kt pt] (.Tuple [a, b] k2 pt2) pos) (tS g c W cf (Py.sPar [(i, bi), (j, bj)] as)) :=
  (ps_par hc hN hi hj hij hx hy ha hw hs).imp fun D σ H t => par_go t fun vs H1 hl q => by
    match vs, hl with
    | [v, w], _ => exact ⟨v, w, rfl, q H1 (Same.refl _)⟩
theorem ss_par3 {i j l : Nat} {bi bj bl : Bool} {x y z : Str} {cc : Expr} {px py pz pt : Pos} {kt k2 : Nat} {pt2 : Pos} (hc : X.calm = true) (hN : X.N.Nodup) (hi : X.N[i]? = some x) (hj : X.N[j]? = some y) (hl : X.N[l]? = some z) (hij : i ≠ j) (hil : i ≠ l) (hjl : j ≠ l)
    (hx : X.env.scope.names.lookup x = some .local) (hy : X.env.scope.names.lookup y = some .local) (hz : X.env.scope.names.lookup z = some .local)
    (hw : swappedStores [.Tuple [.Name x px, .Name y py, .Name z pz] kt pt] (.Tuple [a, b, cc] k2 pt2) X.env = pure (some [x, y, z])) (hs : swapsWithSole [.Tuple [.Name x px, .Name y py, .Name z pz] kt pt] (.Tuple [a, b, cc] k2 pt2) pos.line X.env = pure false) (ha : PA X [a, b, cc] (tA g c W cf as)) :
    PS X (.Assign [.Tuple [.Name x px, .Name y py, .Name z pz] kt pt] (.Tuple [a, b, cc] k2 pt2) pos) (tS g c W cf (Py.sPar [(i, bi), (j, bj), (l, bl)] as)) :=
  (ps_par3 hc hN hi hj hl hij hil hjl hx hy hz ha hw hs).imp fun D σ H t => par_go t fun vs H1 hl q => by
    match vs, hl with
    | [u, v, w], _ => exact ⟨u, v, w, rfl, q H1 (Same.refl _)⟩
/-- the targets are names -/
def tNames : List (Nat × Bool) → TGs
  | [] => L2.gNil
  | i :: is => L2.gCons (L2.gName i.1) (tNames is)
theorem tNames_of : ∀ (is : List (Nat × Bool)) (vs : List V) (σ : L2.St) (H : Hp) (Q : L2.St → Hp → Prop), vs.length = is.length → Q (sets is vs σ) H → tNames is vs σ H Q
  | [], [], σ, H, Q, _, q => ⟨rfl, q⟩
  | i :: is, v :: vs, σ, H, Q, hl, q => ⟨v, vs, rfl, tNames_of is vs _ H Q (by simpa using hl) q⟩
  | [], _ :: _, _, _, _, hl, _ => by simp at hl
  | _ :: _, [], _, _, _, hl, _ => by simp at hl
theorem sn_nil : PGs X [] (tNames []) := pgs_nil
theorem sn_cons {i : Nat} {bi : Bool} {is : List (Nat × Bool)} {x : Str} {px : Pos} (hN : X.N.Nodup) (hi : X.N[i]? = some x) (hx : Loc X.env.scope x) (h2 : PGs X es (tNames is)) (hf : X.fn x = true ∨ X.env.scope.names.lookup x = some .local := by first | exact .inl rfl | exact .inr rfl | assumption)
    (hs : (assignEach (.Name x px :: es) X.env).map (·.2) = assign (.Name x px) X.env :: (assignEach es X.env).map (·.2) := by rfl) : PGs X (.Name x px :: es) (tNames ((i, bi) :: is)) := pgs_cons (pg_name hN hi hx hf) h2 hs
theorem ss_parN {is : List (Nat × Bool)} {ts vs : List Expr} {kt k2 : Nat} {pt pt2 : Pos} (hc : X.calm = true) (hg : PGs X ts (tNames is)) (hn : (assignEach ts X.env).length = is.length) (hst : (assignEach ts X.env).findIdx? (·.1) = none)
    (hs : swapsWithSole [.Tuple ts kt pt] (.Tuple vs k2 pt2) pos.line X.env = pure false) (hw : swappedStores [.Tuple ts kt pt] (.Tuple vs k2 pt2) X.env = pure none) (h1 : (assignEach [.Tuple ts kt pt] X.env).map (·.2) = [assign (.Tuple ts kt pt) X.env])
    (hz : is.length ≤ sizeLine) (ha : PA X vs (tA g c W cf as)) : PS X (.Assign [.Tuple ts kt pt] (.Tuple vs k2 pt2) pos) (tS g c W cf (Py.sPar is as)) :=
  (ps_asg (pe_tup ha) (pg_tup hc hg hn hst) hs hw h1).imp fun D σ H t => par_go t fun vs H1 hl q => ⟨by rw [hl]; exact hz, fun p hp => ⟨p, vs, rfl, .inl (.inl upd_same), hl, tNames_of is vs σ _ _ hl (q _ (same_upd hp))⟩⟩

theorem place_ixN {n : Nat} {i : Int} {k : Nat} (h : Py.place n i = some k) : ixN n i = some k := by
  unfold ixN
  cases i with
  | ofNat m =>
    simp only [Py.place] at h
    split at h
    · rename_i hm
      cases h
      have hm := Nat.blt_eq.mp hm
      have h0 : (0 : Int) ≤ Int.ofNat k := Int.natCast_nonneg k
      have h1 : Int.ofNat k < (n : Int) := Int.ofNat_lt.mpr hm
      rw [if_pos h0, if_pos h1]
      rfl
    · cases h
  | negSucc m =>
    simp only [Py.place] at h
    split at h
    · rename_i hm
      cases h
      have hm := Nat.blt_eq.mp hm
      have h0 : ¬ (0 : Int) ≤ Int.negSucc m := by rw [Int.negSucc_eq]; omega
      have h1 : -(n : Int) ≤ Int.negSucc m := by rw [Int.negSucc_eq]; omega
      rw [if_neg h0, if_pos h1, Int.negSucc_eq]
      congr 1
      omega
    · cases h
theorem RDs.setAt {K : PySem.W.Frag} {fa : Nat → Addr} {M : Addr → Prop} {d : D} {v : V} (rd : RD K fa M H d v) : ∀ {ds : List D} {vs : List V} {i : Nat}, RDs K fa M H ds vs → RDs K fa M H (ds.set i d) (vs.set i v)
  | _, _, _, .nil => by simp; exact .nil
  | _, _, 0, .cons r rr => .cons rd rr
  | _, _, i + 1, .cons r rr => .cons r (RDs.setAt rd rr)
/-! xs[i] = e -/
theorem ss_setI {i : Nat} {x : Str} {p2 : Pos} {tp : Pos} {k v : Expr} {dk dv : Py.Dn} (hN : X.N[i]? = some x) (hv : Vis X.env.scope x) (hk : PE X k (tD (gx X g) c W cf dk)) (he : PE X v (tD (gx X g) c W cf dv)) (hd : (x == ("__debug__" : Str)) = false := by decide) (hcd : (x == ("__classdict__" : Str)) = false := by decide)
    (hs : swapsWithSole [.Subscript (.Name x p2) k tp] v pos.line X.env = pure false := by rfl) (hw : swappedStores [.Subscript (.Name x p2) k tp] v X.env = pure none := by rfl)
    (h1 : (assignEach [.Subscript (.Name x p2) k tp] X.env).map (·.2) = [assign (.Subscript (.Name x p2) k tp) X.env] := by rfl)
    (hasg : ∀ v, assign (.Subscript (.Name x p2) k tp) X.env v = (do
      let ov ← holding [v] (eval (.Name x p2) X.env)
      let iv ← holding [v, ov] (eval k X.env)
      standAt tp
      holding [v, ov, iv] (setItem ov iv v)
      release [v, ov, iv] []) := by intro _; rfl) :
    PS X (.Assign [.Subscript (.Name x p2) k tp] v pos) (tS (gx X g) c W cf (Py.sSetI i dk dv)) :=
  (ps_asg he (pg_sub (pe_var hN hv hd hcd) hk set_list hasg) hs hw h1).imp fun D σ H ⟨ρ, env, h, re, rs, e⟩ => by
    refine tD.goS re rs e fun x h1 ρ1 v H1 p1 r1 re1 e => ?_
    simp only [Py.nth_eq] at e
    cases q : env[i]? with
    | none => rw [q] at e; exact e.elim
    | some y =>
      rw [q] at e
      cases y with
      | m kc =>
        simp only at e
        rcases re1.2 i _ q with z | ⟨v0, e2, a', as', e3, rfl⟩
        · cases z
        · refine ⟨_, e2, tD.goS re1 p1.st e fun y h2 ρ2 w H2 p2 r2 re2 e => ?_⟩
          cases qx : Py.pd x with
          | none => simp only [qx] at e; exact e.elim
          | some d =>
            cases qy : Py.pd y with
            | none => simp only [qx, qy] at e; exact e.elim
            | some j =>
              simp only [qx, qy] at e
              cases qo : h2[kc]? with
              | none => rw [qo] at e; exact e.elim
              | some ob =>
                rw [qo] at e
                cases ob with
                | ml xs =>
                  cases j with
                  | int ii =>
                    simp only [Py.mSetItem] at e
                    cases qp : Py.place xs.length ii with
                    | none => rw [qp] at e; exact e.elim
                    | some pl =>
                      simp only [qp, Py.frL_eq, Py.setAt_eq] at e
                      have e3' := pre_get p2.pre e3
                      obtain ⟨b', ws, z, q3, q4⟩ := p2.st.cell kc _ _ qo e3'
                      cases z
                      have rd := RSt.pd (r1.keep p2 p1.st.noTup) qx
                      have ix : ixN ws.length ii = some pl := by rw [← q4.length]; exact place_ixN qp
                      refine ⟨_, ws, ii, pl, rfl, RD.int' (RSt.pd r2 qy), q3, ix, ?_⟩
                      have la : live ρ2 h2 a' := .inl ⟨kc, _, _, e3', qo, rfl, by simp⟩
                      have fr : Frm (live ρ2 h2) H2 (upd H2 a' (.lst (ws.set pl v))) := ⟨fun b o e n _ => by rw [upd_ne (fun z => n (by rw [z]; exact la))]; exact e, fun b o e => by
                        by_cases hb : b = a'
                        · exact ⟨_, by rw [hb, upd_same]⟩
                        · exact ⟨o, by rw [upd_ne hb]; exact e⟩⟩
                      have rs' : RDs X.K g.fa (live ρ2 h2) H2 (xs.set pl d) (ws.set pl v) := RDs.setAt rd q4
                      have pc := Post.cell (u := .lst (ws.set pl v)) (o' := .ml (xs.set pl d)) p2.st qo e3' rfl rfl (.inl ⟨_, q3⟩) ⟨a', _, rfl, upd_same, RDs.keep fr p2.st.noTup (fun _ z => .inl z) rs'⟩
                      exact e ρ2 σ _ pc (re2.keep pc p2.st.noTup)
                  | _ => simp [Py.mSetItem] at e; exact e.elim
                | _ => simp [Py.mSetItem] at e; exact e.elim
      | _ => exact e.elim
end
end Sd

set_option autoImplicit false
set_option linter.all false
set_option maxRecDepth 100000
set_option maxHeartbeats 2000000
/-! SndQ2: sum, sorted, str. -/
namespace Sd
open PySem L2 PySem.Spec PyProof.Rows
section
variable {X : Cx} {g : G}
theorem sumI_eq : ∀ {xs : List D} {i r : Int}, Py.sumI i xs = some r → ∃ ns : List Int, xs = ns.map Py.D.int ∧ r = i + ns.sum
  | [], i, r, e => by simp only [Py.sumI, Option.some.injEq] at e; exact ⟨[], rfl, by simp [e]⟩
  | x :: xs, i, r, e => by
    cases x with
    | int j =>
      simp only [Py.sumI, Py.frInt_eq] at e
      obtain ⟨ns, rfl, rfl⟩ := sumI_eq e
      exact ⟨j :: ns, rfl, by simp [Int.add_assoc]⟩
    | _ => simp [Py.sumI] at e
theorem ints_vals {K : PySem.W.Frag} {fa : Nat → Addr} {M : Addr → Prop} {H : Hp} : ∀ {ns : List Int} {vs : List V}, RDs K fa M H (ns.map Py.D.int) vs → vs = ns.map V.int
  | [], _, .nil => rfl
  | n :: ns, _, .cons r rr => by rw [RD.int' (g := ⟨K, fa, fa, []⟩) r, ints_vals rr]; rfl
theorem ints_rds {K : PySem.W.Frag} {fa : Nat → Addr} {M : Addr → Prop} {H : Hp} : ∀ ns : List Int, RDs K fa M H (ns.map Py.D.int) (ns.map V.int)
  | [] => .nil
  | n :: ns => .cons (.int n) (ints_rds ns)
theorem sc_sum (hc : X.calm = true) : CallR X (.builtin "sum") (rC1 (gx X g) Py.vSum) := by
  intro pins s σ H xs us Q I rr h
  obtain ⟨M, x, d, r, rfl, n, rd, f, q⟩ := h
  cases d with
  | lst ds =>
    obtain ⟨a, vs, rfl, h1, r1⟩ := rd
    simp only [Py.vSum] at f
    cases e : Py.sumI 0 ds with
    | none => rw [e] at f; cases f
    | some i =>
      rw [e] at f; cases f
      obtain ⟨ns, rfl, rfl⟩ := sumI_eq e
      have := ints_vals r1
      subst this
      refine cr_sum hc pins s σ H _ us Q I rr ⟨a, ns, rfl, SqL.of h1, ?_⟩
      have := q _ H (Same.refl H) (.int _)
      simpa using this
  | _ => simp [Py.vSum] at f
theorem ints_map : ∀ {xs : List D} {is : List Int}, Py.intL xs = some is → xs = is.map Py.D.int
  | [], _, e => by simp only [Py.intL, Option.some.injEq] at e; subst e; rfl
  | x :: xs, _, e => by
    cases x with
    | int j =>
      simp only [Py.intL] at e
      cases q : Py.intL xs with
      | none => rw [q] at e; cases e
      | some is => rw [q] at e; cases e; rw [ints_map q]; rfl
    | _ => simp [Py.intL] at e
theorem insI_perm (x : Int) : ∀ xs : List Int, (Py.insI x xs).Perm (x :: xs)
  | [] => .refl _
  | y :: ys => by
    rw [Py.insI]
    split
    · exact .refl _
    · exact ((insI_perm x ys).cons y).trans (.swap x y ys)
theorem sortI_perm : ∀ xs acc : List Int, (Py.sortI xs acc).Perm (xs ++ acc)
  | [], acc => .refl _
  | x :: xs, acc => by
    rw [Py.sortI]
    refine (sortI_perm xs _).trans (((insI_perm x acc).append_left xs).trans ?_)
    exact List.perm_middle
theorem insI_sorted (x : Int) : ∀ xs : List Int, xs.Pairwise (· ≤ ·) → (Py.insI x xs).Pairwise (· ≤ ·)
  | [], _ => by simp [Py.insI]
  | y :: ys, h => by
    rw [Py.insI]
    have h2 := List.pairwise_cons.mp h
    split
    · rename_i hl
      rw [Py.ilt_eq] at hl
      have hl := of_decide_eq_true hl
      refine List.pairwise_cons.mpr ⟨fun z hz => ?_, h⟩
      rcases List.mem_cons.mp hz with rfl | hz
      · omega
      · have := h2.1 z hz; omega
    · rename_i hl
      have hl : ¬ x < y := fun z => hl (by rw [Py.ilt_eq]; exact decide_eq_true z)
      refine List.pairwise_cons.mpr ⟨fun z hz => ?_, insI_sorted x ys h2.2⟩
      rcases List.mem_cons.mp ((insI_perm x ys).mem_iff.mp hz) with rfl | hz
      · omega
      · exact h2.1 z hz
theorem sortI_sorted : ∀ xs acc : List Int, acc.Pairwise (· ≤ ·) → (Py.sortI xs acc).Pairwise (· ≤ ·)
  | [], acc, h => h
  | x :: xs, acc, h => by rw [Py.sortI]; exact sortI_sorted xs _ (insI_sorted x acc h)
theorem sc_sorted : CallR X (.builtin "sorted") (rC1N (gx X g) Py.vSorted) := by
  intro pins s σ H xs us Q I rr h
  obtain ⟨M, x, d, r, rfl, n, rd, f, q⟩ := h
  cases d with
  | lst ds =>
    obtain ⟨a, vs, rfl, h1, r1⟩ := rd
    simp only [Py.vSorted] at f
    cases e : Py.intL ds with
    | none => rw [e] at f; cases f
    | some ns =>
      rw [e] at f; cases f
      have := ints_map e
      subst this
      have := ints_vals r1
      subst this
      refine cr_sortedI pins s σ H _ us Q I rr ⟨a, ns, rfl, SqL.of h1, fun ns' p pm ps hp => ?_⟩
      have ee : ns' = Py.sortI ns [] := List.Perm.eq_of_pairwise (le := (· ≤ ·)) (fun a b _ _ h1 h2 => by omega) ps (sortI_sorted ns [] .nil) (pm.trans (by simpa using (sortI_perm ns []).symm))
      subst ee
      exact q _ _ (same_upd hp) ((ints_rds _).nwLst n hp)
  | _ => simp [Py.vSorted] at f
theorem sc_str : CallR X (.type "str") (rC1 (gx X g) Py.vStr) := by
  intro pins s σ H xs us Q I rr h
  obtain ⟨M, x, d, r, rfl, n, rd, f, q⟩ := h
  cases d with
  | str z =>
    cases f
    rw [RT.str' rd] at rr
    exact SkE.call_str_str pins s σ H _ us Q I rr ⟨_, rfl, q _ H (Same.refl H) (.str z)⟩
  | _ => simp [Py.vStr] at f
end
end Sd

set_option autoImplicit false
set_option linter.all false
set_option maxRecDepth 100000
set_option maxHeartbeats 4000000
/-! SndL: list(zip(x, y)). -/
namespace Sd
open PySem L2 PySem.Spec PyProof.Rows
section
variable {prog : Program} {w : World} {A : Around} {E : Value → Shared → Prop} {s : Shared} {z TI TO T i1 i2 : Addr} {fp1 fp2 : List Addr} {n1 n2 i : Nat} {P1 P2 : Nat → Value → Prop} {St1 St2 : Nat → Heap → Prop} {fl : Bool} {oT : Obj}
/-- a further pair of a zip whose last pair is still held -/
theorem heldD_item {Q : Value → Shared → Prop} (S : ZipSep2 z TI TO i1 i2 fp1 fp2) (D1 : Draws prog w A i1 fp1 n1 P1 St1) (D2 : Draws prog w A i2 fp2 n2 P2 St2) (hz : IsZipHeld s.heap z TI TO T fl) (hT : s.heap.get? T = some oT) (hTI : IsTupOf2 s.heap TI (.ref i1) (.ref i2))
    (st1 : St1 i s.heap) (st2 : St2 i s.heap) (l1 : i < n1) (l2 : i < n2)
    (hQ : ∀ x1 x2 h' tk, P1 i x1 → P2 i x2 → IsZipHeld h' z TI TO T true → St1 (i + 1) h' → St2 (i + 1) h' → IsTupOf2 h' s.heap.objs.size x1 x2 → h'.objs.size = s.heap.objs.size + 1 → (∀ b o, b ≠ z → b ≠ i1 → b ≠ i2 → s.heap.get? b = some o → h'.get? b = some o) → Q (.ref s.heap.objs.size) { s with heap := h', toks := tk }) :
    wpAny (model prog w) A (Builtin.«zip.__next__» ⟨[.ref z], []⟩) (fun fin s' => ∃ v, fin = .done (.ret v) ∧ Q v s') E s := by
  obtain ⟨hp, gs, dr, tk0, os⟩ := s
  show wpAny _ _ (field (.ref z) 2 >>= _) _ _ _
  refine wpAny_bind (wpAny_field hz rfl (x := .bool false) rfl ?_)
  show wpAny _ _ (field (.ref z) 3 >>= _) _ _ _
  refine wpAny_bind (wpAny_field hz rfl (x := .ref TI) rfl ?_)
  refine wpAny_bind (wpAny_seqItems hTI rfl ?_)
  show wpAny _ _ (Builtin.SmallTypes.ownedTupleIsFree (.ref z) >>= _) _ _ _
  refine wpAny_bind (wpAny_tupleHeld_zip hz hT fun g0 hz0 sm0 => ?_)
  replace sm0 : Heap.SameBut z hp g0 := sm0
  simp only [Bool.false_eq_true, if_false]
  refine wpAny_bind ?_
  rw [← Array.forIn_toList]
  simp only [List.forIn_cons, List.forIn_nil]
  refine wpAny_bind (wpAny_bind (wpAny_holding ?_))
  show wpAny _ _ (Builtin.SmallTypes.nextOf (.ref i1) >>= _) _ _ ⟨g0, gs, dr, tk0, os⟩
  refine wpAny_bind (D1.item i _ _ _ l1 (D1.over st1 sm0 S.zf1) fun x1 g1 tk1 px1 sn1 sm1 => wpAny_pure ?_)
  replace sm1 : Heap.SameBut i1 g0 g1 := sm1
  refine wpAny_pure ?_
  refine wpAny_bind (wpAny_bind (wpAny_holding ?_))
  show wpAny _ _ (Builtin.SmallTypes.nextOf (.ref i2) >>= _) _ _ ⟨g1, gs, dr, tk1, os⟩
  refine wpAny_bind (D2.item i _ _ _ l2 (D2.over (D2.over st2 sm0 S.zf2) sm1 S.sep1_2) fun x2 g2 tk2 px2 sn2 sm2 => wpAny_pure ?_)
  replace sm2 : Heap.SameBut i2 g1 g2 := sm2
  refine wpAny_pure (wpAny_pure ?_)
  show wpAny _ _ (newTuple [x1, x2] >>= _) _ _ ⟨g2, gs, dr, tk2, os⟩
  refine wpAny_bind (wpAny_newTuple ?_)
  have size2 : g2.objs.size = hp.objs.size := by rw [sm2.1, sm1.1, sm0.1]
  have zip2 : IsZipHeld g2 z TI TO T true := sm2.extBut _ _ S.zi2 (sm1.extBut _ _ S.zi1 hz0)
  have kept : ∀ b o, b ≠ z → b ≠ i1 → b ≠ i2 → hp.get? b = some o → g2.get? b = some o := fun b o b1 b2 b3 e => sm2.extBut _ _ b3 (sm1.extBut _ _ b2 (sm0.extBut _ _ b1 e))
  refine wpAny_pure ⟨_, rfl, ?_⟩
  show Q (.ref g2.objs.size) _
  have pair : IsTupOf2 (g2.push { cls := .type "tuple", data := .seq #[x1, x2] }) g2.objs.size x1 x2 := Heap.get?_push_size _ rfl
  have size3 : (g2.push { cls := .type "tuple", data := .seq #[x1, x2] }).objs.size = g2.objs.size + 1 := Heap.size_push ..
  have up : ∀ b o, g2.get? b = some o → (g2.push { cls := .type "tuple", data := .seq #[x1, x2] }).get? b = some o := fun b o e => Heap.get?_push_of_some _ e
  rw [size2] at pair size3 ⊢
  exact hQ x1 x2 _ tk2 px1 px2 (up _ _ zip2) (D1.frame _ _ _ (D1.over sn1 sm2 S.sep2_1) fun b _ o e => up b o e) (D2.frame _ _ _ sn2 fun b _ o e => up b o e) pair size3 fun b o b1 b2 b3 e => up b o (kept b o b1 b2 b3 e)
theorem heldD_end {Q : Fin → Shared → Prop} (S : ZipSep2 z TI TO i1 i2 fp1 fp2) (D1 : Draws prog w A i1 fp1 n1 P1 St1) (D2 : Draws prog w A i2 fp2 n2 P2 St2) (hz : IsZipHeld s.heap z TI TO T fl) (hT : s.heap.get? T = some oT) (hTI : IsTupOf2 s.heap TI (.ref i1) (.ref i2))
    (st1 : St1 i s.heap) (st2 : St2 i s.heap) (le1 : i ≤ n1) (le2 : i ≤ n2) (hend : i = n1 ∨ i = n2)
    (hE : ∀ h' tk e, (∀ b o, b ≠ z → b ≠ i1 → b ≠ i2 → s.heap.get? b = some o → h'.get? b = some o) → (∃ o, h'.get? e = some o ∧ o.cls = .type "StopIteration") → E (.ref e) { s with heap := h', toks := tk }) :
    wpAny (model prog w) A (Builtin.«zip.__next__» ⟨[.ref z], []⟩) Q E s := by
  obtain ⟨hp, gs, dr, tk0, os⟩ := s
  show wpAny _ _ (field (.ref z) 2 >>= _) _ _ _
  refine wpAny_bind (wpAny_field hz rfl (x := .bool false) rfl ?_)
  show wpAny _ _ (field (.ref z) 3 >>= _) _ _ _
  refine wpAny_bind (wpAny_field hz rfl (x := .ref TI) rfl ?_)
  refine wpAny_bind (wpAny_seqItems hTI rfl ?_)
  show wpAny _ _ (Builtin.SmallTypes.ownedTupleIsFree (.ref z) >>= _) _ _ _
  refine wpAny_bind (wpAny_tupleHeld_zip hz hT fun g0 hz0 sm0 => ?_)
  replace sm0 : Heap.SameBut z hp g0 := sm0
  simp only [Bool.false_eq_true, if_false]
  refine wpAny_bind ?_
  rw [← Array.forIn_toList]
  simp only [List.forIn_cons, List.forIn_nil]
  refine wpAny_bind (wpAny_bind (wpAny_holding ?_))
  show wpAny _ _ (Builtin.SmallTypes.nextOf (.ref i1) >>= _) _ _ ⟨g0, gs, dr, tk0, os⟩
  by_cases l1 : i < n1
  · have e2 : i = n2 := by omega
    refine wpAny_bind (D1.item i _ _ _ l1 (D1.over st1 sm0 S.zf1) fun x1 g1 tk1 px1 sn1 sm1 => wpAny_pure ?_)
    replace sm1 : Heap.SameBut i1 g0 g1 := sm1
    refine wpAny_pure ?_
    refine wpAny_bind (wpAny_bind (wpAny_holding ?_))
    show wpAny _ _ (Builtin.SmallTypes.nextOf (.ref i2) >>= _) _ _ ⟨g1, gs, dr, tk1, os⟩
    refine wpAny_bind (D2.done ⟨g1, gs, dr, tk1, os⟩ _ _ (by rw [← e2]; exact D2.over (D2.over st2 sm0 S.zf2) sm1 S.sep1_2) fun g2 e sm2 he => ?_)
    replace sm2 : Heap.ExtBut i2 g1 g2 := sm2
    exact hE g2 tk1 e (fun b o b1 b2 b3 x => sm2 _ _ b3 (sm1.extBut _ _ b2 (sm0.extBut _ _ b1 x))) he
  · have e1 : i = n1 := by omega
    refine wpAny_bind (D1.done ⟨g0, gs, dr, tk0, os⟩ _ _ (by rw [← e1]; exact D1.over st1 sm0 S.zf1) fun g2 e sm2 he => ?_)
    replace sm2 : Heap.ExtBut i1 g0 g2 := sm2
    exact hE g2 tk0 e (fun b o b1 b2 _ x => sm2 _ _ b2 (sm0.extBut _ _ b1 x)) he
end
section
variable {prog : Program} {w : World} {A : Around} {E : Value → Shared → Prop} {s : Shared} {z TI TO T i1 i2 : Addr} {fp1 fp2 : List Addr} {n1 n2 i : Nat} {P1 P2 : Nat → Value → Prop} {St1 St2 : Nat → Heap → Prop} {fl : Bool} {oT : Obj}
theorem nextHeld_item {Q : Option Value → Shared → Prop} (S : ZipSep2 z TI TO i1 i2 fp1 fp2) (D1 : Draws prog w A.in1 i1 fp1 n1 P1 St1) (D2 : Draws prog w A.in1 i2 fp2 n2 P2 St2) (hz : IsZipHeld s.heap z TI TO T fl) (hT : s.heap.get? T = some oT) (hTI : IsTupOf2 s.heap TI (.ref i1) (.ref i2))
    (st1 : St1 i s.heap) (st2 : St2 i s.heap) (l1 : i < n1) (l2 : i < n2)
    (hQ : ∀ x1 x2 h' tk, P1 i x1 → P2 i x2 → IsZipHeld h' z TI TO T true → St1 (i + 1) h' → St2 (i + 1) h' → IsTupOf2 h' s.heap.objs.size x1 x2 → h'.objs.size = s.heap.objs.size + 1 → (∀ b o, b ≠ z → b ≠ i1 → b ≠ i2 → s.heap.get? b = some o → h'.get? b = some o) → Q (some (.ref s.heap.objs.size)) { s with heap := h', toks := tk }) :
    wpAny (model prog w) A (pyNext (.ref z)) Q E s := by
  have ty : s.TypeIs (.ref z) "zip" := ⟨_, hz, rfl⟩
  unfold pyNext
  exact wpAny_bind (wpAny_attempt (wpAny_callSpecial?_slot (name := Str.ofString "__next__") ty F.slot_zip_next (wpAny_call_entry F.slot_zip_next ty F.entry_zip_next
    (heldD_item S D1 D2 hz hT hTI st1 st2 l1 l2 fun x1 x2 h' tk a b c d e f q k => wpAny_pure (hQ x1 x2 h' tk a b c d e f q k)) (F.args_zip_next_1 _))))
theorem nextHeld_end {Q : Option Value → Shared → Prop} (S : ZipSep2 z TI TO i1 i2 fp1 fp2) (D1 : Draws prog w A.in1 i1 fp1 n1 P1 St1) (D2 : Draws prog w A.in1 i2 fp2 n2 P2 St2) (hz : IsZipHeld s.heap z TI TO T fl) (hT : s.heap.get? T = some oT) (hTI : IsTupOf2 s.heap TI (.ref i1) (.ref i2))
    (st1 : St1 i s.heap) (st2 : St2 i s.heap) (le1 : i ≤ n1) (le2 : i ≤ n2) (hend : i = n1 ∨ i = n2)
    (hQ : ∀ h' tk, (∀ b o, b ≠ z → b ≠ i1 → b ≠ i2 → s.heap.get? b = some o → h'.get? b = some o) → Q none { s with heap := h', toks := tk }) : wpAny (model prog w) A (pyNext (.ref z)) Q E s := by
  have ty : s.TypeIs (.ref z) "zip" := ⟨_, hz, rfl⟩
  unfold pyNext
  refine wpAny_bind (wpAny_attempt (wpAny_callSpecial?_slot (name := Str.ofString "__next__") ty F.slot_zip_next (wpAny_call_entry F.slot_zip_next ty F.entry_zip_next
    (heldD_end S D1 D2 hz hT hTI st1 st2 le1 le2 hend fun h' tk e kp he => ?_) (F.args_zip_next_1 _))))
  obtain ⟨o, ho, hc⟩ := he
  exact wpAny_bind (wpAny_isInstance (T := "StopIteration") (b := true) ⟨o, ho, hc⟩ isSubtype_stop (wpAny_pure (hQ _ _ kp)))
end
/-! ### the loop that fills the list -/
/-- the zip, fresh or with its last pair held -/
def zNow (N S : Nat) (h : Heap) (i : Nat) : Prop := (i = 0 ∧ IsZip h (N + 4) (N + 2) (N + 3) .none ∧ ∃ u v, IsTupOf2 h (N + 3) u v) ∨ ∃ (T : Nat) (fl : Bool) (oT : Obj), IsZipHeld h (N + 4) (N + 2) (N + 3) T fl ∧ h.get? T = some oT ∧ T ≠ N + 4 ∧ T ≠ N ∧ T ≠ N + 1 ∧ T ≠ S
/-- the pairs that were given out -/
structure Given (h : Heap) (B : Nat) (its1 its2 : Array Value) (Ts : List Nat) : Prop where
  inc : Ts.Pairwise (· < ·)
  low : ∀ T ∈ Ts, B ≤ T ∧ T < h.objs.size
  at_ : ∀ (j T : Nat), Ts[j]? = some T → ∃ x1 x2, its1[j]? = some x1 ∧ its2[j]? = some x2 ∧ IsTupOf2 h T x1 x2
structure LoopZ (N S B : Nat) (k1 k2 : Bool) (a1 a2 : Nat) (its1 its2 : Array Value) (h : Heap) (Ts : List Nat) : Prop where
  lst : ∃ c, h.get? S = some { cls := .type "list", dict := none, data := .seq (Ts.map Value.ref).toArray c, slots := #[] }
  zip : zNow N S h Ts.length
  tin : IsTupOf2 h (N + 2) (.ref N) (.ref (N + 1))
  it1 : ItK k1 h N a1 Ts.length
  it2 : ItK k2 h (N + 1) a2 Ts.length
  s1 : IsK k1 h a1 its1
  s2 : IsK k2 h a2 its2
  giv : Given h B its1 its2 Ts
/-- what may have changed -/
abbrev zWr (N S : Nat) : List Nat := [S, N + 4, N + 3, N, N + 1]
section
variable {prog : Program} {w : World} {A : Around} {R : Result → Shared → Prop} {N S B a1 a2 : Nat} {k1 k2 : Bool} {its1 its2 : Array Value} {n : Nat} {res : Value}
theorem Given.keep {h h' : Heap} {Ts : List Nat} (x : Given h B its1 its2 Ts) (hs : h.objs.size ≤ h'.objs.size) (k : ∀ b ∈ Ts, ∀ o, h.get? b = some o → h'.get? b = some o) : Given h' B its1 its2 Ts :=
  ⟨x.inc, fun T hT => ⟨(x.low T hT).1, Nat.lt_of_lt_of_le (x.low T hT).2 hs⟩, fun j T e => let ⟨x1, x2, e1, e2, q⟩ := x.at_ j T e; ⟨x1, x2, e1, e2, k T (List.mem_of_getElem? e) _ q⟩⟩
theorem Given.snoc {h : Heap} {Ts : List Nat} {T : Nat} {x1 x2 : Value} (x : Given h B its1 its2 Ts) (hb : B ≤ T) (lt : ∀ b ∈ Ts, b < T) (hT : IsTupOf2 h T x1 x2) (e1 : its1[Ts.length]? = some x1) (e2 : its2[Ts.length]? = some x2) : Given h B its1 its2 (Ts ++ [T]) where
  inc := List.pairwise_append.mpr ⟨x.inc, List.pairwise_singleton _ _, fun a ha b hb => by rw [List.mem_singleton.mp hb]; exact lt a ha⟩
  low := fun b hb' => by
    rcases List.mem_append.mp hb' with q | q
    · exact x.low b q
    · rw [List.mem_singleton.mp q]; exact ⟨hb, Heap.lt_size hT⟩
  at_ := fun j b e => by
    by_cases hj : j < Ts.length
    · rw [List.getElem?_append_left hj] at e
      exact x.at_ j b e
    · have : j = Ts.length := by
        have := (List.getElem?_eq_some_iff.mp e).1
        simp at this; omega
      subst this
      rw [List.getElem?_concat_length] at e
      cases e
      exact ⟨x1, x2, e1, e2, hT⟩
/-- a pair more -/
theorem LoopZ.step {s : Shared} {E : Value → Shared → Prop} {Ts : List Nat} {Q : Option Value → Shared → Prop} (D : ∀ k it a its, a ≠ it → DrK prog w A.in1 [] (fun _ => True) k it a its) (l1 : a1 < N) (l2 : a2 < N) (hB : N + 5 ≤ B) (hS : N + 5 ≤ S) (hSB : S < B) (hBs : B ≤ s.heap.objs.size)
    (x : LoopZ N S B k1 k2 a1 a2 its1 its2 s.heap Ts) (n1 : Ts.length < its1.size) (n2 : Ts.length < its2.size)
    (hQ : ∀ h' tk (T : Nat), LoopZ N S B k1 k2 a1 a2 its1 its2 (h'.update S (Obj.mapSeq (·.push (.ref T)))) (Ts ++ [T]) → (∃ c, h'.get? S = some { cls := .type "list", dict := none, data := .seq (Ts.map Value.ref).toArray c, slots := #[] }) → B ≤ (h'.update S (Obj.mapSeq (·.push (.ref T)))).objs.size →
      (∀ (b : Nat) o, b ∉ zWr N S → s.heap.get? b = some o → (h'.update S (Obj.mapSeq (·.push (.ref T)))).get? b = some o) → Q (some (.ref T)) { s with heap := h', toks := tk }) :
    wpAny (model prog w) A (pyNext (.ref (N + 4))) Q E s := by
  have sep := zip_sep2 (N := N) (fp1 := [a1]) (fp2 := [a2]) (fun b hb => by rw [List.mem_singleton.mp hb]; exact l1) (fun b hb => by rw [List.mem_singleton.mp hb]; exact l2)
  have D1 := D k1 N a1 its1 (Nat.ne_of_lt l1)
  have D2 := D k2 (N + 1) a2 its2 (Nat.ne_of_lt (Nat.lt_succ_of_lt l2))
  obtain ⟨c, eS⟩ := x.lst
  -- from the next pair on
  have fin : ∀ x1 x2 h' tk, its1[Ts.length]? = some x1 → its2[Ts.length]? = some x2 → (∃ (T0 : Nat) (fl : Bool) (oT : Obj), IsZipHeld h' (N + 4) (N + 2) (N + 3) T0 fl ∧ h'.get? T0 = some oT ∧ T0 ≠ N + 4 ∧ T0 ≠ N ∧ T0 ≠ N + 1 ∧ T0 ≠ S) → ((ItK k1 h' N a1 (Ts.length + 1) ∧ IsK k1 h' a1 its1) ∧ True) → ((ItK k2 h' (N + 1) a2 (Ts.length + 1) ∧ IsK k2 h' a2 its2) ∧ True) →
      IsTupOf2 h' s.heap.objs.size x1 x2 → h'.objs.size = s.heap.objs.size + 1 → (∀ (b : Nat) o, b ≠ N + 4 → b ≠ N + 3 → b ≠ N → b ≠ N + 1 → s.heap.get? b = some o → h'.get? b = some o) → Q (some (.ref s.heap.objs.size)) { s with heap := h', toks := tk } := by
    intro x1 x2 h' tk e1 e2 ⟨T0, fl, oT, hz, hT0, n1', n2', n3', n4'⟩ ⟨⟨j1, t1⟩, _⟩ ⟨⟨j2, t2⟩, _⟩ hT hz1 kp
    have eS' := kp S _ (by omega) (by omega) (by omega) (by omega) eS
    have up : ∀ (b : Nat) o, b ≠ S → h'.get? b = some o → (h'.update S (Obj.mapSeq (·.push (.ref s.heap.objs.size)))).get? b = some o := fun b o hb e => (Heap.get?_update_other _ _ (Ne.symm hb)).trans e
    have size' : (h'.update S (Obj.mapSeq (·.push (.ref s.heap.objs.size)))).objs.size = s.heap.objs.size + 1 := by rw [(Heap.SameBut.update ..).1, hz1]
    have ne : ∀ {b : Nat}, b < N + 5 → b ≠ S := fun hb z => by omega
    have gk : ∀ b ∈ Ts, ∀ o, s.heap.get? b = some o → (h'.update S (Obj.mapSeq (·.push (.ref s.heap.objs.size)))).get? b = some o := fun b hb o e => by
      have := (x.giv.low b hb).1
      exact up b o (by omega) (kp b o (by omega) (by omega) (by omega) (by omega) e)
    have lst' : ∃ c', (h'.update S (Obj.mapSeq (·.push (.ref s.heap.objs.size)))).get? S = some { cls := .type "list", dict := none, data := .seq ((Ts ++ [s.heap.objs.size]).map Value.ref).toArray c', slots := #[] } := by
      have q := Heap.get?_update_self (Obj.mapSeq (·.push (.ref s.heap.objs.size))) eS' rfl
      have ea : ((Ts ++ [s.heap.objs.size]).map Value.ref).toArray = (Ts.map Value.ref).toArray.push (.ref s.heap.objs.size) := by simp
      rw [ea]
      exact ⟨_, q⟩
    refine hQ h' tk s.heap.objs.size ⟨lst', ?_, ?_, ?_, ?_, ?_, ?_, ?_⟩ ⟨c, eS'⟩ (by rw [size']; omega) fun b o hb e => ?_
    · exact .inr ⟨T0, fl, oT, up _ _ (ne (by omega)) hz, up _ _ n4' hT0, n1', n2', n3', n4'⟩
    · exact up _ _ (ne (by omega)) (kp _ _ (by omega) (by omega) (by omega) (by omega) x.tin)
    · simpa using j1.keep fun o e => up _ _ (ne (by omega)) e
    · simpa using j2.keep fun o e => up _ _ (ne (by omega)) e
    · exact t1.keep fun o e => up _ _ (ne (by omega)) e
    · exact t2.keep fun o e => up _ _ (ne (by omega)) e
    · refine (x.giv.keep (by rw [size']; omega) gk).snoc hBs (fun b hb => (x.giv.low b hb).2) (up _ _ (by omega) hT) e1 e2
    · simp only [zWr, List.mem_cons, List.not_mem_nil, or_false, not_or] at hb
      exact up b o hb.1 (kp b o hb.2.1 hb.2.2.1 hb.2.2.2.1 hb.2.2.2.2 e)
  rcases x.zip with ⟨h0, hz, u, v, ho⟩ | ⟨T, fl, oT, hz, hT, m1, m2, m3, m4⟩
  · exact wpAny_pyNext_zipD2_item sep D1 D2 hz x.tin ho ⟨⟨x.it1, x.s1⟩, trivial⟩ ⟨⟨x.it2, x.s2⟩, trivial⟩ n1 n2 fun x1 x2 h' tk p1 p2 hz' _ s1 s2 hT hsz kp => fin x1 x2 h' tk p1 p2 ⟨s.heap.objs.size, false, _, hz', hT, by omega, by omega, by omega, by omega⟩ s1 s2 hT hsz kp
  · exact nextHeld_item sep D1 D2 hz hT x.tin ⟨⟨x.it1, x.s1⟩, trivial⟩ ⟨⟨x.it2, x.s2⟩, trivial⟩ n1 n2 fun x1 x2 h' tk p1 p2 hz' s1 s2 hT2 hsz kp => fin x1 x2 h' tk p1 p2 ⟨T, true, oT, hz', kp T oT m1 m2 m3 hT, m1, m2, m3, m4⟩ s1 s2 hT2 hsz fun b o b1 _ b3 b4 e => kp b o b1 b3 b4 e
theorem LoopZ.stop {s : Shared} {E : Value → Shared → Prop} {Ts : List Nat} {Q : Option Value → Shared → Prop} (D : ∀ k it a its, a ≠ it → DrK prog w A.in1 [] (fun _ => True) k it a its) (l1 : a1 < N) (l2 : a2 < N) (hB : N + 5 ≤ B) (hS : N + 5 ≤ S)
    (x : LoopZ N S B k1 k2 a1 a2 its1 its2 s.heap Ts) (n1 : Ts.length ≤ its1.size) (n2 : Ts.length ≤ its2.size) (hend : Ts.length = its1.size ∨ Ts.length = its2.size)
    (hQ : ∀ h' tk, (∀ (b : Nat) o, b ∉ [N + 4, N + 3, N, N + 1] → s.heap.get? b = some o → h'.get? b = some o) → Q none { s with heap := h', toks := tk }) :
    wpAny (model prog w) A (pyNext (.ref (N + 4))) Q E s := by
  have sep := zip_sep2 (N := N) (fp1 := [a1]) (fp2 := [a2]) (fun b hb => by rw [List.mem_singleton.mp hb]; exact l1) (fun b hb => by rw [List.mem_singleton.mp hb]; exact l2)
  have D1 := D k1 N a1 its1 (Nat.ne_of_lt l1)
  have D2 := D k2 (N + 1) a2 its2 (Nat.ne_of_lt (Nat.lt_succ_of_lt l2))
  have ni : ∀ {b : Nat}, b ∉ [N + 4, N + 3, N, N + 1] → b ≠ N + 4 ∧ b ≠ N + 3 ∧ b ≠ N ∧ b ≠ N + 1 := fun hb => by
    simp only [List.mem_cons, List.not_mem_nil, or_false, not_or] at hb; exact hb
  rcases x.zip with ⟨h0, hz, u, v, ho⟩ | ⟨T, fl, oT, hz, hT, _⟩
  · exact wpAny_pyNext_zipD2_end sep D1 D2 hz x.tin ho ⟨⟨x.it1, x.s1⟩, trivial⟩ ⟨⟨x.it2, x.s2⟩, trivial⟩ n1 n2 hend fun h' tk kp => hQ h' tk fun b o hb e => kp b o (ni hb).1 (ni hb).2.1 (ni hb).2.2.1 (ni hb).2.2.2 e
  · exact nextHeld_end sep D1 D2 hz hT x.tin ⟨⟨x.it1, x.s1⟩, trivial⟩ ⟨⟨x.it2, x.s2⟩, trivial⟩ n1 n2 hend fun h' tk kp => hQ h' tk fun b o hb e => kp b o (ni hb).1 (ni hb).2.2.1 (ni hb).2.2.2 e
theorem zip_loop (D : ∀ k it a its, a ≠ it → DrK prog w A.in1.in1 [] (fun _ => True) k it a its) (l1 : a1 < N) (l2 : a2 < N) (hB : N + 5 ≤ B) (hS : N + 5 ≤ S) (hSB : S < B) (hn : min its1.size its2.size ≤ sizeLine) :
    ∀ (m : Nat) (s : Shared) (Ts : List Nat), min its1.size its2.size - Ts.length = m → Ts.length ≤ min its1.size its2.size → LoopZ N S B k1 k2 a1 a2 its1 its2 s.heap Ts → B ≤ s.heap.objs.size →
      (∀ h' tk (Ts' : List Nat) c', Ts'.length = min its1.size its2.size → h'.get? S = some { cls := .type "list", dict := none, data := .seq (Ts'.map Value.ref).toArray c', slots := #[] } → Given h' B its1 its2 Ts' → (∀ (b : Nat) o, b ∉ zWr N S → s.heap.get? b = some o → h'.get? b = some o) → R (.ok (.ret res)) { s with heap := h', toks := tk }) →
      codeAny (model prog w) A (.builtin "list.extend.loop" ⟨[.ref S, .ref (N + 4), res], []⟩) R s := by
  have wsub : ∀ {b : Nat}, b ∉ zWr N S → b ∉ [N + 4, N + 3, N, N + 1] := fun hb => by
    simp only [zWr, List.mem_cons, List.not_mem_nil, or_false, not_or] at hb ⊢
    exact hb.2
  intro m
  induction m with
  | zero =>
    intro s Ts hm hle x hBs hR
    refine codeAny_builtin F.entry_extend_loop ?_
    rw [Around.under_plainId F.plain_extend_loop _]
    show wpAny _ A.in1 (pyNext (.ref (N + 4)) >>= _) _ _ s
    refine wpAny_bind (x.stop D l1 l2 hB hS (by omega) (by omega) (by omega) fun h' tk kp => wpAny_pure ?_)
    obtain ⟨c, eS⟩ := x.lst
    have far : ∀ (b : Nat), N + 5 ≤ b → b ∉ [N + 4, N + 3, N, N + 1] := fun b hb z => by
      simp only [List.mem_cons, List.not_mem_nil, or_false] at z
      omega
    refine hR h' tk Ts c (by omega) (kp S _ (far S hS) eS) ⟨x.giv.inc, fun T hT => ⟨(x.giv.low T hT).1, ?_⟩, fun j T e => ?_⟩ fun b o hb e => kp b o (wsub hb) e
    · obtain ⟨j, hj⟩ := List.getElem?_of_mem hT
      obtain ⟨x1, x2, _, _, q⟩ := x.giv.at_ j T hj
      have := (x.giv.low T hT).1
      exact Heap.lt_size (kp T _ (far T (by omega)) q)
    · obtain ⟨x1, x2, e1, e2, q⟩ := x.giv.at_ j T e
      have := (x.giv.low T (List.mem_of_getElem? e)).1
      exact ⟨x1, x2, e1, e2, kp T _ (far T (by omega)) q⟩
  | succ m ih =>
    intro s Ts hm hle x hBs hR
    refine codeAny_builtin F.entry_extend_loop ?_
    rw [Around.under_plainId F.plain_extend_loop _]
    show wpAny _ A.in1 (pyNext (.ref (N + 4)) >>= _) _ _ s
    refine wpAny_bind (x.step D l1 l2 hB hS hSB hBs (by omega) (by omega) fun h' tk T x' ⟨c, eS⟩ hBs' kp => ?_)
    show wpAny _ A.in1 (updateSeq S (·.push (.ref T)) >>= _) _ _ _
    refine wpAny_bind (wpAny_updateSeq (s := { s with heap := h', toks := tk }) eS rfl (wpAny_pure ⟨plainId_quiet F.plain_extend_loop _, ih { s with heap := h'.update S (Obj.mapSeq (·.push (.ref T))), toks := tk } (Ts ++ [T]) (by simp; omega) (by simp; omega) x' hBs' fun h2 tk2 Ts2 c2 a1 a2 a3 a4 => ?_⟩) ?_ ?_)
    · exact hR h2 tk2 Ts2 c2 a1 a2 a3 fun b o hb e => a4 b o hb (kp b o hb e)
    · simp; omega
    · simp; omega
theorem zip_no_len : typeLookup (.type "zip") "__len__" = pure none := am_miss_of_fast (by decide +kernel)
theorem zip_no_hint : typeLookup (.type "zip") "__length_hint__" = pure none := am_miss_of_fast (by decide +kernel)
/-- what a fresh zip and an empty list are -/
structure FreshZ (N S : Nat) (k1 k2 : Bool) (a1 a2 : Nat) (its1 its2 : Array Value) (h : Heap) (c : Nat) : Prop where
  st : zSt N k1 k2 a1 a2 0 h
  lst : h.get? S = some { cls := .type "list", data := .seq #[] c }
  s1 : IsK k1 h a1 its1
  s2 : IsK k2 h a2 its2
theorem FreshZ.loop {h : Heap} {c : Nat} (x : FreshZ N S k1 k2 a1 a2 its1 its2 h c) : LoopZ N S B k1 k2 a1 a2 its1 its2 h [] :=
  ⟨⟨c, x.lst⟩, .inl ⟨rfl, x.st.1, x.st.2.2.1⟩, x.st.2.1, x.st.2.2.2.1, x.st.2.2.2.2, x.s1, x.s2, ⟨.nil, (fun _ h => nomatch h), fun j T e => by simp at e⟩⟩
theorem FreshZ.keep {h h' : Heap} {c c' : Nat} (x : FreshZ N S k1 k2 a1 a2 its1 its2 h c) (l1 : a1 < N) (l2 : a2 < N) (hS : N + 5 ≤ S) (k : ∀ (b : Nat) o, b ≠ S → h.get? b = some o → h'.get? b = some o) (eS : h'.get? S = some { cls := .type "list", data := .seq #[] c' }) : FreshZ N S k1 k2 a1 a2 its1 its2 h' c' := by
  have lt5 : ∀ (b : Nat), b ∈ zFp N → b ≠ S := fun b hb z => by
    simp only [zFp, List.mem_cons, List.not_mem_nil, or_false] at hb
    omega
  exact ⟨x.st.keep fun b hb o e => k b o (lt5 b hb) e, eS, x.s1.keep fun o e => k a1 o (by omega) e, x.s2.keep fun o e => k a2 o (by omega) e⟩
/-- the wanted end -/
abbrev ZEnd (N S B : Nat) (its1 its2 : Array Value) (s : Shared) (K : Shared → Prop) : Prop := ∀ h' tk (Ts' : List Nat) c', Ts'.length = min its1.size its2.size → h'.get? S = some { cls := .type "list", dict := none, data := .seq (Ts'.map Value.ref).toArray c', slots := #[] } → Given h' B its1 its2 Ts' →
  (∀ (b : Nat) o, b ∉ zWr N S → s.heap.get? b = some o → h'.get? b = some o) → K { s with heap := h', toks := tk }
theorem zip_extend {s : Shared} {c : Nat} (D : ∀ k it a its, a ≠ it → DrK prog w A.in1.in1 [] (fun _ => True) k it a its) (l1 : a1 < N) (l2 : a2 < N) (hB : N + 5 ≤ B) (hS : N + 5 ≤ S) (hSB : S < B) (hBs : B ≤ s.heap.objs.size) (hn : min its1.size its2.size ≤ sizeLine)
    (x : FreshZ N S k1 k2 a1 a2 its1 its2 s.heap c) (hR : ZEnd N S B its1 its2 s (R (.ok (.ret res)))) :
    wpAny (model prog w) A.in1 (Builtin.List.listExtendWith (.ref S) (.ref (N + 4)) res)
      (fun fin s' => match fin with | .done f => R (.ok f) s' | .again c' => c'.quiet = true ∧ codeAny (model prog w) A c' R s') (fun e s' => R (.error e) s') s := by
  have ty : s.TypeIs (.ref (N + 4)) "zip" := ⟨_, x.st.1, rfl⟩
  have ne : S ≠ N + 4 := by omega
  unfold Builtin.List.listExtendWith
  refine wpAny_bind (wpAny_typeOf ty ?_)
  have q1 : Builtin.List.listSameRef (.ref S) (.ref (N + 4)) = false := by simp [Builtin.List.listSameRef, ne]
  have q2 : (Value.type "zip" == Value.type "list") = false := by decide
  have q3 : (Value.type "zip" == Value.type "tuple") = false := by decide
  simp only [q1, q2, q3, Bool.or_false, Bool.false_eq_true, if_false]
  refine wpAny_bind (wpAny_pyIter_zip x.st.1 (wpAny_bind (wpAny_holding ?_)))
  unfold Builtin.List.listLengthHint
  refine wpAny_bind (wpAny_specialOf ty zip_no_len ?_)
  show wpAny _ A.in1 (specialOf (Value.ref (N + 4)) (Str.ofString "__length_hint__") >>= _) _ _ _
  refine wpAny_bind (wpAny_specialOf ty zip_no_hint (wpAny_pure ?_))
  show wpAny _ A.in1 (rule "list.extend.makes-room" >>= fun _ => Builtin.List.listTouch (.ref S) >>= fun _ => again (.builtin "list.extend.loop" ⟨[.ref S, .ref (N + 4), res], []⟩)) _ _ _
  refine wpAny_bind (wpAny_rule (wpAny_bind ?_))
  show wpAny _ A.in1 (updateSeq S (·.push .none) >>= fun _ => updateSeq S (·.pop)) _ _ _
  refine wpAny_bind (wpAny_updateSeq x.lst rfl ?_)
  have g1 := Heap.get?_update_self (Obj.mapSeq (·.push Value.none)) x.lst rfl
  refine wpAny_updateSeq (hz := by seq_fits) g1 rfl ?_
  have g2 := Heap.get?_update_self (Obj.mapSeq (·.pop)) g1 rfl
  have oth : ∀ (b : Nat) o, b ≠ S → s.heap.get? b = some o → ((s.heap.update S (Obj.mapSeq (·.push Value.none))).update S (Obj.mapSeq (·.pop))).get? b = some o := fun b o hb e => (Heap.get?_update_other _ _ (Ne.symm hb)).trans ((Heap.get?_update_other _ _ (Ne.symm hb)).trans e)
  have siz : ((s.heap.update S (Obj.mapSeq (·.push Value.none))).update S (Obj.mapSeq (·.pop))).objs.size = s.heap.objs.size := by rw [(Heap.SameBut.update ..).1, (Heap.SameBut.update ..).1]
  have x2 := x.keep l1 l2 hS oth g2
  refine wpAny_pure ⟨plainId_quiet F.plain_extend_loop _, zip_loop D l1 l2 hB hS hSB hn _ { s with heap := _ } [] rfl (Nat.zero_le _) x2.loop (by show B ≤ _; rw [siz]; exact hBs) fun h' tk Ts' c' a1 a2 a3 a4 => ?_⟩
  exact hR h' tk Ts' c' a1 a2 a3 fun b o hb e => a4 b o hb (oth b o (fun z => hb (by rw [z]; exact List.mem_cons_self)) e)
theorem zip_init {s : Shared} (D : ∀ k it a its, a ≠ it → DrK prog w A.in1.in1 [] (fun _ => True) k it a its) (l1 : a1 < N) (l2 : a2 < N) (hB : N + 5 ≤ B) (hS : N + 5 ≤ S) (hSB : S < B) (hBs : B ≤ s.heap.objs.size) (hn : min its1.size its2.size ≤ sizeLine)
    (x : FreshZ N S k1 k2 a1 a2 its1 its2 s.heap 0) (hR : ZEnd N S B its1 its2 s (R (.ok (.ret .none)))) :
    wpAny (model prog w) A.in1 (Builtin.«list.__init__» ⟨[.ref S, .ref (N + 4)], []⟩)
      (fun fin s' => match fin with | .done f => R (.ok f) s' | .again c' => c'.quiet = true ∧ codeAny (model prog w) A c' R s') (fun e s' => R (.error e) s') s := by
  show wpAny _ A.in1 (do let old ← Builtin.List.listItems (.ref S); Builtin.List.listUpdate (.ref S) (fun _ => #[]); letGo old.toList.reverse; Builtin.List.listExtendWith (.ref S) (.ref (N + 4)) .none) _ _ s
  refine wpAny_bind ?_
  unfold Builtin.List.listItems
  refine wpAny_bind (wpAny_seqItems x.lst rfl (wpAny_pure ?_))
  show wpAny _ A.in1 (updateSeq S (fun _ => #[]) >>= fun _ => letGo (#[] : Array Value).toList.reverse >>= fun _ => Builtin.List.listExtendWith (.ref S) (.ref (N + 4)) .none) _ _ s
  refine wpAny_bind (wpAny_updateSeq x.lst rfl ?_)
  have g1 := Heap.get?_update_self (Obj.mapSeq (fun _ => (#[] : Array Value))) x.lst rfl
  have oth : ∀ (b : Nat) o, b ≠ S → s.heap.get? b = some o → (s.heap.update S (Obj.mapSeq (fun _ => (#[] : Array Value)))).get? b = some o := fun b o hb e => (Heap.get?_update_other _ _ (Ne.symm hb)).trans e
  refine wpAny_bind (wpAny_letGo ?_)
  refine zip_extend (s := { s with heap := s.heap.update S (Obj.mapSeq (fun _ => (#[] : Array Value))) }) D l1 l2 hB hS hSB (by show B ≤ (s.heap.update S _).objs.size; rw [(Heap.SameBut.update ..).1]; exact hBs) hn (x.keep l1 l2 hS oth g1) fun h' tk Ts' c' b1 b2 b3 b4 => ?_
  exact hR h' tk Ts' c' b1 b2 b3 fun b o hb e => b4 b o hb (oth b o (fun z => hb (by rw [z]; exact List.mem_cons_self)) e)
end
theorem call_listZip {prog : Program} {w : World} {A : Around} {E : Value → Shared → Prop} {s : Shared} {N a1 a2 : Nat} {k1 k2 : Bool} {its1 its2 : Array Value} {Q : Value → Shared → Prop} (hh : A.handled = none) (l1 : a1 < N) (l2 : a2 < N) (hN : N + 5 ≤ s.heap.objs.size) (hn : min its1.size its2.size ≤ sizeLine)
    (st : zSt N k1 k2 a1 a2 0 s.heap) (s1 : IsK k1 s.heap a1 its1) (s2 : IsK k2 s.heap a2 its2)
    (hQ : ∀ h' tk (Ts : List Nat) c, Ts.length = min its1.size its2.size → h'.get? s.heap.objs.size = some { cls := .type "list", dict := none, data := .seq (Ts.map Value.ref).toArray c, slots := #[] } → Given h' (s.heap.objs.size + 1) its1 its2 Ts → (∀ (b : Nat) o, b ∉ [N + 4, N + 3, N, N + 1] → s.heap.get? b = some o → h'.get? b = some o) → Q (.ref s.heap.objs.size) { s with heap := h', toks := tk }) :
    wpAny (model prog w) A (call (.type "list") [.ref (N + 4)]) Q E s := by
  refine callType_codes (Q₁ := fun obj s₁ => obj = .ref s.heap.objs.size ∧ s₁ = { s with heap := s.heap.push { cls := .type "list", data := .seq #[] } }) F.called_list (F.typeCall_list_1 _) F.entry_list_init (code_list_new _ ⟨rfl, rfl⟩) fun obj s₁ h₁ => ?_
  obtain ⟨rfl, rfl⟩ := h₁
  have gS : (s.heap.push { cls := .type "list", data := .seq #[] }).get? s.heap.objs.size = some { cls := .type "list", data := .seq #[] } := Heap.get?_push_size _ rfl
  have up : ∀ (b : Nat) o, s.heap.get? b = some o → (s.heap.push { cls := .type "list", data := .seq #[] }).get? b = some o := fun b o e => Heap.get?_push_of_some _ e
  have fr : FreshZ N s.heap.objs.size k1 k2 a1 a2 its1 its2 (s.heap.push { cls := .type "list", data := .seq #[] }) 0 := ⟨st.keep fun b _ o e => up b o e, gS, s1.keep fun o e => up a1 o e, s2.keep fun o e => up a2 o e⟩
  refine ⟨⟨_, gS, rfl⟩, F.args_list_init_2 _ _, zip_init (B := s.heap.objs.size + 1) (fun k it a its hne => drK_calm (show A.in1.in1.in1.handled = none from hh) k it a its hne) l1 l2 (by omega) hN (by omega) (by show _ ≤ (s.heap.push _).objs.size; rw [Heap.size_push]; exact Nat.le_refl _) hn fr fun h' tk Ts c b1 b2 b3 b4 => ?_⟩
  refine ⟨rfl, hQ h' tk Ts c b1 b2 b3 fun b o hb e => b4 b o (fun z => ?_) (up b o e)⟩
  rcases List.mem_cons.mp z with z | z
  · have := Heap.lt_size e
    exact absurd this (by rw [z]; exact Nat.lt_irrefl _)
  · exact hb z
end Sd

set_option autoImplicit false
set_option linter.all false
set_option maxRecDepth 100000
set_option maxHeartbeats 4000000
/-! SndM: the rule of list(zip(x, y)). -/
namespace Sd
open PySem L2 PySem.Spec PyProof.Rows
def layL (l : List (Addr × HO)) (H : Hp) : Hp := l.foldr (fun p H => upd H p.1 p.2) H
theorem layL_out {l : List (Addr × HO)} {H : Hp} {b : Addr} (h : b ∉ l.map (·.1)) : layL l H b = H b := by
  induction l with
  | nil => rfl
  | cons p l ih =>
    simp only [List.map_cons, List.mem_cons, not_or] at h
    show upd (layL l H) p.1 p.2 b = H b
    rw [upd_ne h.1, ih h.2]
theorem layL_in {l : List (Addr × HO)} {H : Hp} {p : Addr × HO} (nd : (l.map (·.1)).Nodup) (h : p ∈ l) : layL l H p.1 = some p.2 := by
  induction l with
  | nil => cases h
  | cons q l ih =>
    rw [List.map_cons, List.nodup_cons] at nd
    show upd (layL l H) q.1 q.2 p.1 = some p.2
    rcases List.mem_cons.mp h with rfl | h
    · exact upd_same
    · rw [upd_ne (fun z => nd.1 (by rw [← z]; exact List.mem_map.mpr ⟨p, h, rfl⟩))]
      exact ih nd.2 h
theorem layL_same {l : List (Addr × HO)} {H : Hp} (h : ∀ p ∈ l, H p.1 = none) : Same H (layL l H) := fun b o e => by
  rw [layL_out (fun z => ?_)]
  · exact e
  · obtain ⟨p, hp, rfl⟩ := List.mem_map.mp z
    rw [h p hp] at e; cases e
section
variable {X : Cx} {pins : List (Addr × Obj)} {σ : L2.St} {H : Hp} {s : Shared}
theorem Inv.lays {l : List (Addr × HO)} {h2 : Heap} {tk : Nat} (I : Inv X pins σ H s) (k : ∀ b o, s.heap.get? b = some o → h2.get? b = some o) (hn : ∀ p ∈ l, s.heap.get? p.1 = none ∧ H p.1 = none) (nd : (l.map (·.1)).Nodup) (ok : ∀ p ∈ l, ∀ H' : Hp, ObjOk X.prog X.w H' h2 p.1 p.2) :
    Inv X pins σ (layL l H) { s with heap := h2, toks := tk } := by
  have out : ∀ b o, s.heap.get? b = some o → layL l H b = H b := fun b o e => layL_out fun z => by
    obtain ⟨p, hp, rfl⟩ := List.mem_map.mp z
    rw [(hn p hp).1] at e; cases e
  have same := layL_same (l := l) (H := H) fun p hp => (hn p hp).2
  have u : Un (frs X.stack) [] H (layL l H) s.heap h2 := ⟨fun b o e _ _ _ => k b o e, fun b o e _ _ _ => ⟨o.slots, k b o e⟩, fun b o e n _ => by rw [out b o e]; exact n, fun b o e _ => ⟨o, k b o e⟩, fun b xs e => same _ _ e, fun b o xs e => same _ _ e, fun b ps e => ⟨#[], by rw [same _ _ e]; simp⟩⟩
  have hk : HOk X.prog X.w (layL l H) h2 := by
    clear out same u
    induction l with
    | nil => exact I.hok.kept k
    | cons p l ih =>
      rw [List.map_cons, List.nodup_cons] at nd
      have x := ih (fun q hq => hn q (List.mem_cons_of_mem _ hq)) nd.2 fun q hq => ok q (List.mem_cons_of_mem _ hq)
      exact x.laidN (fun _ _ e => e) (by rw [layL_out nd.1]; exact (hn p List.mem_cons_self).2) (ok p List.mem_cons_self _)
  exact I.call (ch := []) (g' := s.gens) (d' := s.drawn) u hk I.bare fun b z => nomatch z
end
/-- the pairs' places in the abstract heap -/
def pairsL (Ts : List Nat) (xs ys : List V) : List (Addr × HO) := (Ts.zip (xs.zip ys)).map fun p => (p.1, HO.tup [p.2.1, p.2.2])
theorem pairsL_fst : ∀ {Ts : List Nat} {xs ys : List V}, Ts.length = min xs.length ys.length → (pairsL Ts xs ys).map (·.1) = Ts
  | [], _, _, _ => by simp [pairsL]
  | T :: Ts, x :: xs, y :: ys, h => by
    have := pairsL_fst (Ts := Ts) (xs := xs) (ys := ys) (by simp at h; omega)
    simp [pairsL] at this ⊢
    exact this
  | T :: Ts, [], _, h => by simp at h
  | T :: Ts, _ :: _, [], h => by simp at h
theorem pairsL_mem : ∀ {Ts : List Nat} {xs ys : List V} {p : Addr × HO}, p ∈ pairsL Ts xs ys → ∃ (j : Nat) (x y : V), Ts[j]? = some p.1 ∧ xs[j]? = some x ∧ ys[j]? = some y ∧ p.2 = .tup [x, y]
  | [], _, _, _, h => by simp [pairsL] at h
  | T :: Ts, [], _, _, h => by simp [pairsL] at h
  | T :: Ts, _ :: _, [], _, h => by simp [pairsL] at h
  | T :: Ts, x :: xs, y :: ys, p, h => by
    simp only [pairsL, List.zip_cons_cons, List.map_cons, List.mem_cons] at h
    rcases h with rfl | h
    · exact ⟨0, x, y, rfl, rfl, rfl, rfl⟩
    · obtain ⟨j, a, b, e1, e2, e3, e4⟩ := pairsL_mem (Ts := Ts) (xs := xs) (ys := ys) h
      exact ⟨j + 1, a, b, e1, e2, e3, e4⟩
/-- list(zip(x, y)) -/
def tLz (K : PySem.W.Frag) (ta : TA) : TE := fun σ H Q => ta σ H fun vs H1 => ∃ k1 k2 a b xs ys, vs = [.ref a, .ref b] ∧ SqK k1 K H1 a xs ∧ SqK k2 K H1 b ys ∧
  ∀ (S : Nat) (Ts : List Nat), Ts.length = min xs.length ys.length → H1 S = none → (∀ T ∈ Ts, H1 T = none) → S ∉ Ts → Ts.Nodup → Q (.ref S) (layL ((S, .lst (Ts.map V.ref)) :: pairsL Ts xs ys) H1)
section
variable {X : Cx} {e e2 : Expr} {ta : TA} {p p' pos pos' : Pos}
theorem pe_listZip (hc : X.calm = true) (hgl : Gl X "list") (hml : X.mg "list" = none) (hgz : Gl X "zip") (hmz : X.mg "zip" = none) (ha : PA X [e, e2] ta) (hs : starEach [e, e2] X.env = (false, eval e X.env) :: starEach [e2] X.env := by rfl) (hpl : (backTo pos' (starEach [e2] X.env)).any (·.1) = false := by rfl)
    (hsI : starEach [.Call (.Name "zip" p') [e, e2] [] pos'] X.env = (false, eval (.Call (.Name "zip" p') [e, e2] [] pos') X.env) :: starEach [] X.env := by rfl) :
    PE X (.Call (.Name "list" p) [.Call (.Name "zip" p') [e, e2] [] pos'] [] pos) (tLz X.K ta) := by
  refine ⟨fun pins s σ H Q I h => ?_⟩
  refine wpAny_Call_Name_kw (ld_blt I hgl hml (u := .type "list") (by rfl) ?_)
  refine PyProof.Rows.callWith_type1 ?_ hsI rfl
  rw [hsI]
  show wpAny _ _ (spliced ((false, eval (.Call (.Name "zip" p') [e, e2] [] pos') X.env) :: backTo pos (starEach [] X.env))) _ _ s
  refine Calls.spliced_cons (Call_ (ld_blt I hgz hmz PyProof.Rows.boot_zip (PyProof.Rows.callWith_type1 (thn (ha.run pos' pins s σ H _ I h) fun us s1 ⟨vs, H1, I1, r1, q1⟩ => ?_) hs hpl)))
  obtain ⟨k1, k2, a, b, xs, ys, rfl, hx, hy, q⟩ := q1
  obtain ⟨u1, u2, rfl, ru1, ru2⟩ := Vals.two r1
  cases ru1
  cases ru2
  refine zip_start I1 hx hy fun (N : Nat) h' (l1 : (a : Nat) < N) (l2 : (b : Nat) < N) fr st J (old : ∀ (c : Nat) o, s1.heap.get? c = some o → c < N ∧ h'.get? c = some o) => Calls.spliced_nil ?_
  obtain ⟨its1, v1, t1, z1⟩ := seqK J hx
  obtain ⟨its2, v2, t2, z2⟩ := seqK J hy
  have m1 := v1.length
  have m2 := v2.length
  have hN : N + 5 ≤ h'.objs.size := Heap.lt_size st.1
  have w1 : its1.toArray.size = xs.length := by rw [m1]; simp
  have w2 : its2.toArray.size = ys.length := by rw [m2]; simp
  have w3 : min xs.length ys.length ≤ sizeLine := Nat.le_trans (Nat.min_le_left _ _) z1
  refine call_listZip (s := { s1 with heap := h' }) (N := N) (a1 := a) (a2 := b) (J.ok.hd hc) l1 l2 hN (by rw [w1, w2]; exact w3) st t1 t2 fun h2 tk Ts c hl gS giv kp => ?_
  have kept : ∀ (c : Nat) o, s1.heap.get? c = some o → h2.get? c = some o := fun c o e => by
    have := (old c o e).1
    have hc5 : c < N := this
    exact kp c o (fun z => by
      simp only [List.mem_cons, List.not_mem_nil, or_false] at z
      omega) (old c o e).2
  have newN : ∀ c : Nat, N ≤ c → s1.heap.get? c = none := fun c hc => by
    cases q : s1.heap.get? c with
    | none => rfl
    | some o => have := (old c o q).1; omega
  have fresh : ∀ c : Nat, N ≤ c → H1 c = none := fun c hc => by
    cases q : H1 c with
    | none => rfl
    | some o =>
      obtain ⟨ob, z⟩ := objOk_get (I1.hok c o q)
      rw [newN c hc] at z; cases z
  have hl' : Ts.length = min xs.length ys.length := by rw [hl, w1, w2]
  have lowT : ∀ (T : Nat), T ∈ Ts → h'.objs.size + 1 ≤ T := fun T hT => (giv.low T hT).1
  have nS : h'.objs.size ∉ Ts := fun z => by have := lowT _ z; omega
  have ndT : Ts.Nodup := giv.inc.imp fun h => Nat.ne_of_lt h
  have nd : (((h'.objs.size, HO.lst (Ts.map V.ref)) :: pairsL Ts xs ys).map (·.1)).Nodup := by
    rw [List.map_cons, pairsL_fst hl', List.nodup_cons]
    exact ⟨nS, ndT⟩
  have memF : ∀ q ∈ (h'.objs.size, HO.lst (Ts.map V.ref)) :: pairsL Ts xs ys, N ≤ (q.1 : Nat) := fun q hq => by
    rcases List.mem_cons.mp hq with rfl | hq
    · show N ≤ h'.objs.size; omega
    · obtain ⟨j, x, y, e1, _⟩ := pairsL_mem hq
      have h5 : h'.objs.size + 1 ≤ (q.1 : Nat) := lowT _ (List.mem_of_getElem? e1)
      show N ≤ (q.1 : Nat)
      omega
  refine ⟨.ref h'.objs.size, _, Inv.lays (s := s1) (l := (h'.objs.size, HO.lst (Ts.map V.ref)) :: pairsL Ts xs ys) I1 kept (fun q hq => ⟨newN _ (memF q hq), fresh _ (memF q hq)⟩) nd (fun q hq H' => ?_), rfl, q h'.objs.size Ts hl' (fresh _ (by omega)) (fun T hT => fresh T (by have := lowT T hT; omega)) nS ndT⟩
  rcases List.mem_cons.mp hq with rfl | hq
  · refine ⟨by rw [List.length_map, hl']; exact w3, Ts.map Value.ref, c, ?_, gS⟩
    clear hl gS giv hl' lowT nS ndT nd memF hq
    induction Ts with
    | nil => exact .nil
    | cons T Ts ih => exact .cons rfl ih
  · obtain ⟨j, x, y, e1, e2, e3, e4⟩ := pairsL_mem hq
    obtain ⟨w1, w2, f1, f2, g⟩ := giv.at_ j q.1 e1
    obtain ⟨u1, g1, ru1⟩ := v1.get e2
    obtain ⟨u2, g2, ru2⟩ := v2.get e3
    have f1 : its1[j]? = some w1 := by simpa using f1
    have f2 : its2[j]? = some w2 := by simpa using f2
    rw [g1] at f1; cases f1
    rw [g2] at f2; cases f2
    rw [e4]
    exact ⟨by show 2 ≤ sizeLine; decide, [_, _], .cons ru1 (.cons ru2 .nil), ⟨_, g, rfl, _, rfl⟩⟩
end
section
variable {X : Cx} {g : G} {c : Fx} {W : WX} {cf : Py.CallF}
variable {ρ ρ0 ρ1 ρ2 : Rho} {h h0 h1 h2 : CH} {H H0 H1 H2 : Hp} {env : Py.Ev} {σ : L2.St}
variable {a b : Expr} {da db : Py.Dn} {p p' pos pos' : Pos}
theorem src_read {x : Sl} {v : V} {xs : List D} {l : Option Nat} (rs : RSt g ρ h H) (r : RRs g c ρ h H0 H x v) (e : Py.src x h = some (xs, l)) : ∃ k a vs, v = .ref a ∧ SqK k g.K H a vs ∧ RDs g.K g.fa (live ρ h) H xs vs := by
  obtain ⟨k, a, rfl, hv⟩ := stay_src rs r e
  cases l with
  | none =>
    obtain ⟨vs, q, z⟩ := hv ρ h H (.refl rs)
    exact ⟨k, a, vs, rfl, q, z⟩
  | some i =>
    obtain ⟨hm, hv⟩ := hv
    have q := src_lock (Post.refl rs) e (fun j z => by cases z; exact hm)
    simp only [Py.lockAt, Py.setAt_eq] at q
    obtain ⟨vs, q1, z⟩ := hv ρ _ H (.refl q.1.st)
    refine ⟨k, a, vs, rfl, q1, ?_⟩
    have lv : live ρ (h.set i (.lk xs)) = live ρ h := funext fun b => propext (live_set hm rfl rfl)
    rw [lv] at z
    exact z
theorem unlock_lockAt {x : Sl} {v : V} {xs : List D} {l : Option Nat} (rs : RSt g ρ h H) (r : RRs g c ρ h H0 H x v) (e : Py.src x h = some (xs, l)) : Py.unlock l (Py.lockAt l xs h) = h := by
  cases l with
  | none => rfl
  | some i =>
    obtain ⟨k, a, _, hm, _⟩ := stay_src rs r e
    have hi : i < h.length := (List.getElem?_eq_some_iff.mp hm).1
    simp only [Py.lockAt, Py.setAt_eq, Py.unlock, Py.nth_eq, List.getElem?_set_self hi, List.set_set]
    apply List.ext_getElem?
    intro j
    by_cases hj : i = j
    · subst hj; rw [List.getElem?_set_self hi, hm]
    · rw [List.getElem?_set_ne hj]
theorem zip_rds {M : Addr → Prop} {H' : Hp} : ∀ {ds es : List D} {xs ys : List V} {Ts : List Nat}, (∀ q ∈ pairsL Ts xs ys, H' q.1 = some q.2) → Ts.length = min xs.length ys.length → RDs g.K g.fa M H' ds xs → RDs g.K g.fa M H' es ys → RDs g.K g.fa M H' (Py.zipD ds es) (Ts.map V.ref)
  | _, _, _, _, [], _, hl, .nil, _ => .nil
  | _, _, _, _, [], _, hl, .cons _ _, .nil => .nil
  | _, _, _, _, [], _, hl, .cons _ _, .cons _ _ => by simp at hl
  | _, _, _, _, _ :: _, _, hl, .nil, _ => by simp at hl
  | _, _, _, _, _ :: _, _, hl, .cons _ _, .nil => by simp at hl
  | _, _, _, _, T :: Ts, hq, hl, .cons r1 rr1, .cons r2 rr2 => by
    refine .cons (.tup (.inl (.inl (hq (T, _) (by simp [pairsL])))) (.cons r1 (.cons r2 .nil))) (zip_rds (Ts := Ts) (fun q hq' => hq q ?_) (by simp at hl; omega) rr1 rr2)
    simp only [pairsL, List.zip_cons_cons, List.map_cons, List.mem_cons]
    exact .inr hq'
theorem sn_listZip (hc : X.calm = true) (hgl : Gl X "list") (hml : X.mg "list" = none) (hgz : Gl X "zip") (hmz : X.mg "zip" = none) (ha : PE X a (tD (gx X g) c W cf da)) (hb : PE X b (tD (gx X g) c W cf db)) (hs2 : starEach [b] X.env = [(false, eval b X.env)] := by rfl)
    (hs : starEach [a, b] X.env = (false, eval a X.env) :: starEach [b] X.env := by rfl) (hpl : (backTo pos' (starEach [b] X.env)).any (·.1) = false := by rfl)
    (hsI : starEach [.Call (.Name "zip" p') [a, b] [] pos'] X.env = (false, eval (.Call (.Name "zip" p') [a, b] [] pos') X.env) :: starEach [] X.env := by rfl) :
    PE X (.Call (.Name "list" p) [.Call (.Name "zip" p') [a, b] [] pos'] [] pos) (tN (gx X g) c W cf (Py.eListOf (Py.iZip da db))) :=
  (pe_listZip hc hgl hml hgz hmz (pa_cons ha (pa_cons hb pa_nil hs2) hs) hs hpl hsI).imp fun σ H Q ⟨ρ, env, h, re, rs, e⟩ => by
    unfold Py.eListOf Py.iZip at e
    rw [Res.assoc] at e
    refine tD.go re rs e fun x h1 ρ1 v H1 p1 r1 e => ?_
    rw [Res.assoc] at e
    refine tD.go (re.keep p1 rs.noTup) p1.st e fun y h2 ρ2 w H2 p2 r2 e => ?_
    cases e1 : Py.src x h2 with
    | none => rw [e1] at e; exact e.elim
    | some pq1 =>
      cases e2 : Py.src y h2 with
      | none => rw [e1, e2] at e; exact e.elim
      | some pq2 =>
        obtain ⟨xs, l1⟩ := pq1
        obtain ⟨ys, l2⟩ := pq2
        rw [e1, e2] at e
        have r1 := r1.keep p2 p1.st.noTup
        obtain ⟨k1, a', vs, rfl, q1, z1⟩ := src_read p2.st r1 e1
        obtain ⟨k2, b', ws, rfl, q2, z2⟩ := src_read p2.st r2 e2
        have pp := p1.trans p2
        have fin : EndR (gx X g) W ρ2 h2 σ H2 (fun x h' => ∀ ρ' v H', Post (gx X g) ρ h H ρ' h' H' → RRs (gx X g) c ρ' h' H H' x v → (∀ d, x = .d d → isLD d → ∃ ρ2, Post (gx X g) ρ h H ρ2 h' H' ∧ RRs (gx X g) c ρ2 h' H H' (.f d) v) → Q v H') (Py.Res.ok (Py.Sl.d (Py.D.lst (Py.zipD xs ys))) h2) := by
          cases l1 with
          | none =>
            have e : EndR (gx X g) W ρ2 h2 σ H2 _ (Py.Res.ok (Py.Sl.d (Py.D.lst (Py.zipD xs ys))) (Py.unlock l2 (Py.lockAt l2 ys h2))) := e
            rw [unlock_lockAt p2.st r2 e2] at e
            exact e
          | some i =>
            cases l2 with
            | none =>
              have e : EndR (gx X g) W ρ2 h2 σ H2 _ (Py.Res.ok (Py.Sl.d (Py.D.lst (Py.zipD xs ys))) (Py.unlock (some i) (Py.lockAt (some i) xs h2))) := e
              rw [unlock_lockAt p2.st r1 e1] at e
              exact e
            | some j => exact e.elim
        refine ⟨k1, k2, a', b', vs, ws, rfl, q1, q2, fun S Ts hl hS hT nS ndT => ?_⟩
        have nd : (((S, HO.lst (Ts.map V.ref)) :: pairsL Ts vs ws).map (·.1)).Nodup := by
          rw [List.map_cons, pairsL_fst hl, List.nodup_cons]
          exact ⟨nS, ndT⟩
        have none_ : ∀ q ∈ (S, HO.lst (Ts.map V.ref)) :: pairsL Ts vs ws, H2 q.1 = none := fun q hq => by
          rcases List.mem_cons.mp hq with rfl | hq
          · exact hS
          · obtain ⟨j, x, y, t1, _⟩ := pairsL_mem hq
            exact hT _ (List.mem_of_getElem? t1)
        have sm := layL_same none_
        have hM : ∀ x, (live ρ2 h2 x ∨ x = S) → live ρ2 h2 x ∨ H2 x = none := fun x z => by
          rcases z with z | z
          · exact .inl z
          · rw [z]; exact .inr hS
        have nw : Nw (gx X g) (live ρ2 h2) H2 (layL ((S, HO.lst (Ts.map V.ref)) :: pairsL Ts vs ws) H2) (.lst (Py.zipD xs ys)) (.ref S) :=
          ⟨S, rfl, hS, ⟨S, Ts.map V.ref, rfl, layL_in (p := (S, HO.lst (Ts.map V.ref))) nd List.mem_cons_self, zip_rds (fun q hq => layL_in nd (List.mem_cons_of_mem _ hq)) hl (z1.keep (.same sm) p2.st.noTup hM) (z2.keep (.same sm) p2.st.noTup hM)⟩, trivial⟩
        exact fin ρ2 _ _ (pp.trans (.same p2.st sm)) (nw.rd p2.st.noTup sm) fun d z _ => by cases z; exact pp.nw sm nw
end
end Sd

set_option autoImplicit false
set_option linter.all false
set_option maxRecDepth 100000
namespace Sd
open PySem L2 PySem.Spec PyProof.Rows
section
variable {X : Cx} {g : G} {c : Fx} {W : WX} {cf : Py.CallF}
theorem so_gint {x : Str} {i : Int} {pos : Pos} (hg : Gl X x) (h : ∃ t, X.mg x = some (.int i t)) (hd : (x == ("__debug__" : Str)) = false := by decide) : PE X (.Name x pos) (tD g c W cf (Py.eCst (.int i))) := by
  obtain ⟨t, h⟩ := h
  exact so_glob (v := .int i) hg h ⟨t, rfl⟩ (fun _ _ => .int i) hd
theorem takes0 {X : Cx} : L2N.Takes X WNo := fun _ _ x => by
  obtain ⟨_, _, _, _, _, _, _, _, _, _, _, _, _, _, _, _, z⟩ := x
  exact z.elim
end
end Sd

set_option autoImplicit false
set_option linter.all false
namespace Sd
open PySem L2 PySem.Spec PyProof.Rows
/-- an empty set's object -/
abbrev eset (w : World) : Obj := { cls := .type "set", dict := none, data := .set #[] 0 (.fresh 0 0 (!w.params.followText "set-order")) }
section
variable {P : Program} {w : World} {A : Around} {E : Value → Shared → Prop} {s : Shared}
/-- what set(x) leaves -/
abbrev SetQ (P : Program) (w : World) (s : Shared) (ks : List (Addr × List Int)) (Q : Value → Shared → Prop) : Prop :=
  ∀ (h' : Heap) (tk : Nat) L es ep t, SetTR P w h' s.heap.objs.size L es ep t → Got ks ks.length L → (∀ b o, s.heap.get? b = some o → h'.get? b = some o) → Q (.ref s.heap.objs.size) { s with heap := h', toks := tk }
set_option maxRecDepth 100000 in
set_option maxHeartbeats 3200000 in
/-- set(x), x a tuple of tuples of ints -/
theorem set_tupsT {l : Addr} {xs : Array Value} (ks : List (Addr × List Int)) {Q : Value → Shared → Prop} (hh : A.handled = none) (hl : s.heap.IsTuple l xs) (hx : xs.toList = ks.map fun p => Value.ref p.1)
    (hk : ∀ p ∈ ks, IsT P w s.heap p.2 p.1) (hf : ks.length < 64) (hu : A.units + 3 < cLine) (h : SetQ P w s ks Q) : wpAny (model P w) A (call (.type "set") [.ref l]) Q E s := by
  have hn : xs.size = ks.length := by rw [← Array.length_toList, hx, List.length_map]
  have ⟨_, _, m1⟩ := F.called_set.mro
  have m2 := F.called_set.made
  have m3 := F.called_set.sub
  refine wpAny_call (codeAny_of_tree ?_)
  show wpAny _ _ (callAny (.type "set") _) _ _ _
  refine wpAny_pure ⟨Code.quiet_builtin _ (by decide +kernel), codeAny_builtin F.entry_type_call ?_⟩
  rw [Around.under_plain (weight_type_call_type "set" [.ref l] []) rfl]
  have m4 := F.called_set.notType
  have m5 := F.called_set.canCreate
  have m6 := F.typeCall_set_1 (.ref l)
  repeat (any_goals (first | assumption | wp_step))
  refine codeAny_mono (code_set_led1 (.ref l) (E := E) (Q₁ := fun v t => v = .ref s.heap.objs.size ∧ t = { s with heap := s.heap.push (eset w) }) ⟨rfl, rfl⟩) fun r t hr => ?_
  match r, hr with
  | .error _, hr => exact hr
  | .ok (.ret _), ⟨e1, e2⟩ =>
    cases e1
    cases e2
    have hS : (s.heap.push (eset w)).get? s.heap.objs.size = some (eset w) := Heap.get?_push_size _ rfl
    have hT : Shared.TypeIs { s with heap := s.heap.push (eset w) } (.ref s.heap.objs.size) "set" := ⟨_, hS, rfl⟩
    have m7 := F.called_set.init.lookup
    have m8 := F.called_set.init.bind (.ref s.heap.objs.size)
    repeat (any_goals (first | assumption | wp_step))
    refine codeAny_mono (codeAny_call_builtin (R := wants (fun r t => r = .none ∧ ∃ h' tk L es ep u, t = { s with heap := h', toks := tk } ∧ SetTR P w h' s.heap.objs.size L es ep u ∧ Got ks ks.length L ∧ ∀ b o, s.heap.get? b = some o → h'.get? b = some o) E) F.called_set.init.plain F.entry_set_init (check_set_init_1 hT ?_)) fun r t hr => ?_
    · obtain ⟨⟨ocls, odict, odata, oslots⟩, ho, hc, n, hd⟩ := hl
      simp only at hc hd
      subst hc
      subst hd
      have ho2 : (s.heap.push (eset w)).get? l = some { cls := .type "tuple", dict := odict, data := .seq xs n, slots := oslots } := Heap.get?_push_of_some _ ho
      have n1 := F.sub_tuple_set
      have n2 := F.sub_tuple_frozenset
      have n3 : (Value.type "tuple" == Value.type "dict") = false := by decide
      have hl2 : (s.heap.push (eset w)).IsTuple l xs := ⟨_, ho2, rfl, n, rfl⟩
      unfold Builtin.«set.__init__» noKeywords Builtin.Frozenset.updateFrom
      generalize hPI : pyIter = PI
      wp_walk
      subst hPI
      refine wpAny_pyIter_tuple hl2 ?_
      refine wpAny_bind (wpAny_runValue ?_)
      have lt : l < s.heap.objs.size := Heap.lt_size ho
      have h3 : A.in1.in1.in1.handled = none := by simp [hh]
      have z1 : (s.heap.push (eset w)).objs.size = s.heap.objs.size + 1 := Heap.size_push ..
      have ne : l ≠ (s.heap.push (eset w)).objs.size := by
        rw [z1]
        exact Nat.ne_of_lt (Nat.lt_succ_of_lt lt)
      have nf : s.heap.objs.size ∉ [(s.heap.push (eset w)).objs.size, l] := by
        rw [z1]
        intro z
        rcases List.mem_cons.mp z with z | z
        · exact Nat.ne_of_lt (Nat.lt_succ_self _) z
        · exact Nat.ne_of_gt lt (List.mem_singleton.mp z)
      have gone : ∀ b, s.heap.objs.size ≤ b → s.heap.get? b = none := fun b hb => by
        cases q : s.heap.get? b with
        | none => rfl
        | some o => exact absurd (Heap.lt_size q) (Nat.not_lt.mpr hb)
      have vals : ∀ (i : Nat) (v : Value), xs[i]? = some v → ∃ p, ks[i]? = some p ∧ v = .ref p.1 := fun i v hv => by
        have q : (ks.map fun p => Value.ref p.1)[i]? = some v := by rw [← hx, Array.getElem?_toList]; exact hv
        rw [List.getElem?_map] at q
        obtain ⟨p, e1, e2⟩ := Option.map_eq_some_iff.mp q
        exact ⟨p, e1, e2.symm⟩
      refine set_update_tups ((Walks.tuple h3 _ l ne xs).toS) s.heap.objs.size nf ks hn hf vals s.heap hk (gone _ (Nat.le_refl _)) (fun b hb => gone b (by
        rw [List.mem_singleton.mp hb, z1]
        exact Nat.le_succ _)) hu (xs.size - 0) 0 _ rfl (Nat.zero_le _) ⟨⟨_, Heap.get?_push_size _ rfl, rfl, rfl⟩, hl2.push _⟩ (fun b o e => Heap.get?_push_of_some _ (Heap.get?_push_of_some _ e)) ?hAA ?hBB
      case hAA => exact ⟨[], #[], 0, _, setTR_fresh (Heap.get?_push_of_some _ hS), Got.zero ks⟩
      case hBB =>
        intro t L es ep u hm hS' g' hkp
        obtain ⟨h', g2, d', tk', os'⟩ := t
        have e1 : g2 = s.gens := hm.gens
        have e2 : d' = s.drawn := hm.drawn
        have e3 : os' = s.os := hm.os
        cases e1
        cases e2
        cases e3
        show wpAny _ _ _ _ _ _
        refine wpAny_pure ?_
        show wpAny _ _ (ret Value.none) _ _ _
        rw [hn] at g'
        exact wpAny_pure ⟨rfl, h', tk', L, es, ep, u, rfl, hS', g', hkp⟩
    · match r, hr with
      | .error _, hr => exact hr
      | .ok (.ret _), ⟨e, h', tk, L, es, ep, u, e2, q1, q2, q3⟩ =>
        cases e
        cases e2
        repeat (any_goals (first | assumption | wp_step))
        exact h _ _ _ _ _ _ q1 q2 q3
end
end Sd

set_option autoImplicit false
set_option linter.all false
set_option maxRecDepth 100000
set_option maxHeartbeats 2000000
/-! SndN: len(set(x)), x a list or tuple of tuples of ints. -/
namespace Sd
open PySem L2 PySem.Spec PyProof.Rows
theorem ieq_iff {x y : Int} : Py.ieq x y = true ↔ x = y := by
  cases x <;> cases y <;> simp [Py.ieq] <;> omega
theorem eqR_iff : ∀ {x y : List Int}, Py.eqR x y = true ↔ x = y
  | [], [] => by simp [Py.eqR]
  | [], _ :: _ => by simp [Py.eqR]
  | _ :: _, [] => by simp [Py.eqR]
  | x :: xs, y :: ys => by
    rw [Py.eqR, List.cons.injEq]
    cases h : Py.ieq x y with
    | true => simp [ieq_iff.mp h, eqR_iff]
    | false =>
      have : x ≠ y := fun e => by rw [ieq_iff.mpr e] at h; cases h
      simp [this]
theorem memR_iff {x : List Int} : ∀ {ys : List (List Int)}, Py.memR x ys = true ↔ x ∈ ys
  | [] => by simp [Py.memR]
  | y :: ys => by
    rw [Py.memR, List.mem_cons]
    cases h : Py.eqR x y with
    | true => simp [eqR_iff.mp h]
    | false =>
      have : x ≠ y := fun e => by rw [eqR_iff.mpr e] at h; cases h
      simp [this, memR_iff]
theorem sub_len {l D : List (List Int)} (n : l.Nodup) (h : ∀ x ∈ l, x ∈ D) : l.length ≤ D.length := by
  induction l generalizing D with
  | nil => exact Nat.zero_le _
  | cons x l ih =>
    have n := List.nodup_cons.mp n
    have hx := h x List.mem_cons_self
    have q := ih (D := D.erase x) n.2 fun y hy => (List.mem_erase_of_ne fun (e : y = x) => n.1 (e ▸ hy)).mpr (h y (List.mem_cons_of_mem _ hy))
    rw [List.length_erase_of_mem hx] at q
    have := List.length_pos_of_mem hx
    rw [List.length_cons]
    omega
/-- the rows, each once -/
def once : List (List Int) → List (List Int)
  | [] => []
  | x :: xs => if x ∈ xs then once xs else x :: once xs
theorem once_mem : ∀ {xs : List (List Int)} {y : List Int}, y ∈ once xs ↔ y ∈ xs
  | [], _ => Iff.rfl
  | x :: xs, y => by
    rw [once]
    split
    · rename_i h
      rw [once_mem, List.mem_cons]
      exact ⟨.inr, fun q => q.elim (fun e => e ▸ h) id⟩
    · rw [List.mem_cons, List.mem_cons, once_mem]
theorem once_nodup : ∀ xs : List (List Int), (once xs).Nodup
  | [] => .nil
  | x :: xs => by
    rw [once]
    split
    · exact once_nodup xs
    · rename_i h
      exact List.nodup_cons.mpr ⟨fun q => h (once_mem.mp q), once_nodup xs⟩
theorem once_len : ∀ xs : List (List Int), (once xs).length = Py.distinct xs
  | [] => rfl
  | x :: xs => by
    rw [once, Py.distinct]
    by_cases h : x ∈ xs
    · rw [if_pos h, if_pos (memR_iff.mpr h), once_len]
    · rw [if_neg h, if_neg (fun q => h (memR_iff.mp q)), List.length_cons, once_len]
theorem got_len {ks L : List (Addr × List Int)} (g : Got ks ks.length L) (n : (L.map (·.2)).Nodup) : L.length = Py.distinct (ks.map (·.2)) := by
  have sub : ∀ p ∈ L, p ∈ ks := fun p h => List.mem_of_mem_take (g.sub p h)
  have all : ∀ p ∈ ks, p.2 ∈ L.map (·.2) := fun p h => g.all p (by rw [List.take_length]; exact h)
  rw [← once_len, ← List.length_map (f := (·.2)) (as := L)]
  refine Nat.le_antisymm (sub_len n fun x hx => ?_) (sub_len (once_nodup _) fun x hx => ?_)
  · obtain ⟨p, h1, rfl⟩ := List.mem_map.mp hx
    exact once_mem.mpr (List.mem_map.mpr ⟨p, sub p h1, rfl⟩)
  · obtain ⟨p, h1, rfl⟩ := List.mem_map.mp (once_mem.mp hx)
    exact all p h1
theorem rowsI_rds {K : PySem.W.Frag} {fa : Nat → Addr} {M : Addr → Prop} {H : Hp} : ∀ {xs : List D} {r : List (List Int)} {vs : List V}, Py.rowsI xs = some r → RDs K fa M H xs vs →
    ∃ ks : List (Addr × List Int), ks.map (·.2) = r ∧ vs = ks.map (fun p => V.ref p.1) ∧ ∀ p ∈ ks, SqT K H p.1 (p.2.map V.int)
  | [], r, _, e, .nil => by
    cases e
    exact ⟨[], rfl, rfl, fun p h => by cases h⟩
  | x :: xs, r, _, e, .cons (v := v) rx rr => by
    cases x with
    | tup ds =>
      rw [Py.rowsI] at e
      cases q1 : Py.intL ds with
      | none => rw [q1] at e; cases e
      | some n =>
        cases q2 : Py.rowsI xs with
        | none => rw [q1, q2] at e; cases e
        | some ns =>
          rw [q1, q2] at e
          cases e
          obtain ⟨ks, e1, e2, e3⟩ := rowsI_rds q2 rr
          cases rx with
          | tup s ri =>
            rename_i a ws
            have := ints_map q1
            subst this
            have := ints_vals ri
            subst this
            refine ⟨(a, n) :: ks, by rw [List.map_cons, e1], by rw [List.map_cons, e2], fun p h => ?_⟩
            rcases List.mem_cons.mp h with rfl | h
            · exact s
            · exact e3 p h
    | _ => simp [Py.rowsI] at e
section
variable {X : Cx} {g : G} {c : Fx} {W : WX} {cf : Py.CallF} {a : Expr} {da : Py.Dn} {p p2 q pos : Pos}
theorem so_lenSet (hc : X.calm = true) (hu : X.A.units + 64 < cLine) (hg : Gl X "len") (hm : X.mg "len" = none) (hg2 : Gl X "set") (hm2 : X.mg "set" = none) (ha : PE X a (tD (gx X g) c W cf da))
    (na : starEach [a] X.env = (false, eval a X.env) :: starEach [] X.env := by rfl) : PE X (.Call (.Name "len" p) [.Call (.Name "set" p2) [a] [] q] [] pos) (tD (gx X g) c W cf (Py.op1 Py.vLenSet da)) := by
  refine ⟨fun pins s σ H Q I ⟨ρ, env, h, re, rs, e⟩ => ?_⟩
  refine Call_ (ld_blt I hg hm PySem.boot_len ?_)
  refine PyProof.Rows.callWith_builtin1 (PyProof.Rows.args_cons ?_ rfl) rfl rfl
  refine Call_ (ld_blt I hg2 hm2 PyProof.Rows.boot_set ?_)
  refine PyProof.Rows.callWith_type1 (PyProof.Rows.args_cons (thn (ha.run pins s σ H (fun v H1 => ∃ (b : Addr) (ks : List (Addr × List Int)), v = .ref b ∧ (SqL X.K H1 b (ks.map fun p => V.ref p.1) ∨ SqT X.K H1 b (ks.map fun p => V.ref p.1)) ∧ (∀ p ∈ ks, SqT X.K H1 p.1 (p.2.map V.int)) ∧ ks.length < 64 ∧ Q (.int (Py.distinct (ks.map (·.2)))) H1) I ?_) fun v s1 ⟨x, H1, I1, r1, q1⟩ => PyProof.Rows.args_nil ?_) na) na rfl
  · refine tD.go re rs e fun x h1 ρ1 v H1 p1 r1 e => ?_
    obtain ⟨u, e1, e⟩ := e.of
    obtain ⟨r, e3, e⟩ := e.of
    have rd := p1.st.rd r1 e1
    have fin : ∀ (ds : List D) (vs : List V), Py.seqOf u = some ds → RDs (gx X g).K (gx X g).fa (live ρ1 h1) H1 ds vs → ∃ ks : List (Addr × List Int), vs = (ks.map fun p => V.ref p.1) ∧ (∀ p ∈ ks, SqT X.K H1 p.1 (p.2.map V.int)) ∧ ks.length < 64 ∧ Q (.int (Py.distinct (ks.map (·.2)))) H1 := fun ds vs e4 rr => by
      rw [Py.vLenSet, e4] at e3
      simp only at e3
      cases q1 : Py.rowsI ds with
      | none => rw [q1] at e3; cases e3
      | some rw' =>
        rw [q1] at e3
        simp only at e3
        split at e3
        · rename_i hl
          cases e3
          obtain ⟨ks, k1, k2, k3⟩ := rowsI_rds q1 rr
          have hl : rw'.length < 64 := by
            simp [Nat.blt] at hl
            omega
          refine ⟨ks, k2, k3, by rw [← k1, List.length_map] at hl; exact hl, ?_⟩
          rw [k1]
          exact e ρ1 _ H1 p1 (.int _)
        · cases e3
    cases u with
    | lst ds =>
      obtain ⟨b, vs, rfl, z1, z2⟩ := rd
      obtain ⟨ks, rfl, k3, k4, k5⟩ := fin ds vs rfl z2
      exact ⟨b, ks, rfl, .inl (SqL.of z1), k3, k4, k5⟩
    | tup ds =>
      cases rd with
      | tup z1 z2 =>
        rename_i b vs
        obtain ⟨ks, rfl, k3, k4, k5⟩ := fin ds vs rfl z2
        exact ⟨b, ks, rfl, .inr z1, k3, k4, k5⟩
    | _ => simp [Py.vLenSet, Py.seqOf] at e3
  · obtain ⟨b, ks, rfl, hs, hk, hf, q1⟩ := q1
    cases r1
    rcases hs with hs | hs
    · obtain ⟨its, r, pl, hz⟩ := I1.list hs
      refine call_set_tups (P := X.prog) (w := X.w) ks (I1.ok.hd hc) pl.isList (by simpa using refs_of_vals r) (fun p hp => I1.isT (hk p hp)) hf (by omega) fun h' tk L es ep t R g k => ?_
      refine PyProof.Rows.args_nil ?_
      obtain ⟨o, ho, hex, hd⟩ := R.ob
      have hn := got_len g R.nd
      have hz := SetTR.size (s := { s1 with heap := h', toks := tk }) R
      have hl := R.few
      exact call_len_set ho hex hd (SetTR.fits (s := { s1 with heap := h', toks := tk }) R) (by rw [hz]; omega) ⟨.int (Py.distinct (ks.map (·.2))), H1, (I1.kept k).tok _, ⟨_, by rw [hz, hn]⟩, q1⟩
    · obtain ⟨its, r, pl, hz⟩ := I1.tuple hs
      refine set_tupsT (P := X.prog) (w := X.w) ks (I1.ok.hd hc) pl (by simpa using refs_of_vals r) (fun p hp => I1.isT (hk p hp)) hf (by omega) fun h' tk L es ep t R g k => ?_
      refine PyProof.Rows.args_nil ?_
      obtain ⟨o, ho, hex, hd⟩ := R.ob
      have hn := got_len g R.nd
      have hz := SetTR.size (s := { s1 with heap := h', toks := tk }) R
      have hl := R.few
      exact call_len_set ho hex hd (SetTR.fits (s := { s1 with heap := h', toks := tk }) R) (by rw [hz]; omega) ⟨.int (Py.distinct (ks.map (·.2))), H1, (I1.kept k).tok _, ⟨_, by rw [hz, hn]⟩, q1⟩
end
end Sd

set_option autoImplicit false
set_option linter.all false
set_option maxRecDepth 100000
set_option maxHeartbeats 2000000
/-! SndO: sep.join(a list of texts). -/
namespace Sd
open PySem L2 PySem.Spec PyProof.Rows
theorem joinS_strs {sep : List Nat} : ∀ {xs : List D} {s : List Nat}, Py.joinS sep xs = some s → ∃ ys : List (List Nat), xs = ys.map Py.D.str ∧ s = TL.joinL sep ys ∧ (ys.map (·.length)).sum + ys.length * sep.length ≤ s.length + sep.length
  | [], s, e => by
    cases e
    exact ⟨[], rfl, rfl, by simp⟩
  | [.str x], s, e => by
    cases e
    exact ⟨[x], rfl, rfl, by simp⟩
  | .str x :: y :: r, s, e => by
    rw [Py.joinS] at e
    · cases q : Py.joinS sep (y :: r) with
      | none => rw [q] at e; cases e
      | some t =>
        rw [q] at e
        cases e
        obtain ⟨ys, e1, rfl, e3⟩ := joinS_strs q
        cases ys with
        | nil => cases e1
        | cons z zs =>
          refine ⟨x :: z :: zs, by rw [List.map_cons, e1], rfl, ?_⟩
          simp only [List.map_cons, List.sum_cons, List.length_cons, List.length_append, Nat.add_mul, Nat.one_mul] at e3 ⊢
          omega
    · simp
  | .non :: _, _, e => by simp [Py.joinS] at e
  | .bl _ :: _, _, e => by simp [Py.joinS] at e
  | .int _ :: _, _, e => by simp [Py.joinS] at e
  | .tup _ :: _, _, e => by simp [Py.joinS] at e
  | .lst _ :: _, _, e => by simp [Py.joinS] at e
  | .dct _ _ :: _, _, e => by simp [Py.joinS] at e
  | .fn _ :: _, _, e => by simp [Py.joinS] at e
theorem strs_vals {K : PySem.W.Frag} {fa : Nat → Addr} {M : Addr → Prop} {H : Hp} : ∀ {ys : List (List Nat)} {vs : List V}, RDs K fa M H (ys.map Py.D.str) vs → vs = (ys.map sOf).map V.str
  | [], _, .nil => rfl
  | n :: ns, _, .cons r rr => by
    cases r
    rw [strs_vals rr]
    rfl
theorem join_sOf (sep : List Nat) (ys : List (List Nat)) : Txt.join (sOf sep) (ys.map sOf) = sOf (TL.joinL sep ys) := by
  have e : TL.tl (Txt.join (sOf sep) (ys.map sOf)) = TL.joinL sep ys := by
    rw [TL.join_eq, TL.tl_join, List.map_map]
    have : (TL.tl ∘ sOf) = id := funext fun x => by simp [TL.tl, sOf]
    rw [this, List.map_id]
    simp [TL.tl, sOf]
  exact TL.ext_tl (e.trans (by simp [TL.tl, sOf]))
section
variable {X : Cx} {g : G} {c : Fx} {W : WX} {cf : Py.CallF} {o e : Expr} {do' de : Py.Dn} {apos pos : Pos}
theorem so_join {sep : List Nat} (ho : PE X o (tD (gx X g) c W cf (Py.eCst (.str sep)))) (he : PE X e (tD (gx X g) c W cf de)) (hs : starEach [e] X.env = [(false, eval e X.env)] := by rfl) (hbase : attributeBase o "join" X.env (eval o X.env) = eval o X.env := by rfl) (hline : (apos.endLine == pos.line) = true := by rfl) :
    PE X (.Call (.Attribute o "join" apos) [e] [] pos) (tD (gx X g) c W cf (Py.op2 Py.vJoin (Py.eCst (.str sep)) de)) :=
  (pe_join ho he hs hbase hline).imp fun σ H Q ⟨ρ, env, h, re, rs, e⟩ => by
    refine ⟨ρ, env, h, re, rs, fun ρ1 v H1 p1 r1 => ?_⟩
    have e : EndR (gx X g) W ρ h σ H (fun x h' => ∀ ρ' v H', Post (gx X g) ρ h H ρ' h' H' → RRs (gx X g) c ρ' h' H H' x v → Q v H') ((de cf env h).bind fun y h2 => Py.Res.of (Py.rd (.d (.str sep)) h2) fun u => Py.Res.of (Py.rd y h2) fun v => Py.Res.of (Py.vJoin u v) fun r => .ok (.d r) h2) := e
    have rv := p1.st.rd r1 rfl
    cases rv.str'
    refine ⟨⟨_, rfl⟩, tD.go (re.keep p1 rs.noTup) p1.st (e.later p1) fun y h2 ρ2 w H2 p2 r2 e => ?_⟩
    obtain ⟨u, e1, e⟩ := e.of
    obtain ⟨z, e2, e⟩ := e.of
    obtain ⟨r, e3, ef⟩ := e.of
    cases e1
    have rd := p2.st.rd r2 e2
    cases z with
    | lst xs =>
      obtain ⟨b, vs, rfl, z1, z2⟩ := rd
      rw [Py.vJoin] at e3
      cases q : Py.joinS sep xs with
      | none => rw [q] at e3; cases e3
      | some s =>
        rw [q] at e3
        simp only at e3
        split at e3
        · rename_i hl
          cases e3
          obtain ⟨ys, rfl, es, hz⟩ := joinS_strs q
          have hl : s.length + sep.length ≤ 16777216 := Nat.ble_eq.mp hl
          refine ⟨sOf sep, b, ys.map sOf, rfl, rfl, .inl (by rw [← strs_vals z2]; exact SqL.of z1), ?_, ?_⟩
          · have e1 : (ys.map sOf).map (·.length) = ys.map (·.length) := by
              rw [List.map_map]
              exact List.map_congr_left fun x _ => by simp [sOf, Str.length]
            rw [e1, List.length_map]
            have e2 : (sOf sep).length = sep.length := by simp [sOf, Str.length]
            rw [e2]
            exact Nat.le_trans hz hl
          · rw [join_sOf, ← es]
            exact ef ρ2 _ H2 (p1.trans p2) (.str _)
        · cases e3
    | _ => simp [Py.vJoin] at e3
end
end Sd

set_option autoImplicit false
set_option linter.all false
set_option maxRecDepth 100000
set_option maxHeartbeats 2000000
/-! SndHx: name = [..] in an except suite. -/
namespace Sd
open PySem L2 L2H PySem.Spec PyProof.Rows
section
variable {X : Cx} {g : G} {c : Fx} {W : WX} {cf : Py.CallF} {da : Py.Dn} {pos : Pos}
abbrev BkH (X : Cx) (s : Shared) (H : Hp) (scope : Scope) (C : Addr) (cl : List (Str × Addr)) (fp : List Addr) : Cx := blkH X s H scope (compEnvC scope cl C X.env) fp
theorem ss_setLcH {k : Nat} {y : Str} {py spos : Pos} {elt tg iter : Expr} {ifs : List Expr} {scope : Scope} {own : List (Str × Nat)} {vs : List Nat} {i : Py.In} {γ : Py.Gn} {t : Py.Tn} (hc : HotC X) (hN : X.N.Nodup) (ho : own.map (·.2) = vs) (hy : X.N[k]? = some y) (hyl : X.env.scope.names.lookup y = some .local)
    (hsw : swapsWith (.ListComp elt [⟨tg, iter, ifs, 0⟩] scope pos) (some (.Name y py)) spos.line X.env = pure true) (hi : PIH X tg iter (tI g c W cf i)) (ok : BlkOk X.N X.env.scope scope own)
    (hg : ∀ (s : Shared) (H : Hp) (C : Addr) (cl : List (Str × Addr)) (fp : List Addr), PG (BkH X s H scope C cl fp) tg (tG g c vs γ)) (ht : ∀ (s : Shared) (H : Hp) (C : Addr) (cl : List (Str × Addr)) (fp : List Addr), PTs (BkH X s H scope C cl fp) ifs (tT g c WNo cf t))
    (he : ∀ (s : Shared) (H : Hp) (C : Addr) (cl : List (Str × Addr)) (fp : List Addr), PE (BkH X s H scope C cl fp) elt (tD g c WNo cf da)) (hs : ∀ x, foldedSetIterable iter X.env x = pure x := by intro _; rfl) :
    PS X (.Assign [.Name y py] (.ListComp elt [⟨tg, iter, ifs, 0⟩] scope pos) spos) (tS g c W cf (Py.sAsg k (Py.eComp vs i γ t da))) := by
  subst ho
  exact (ps_setLcH hc hN hy hyl hsw hi ok hg ht he hs).imp fun D σ H t => lc_of (tN.weak (asg_of t))
end
end Sd

set_option autoImplicit false
set_option linter.all false
set_option maxRecDepth 100000
set_option maxHeartbeats 2000000
/-! SndHp: a tuple taken apart while an exception is handled. -/
namespace Sd
open PySem L2 L2H PySem.Spec PyProof.Rows HotX
section
variable {P : Program} {w : World} {A : Around} {E : Value → Shared → Prop} {s : Shared}
theorem pyNext_tuple_hot {x1 it t : Addr} {i : Nat} {items : Array Value} {Q : Option Value → Shared → Prop} (hot : HotAt A x1 s.heap) (hn : x1 ≠ it) (hit : s.heap.IsTupleIter it t i) (ht : s.heap.IsTuple t items) (hx : items[i]? = none)
    (hQ : ∀ h', Heap.ExtBut it s.heap h' → Q none { s with heap := h' }) : wpAny (model P w) A (pyNext (.ref it)) Q E s := by
  obtain ⟨o, ho, hc, hd⟩ := id hit
  obtain ⟨ol, hol, _, nl, hdl⟩ := ht
  unfold pyNext
  refine wpAny_bind (wpAny_attempt (wpAny_callSpecial?_slot (name := Str.ofString "__next__") hit.typeIs F.slot_tuple_iterator_next (wpAny_call_entry F.slot_tuple_iterator_next hit.typeIs F.entry_tuple_iterator_next ?_ (F.args_tuple_iterator_next_1 _))))
  show wpAny _ _ (field (.ref it) 0 >>= _) _ _ s
  refine wpAny_bind (wpAny_field ho hd (x := .ref t) rfl ?_)
  show wpAny _ _ (if (Value.ref t == Value.none) = true then _ else _) _ _ s
  rw [if_neg (show ¬ ((Value.ref t == Value.none) = true) from Bool.false_ne_true)]
  show wpAny _ _ (field (.ref it) 1 >>= _) _ _ s
  refine wpAny_bind (wpAny_field ho hd (x := .int i 0) rfl ?_)
  show wpAny _ _ (seqItems? (.ref t) >>= _) _ _ s
  refine wpAny_bind (wpAny_seqItems hol hdl ?_)
  simp only [Int.toNat_natCast, hx]
  refine wpAny_bind (wpAny_rule (wpAny_bind (wpAny_setField ho hd (by simp) ?_)))
  refine stop_hot (A := A.in1) hot ho hd hn fun h' e k ⟨o2, e1, c1⟩ => ?_
  exact wpAny_bind (wpAny_isInstance (T := "StopIteration") (b := true) ⟨o2, e1, c1⟩ isSubtype_stop (wpAny_pure (hQ _ k)))
theorem assign_tup_hot {x1 : Addr} {env : Env} {elts : List Expr} {k : Nat} {pos : Pos} {t : Addr} {items : Array Value} {Q : Unit → Shared → Prop} (hot : HotAt A x1 s.heap) (ht : s.heap.IsTuple t items)
    (hn : (assignEach elts env).length = items.size) (hstar : (assignEach elts env).findIdx? (·.1) = none)
    (h : ∀ h', Heap.ExtBut s.heap.objs.size s.heap h' → wpAny (model P w) A (assignInOrder ((assignEach elts env).map (·.2)) items.toList) Q E { s with heap := h' }) :
    wpAny (model P w) A (assign (.Tuple elts k pos) env (.ref t)) Q E s := by
  have hlt : t ≠ s.heap.objs.size := by obtain ⟨o, ho, _⟩ := ht; exact Nat.ne_of_lt (Heap.lt_size ho)
  obtain ⟨hh, ox, vx, e1, d1, c1⟩ := hot
  have hx : x1 ≠ s.heap.objs.size := Nat.ne_of_lt (Heap.lt_size e1)
  rw [PyProof.Rows.assign_Tuple]
  refine wpAny_bind (wpAny_standAt ?_)
  unfold unpack
  rw [hn, hstar]
  refine wpAny_bind (wpAny_holding ?_)
  show wpAny _ _ (unpackItems (.ref t) items.size none) _ _ s
  unfold unpackItems
  refine wpAny_bind ?_
  unfold notIterableAtAll
  refine wpAny_bind (wpAny_specialOf ht.typeIs F.slot_tuple_iter.lookup (wpAny_pure ?_))
  simp only [Bool.false_eq_true, if_false]
  refine wpAny_bind (wpAny_holding (wpAny_pyIter_tuple ht ?_))
  refine wpAny_bind (wpAny_holding (wpAny_draw_tuple hlt items.size 0 _ _ ⟨_, Heap.get?_push_size _ rfl, rfl, rfl⟩ (ht.push _) (by omega) fun h₁ hit₁ hs₁ => ?_))
  have hall : List.take items.size (List.drop 0 items.toList) = items.toList := by
    rw [List.drop_zero]; exact List.take_of_length_le (by simp)
  rw [hall, if_neg (by simp)]
  have ht₁ : h₁.IsTuple t items := (ht.push _).extBut hs₁.extBut hlt
  have hot₁ : HotAt A x1 h₁ := ⟨hh, ox, vx, hs₁.extBut _ _ hx (Heap.get?_push_of_some _ e1), d1, c1⟩
  refine wpAny_bind (wpAny_holding (pyNext_tuple_hot (s := { s with heap := h₁ }) hot₁ hx hit₁ ht₁ (by simp) fun h₂ he₂ => ?_))
  simp only [Option.isSome_none, Bool.false_eq_true, if_false]
  exact wpAny_pure (h h₂ fun b o hb e => he₂ b o hb (hs₁.extBut b o hb (Heap.get?_push_of_some _ e)))
end
section
variable {X : Cx} {g : G} {c : Fx}
theorem pg_tupH {es : List Expr} {k : Nat} {t : TGs} {n : Nat} {pos : Pos} (hc : HotC X) (h : PGs X es t) (hn : (assignEach es X.env).length = n := by rfl) (hst : (assignEach es X.env).findIdx? (·.1) = none := by rfl) : PG X (.Tuple es k pos) (gTup X.K n t) := by
  refine ⟨fun pins s σ H v u Q I r hw => ?_⟩
  obtain ⟨a, xs, e1, hq, hl, hw⟩ := hw
  subst e1
  cases r
  obtain ⟨its, rv, ht, hz⟩ := I.tuple hq
  obtain ⟨x1, hot⟩ := hc.at I
  refine assign_tup_hot hot ht (by simp [hn, ← hl, rv.length]) hst fun h' hx => ?_
  exact h.run pins _ σ H xs _ Q (I.kept (t' := s.toks) fun b o e => hx b o (Nat.ne_of_lt (Heap.lt_size e)) e) (by simpa using rv) hw
theorem sg_tupH {ws : List Nat} {es : List Expr} {k n : Nat} {γs : List D → Py.Ev → Option Py.Ev} {pos : Pos} (hc : HotC X) (h : PGs X es (tGs (gx X g) c ws γs)) (hl : ∀ ds env env', γs ds env = some env' → ds.length = n)
    (hn : (assignEach es X.env).length = n := by rfl) (hst : (assignEach es X.env).findIdx? (·.1) = none := by rfl) : PG X (.Tuple es k pos) (tG (gx X g) c ws (Py.gTup γs)) :=
  (pg_tupH hc h hn hst).imp fun v σ H Q ⟨ρ, h, env, d, env', re, rs, r, e, q⟩ => by
    cases d with
    | tup ds =>
      cases r with
      | tup h1 h2 => exact ⟨_, _, rfl, h1, by rw [← h2.length]; exact hl _ _ _ e, ρ, h, env, ds, env', re, rs, h2, e, q⟩
    | _ => cases e
end
end Sd

set_option autoImplicit false
set_option linter.all false
set_option maxRecDepth 100000
set_option maxHeartbeats 2000000
/-! SndLa: a lambda handed to a def that calls it; exceptions as L2N tells them. -/
namespace Sd
open PySem L2 PySem.Spec PyProof.Rows
section
variable {X : Cx} {pins : List (Addr × Obj)} {σ : L2.St} {H : Hp} {s : Shared}
/-- the lambda is made; nothing that was tracked is lost -/
theorem lam_made {T : List (Addr × Str)} {c P : Addr} {params : Arguments} {body : Expr} {scope : Scope} {pos : Pos} {E : Value → Shared → Prop} {Q : Value → Shared → Prop} (I : Inv X pins σ H s) (TB : LamX.TabB X.base X.mg c P) (hcode : X.env.code = .ref c)
    (hm : (P, X.env.qual ++ "<lambda>") ∈ T) (hu : ∀ p ∈ T, p.1 = P → p.2 = X.env.qual ++ "<lambda>") (hT : LamX.Tabs T H) (hdef : defaultsOf params X.env = ([], [])) (hfree : ∀ y ∈ scope.names, y.2 = .free → ∃ c, X.env.cells.lookup y.1 = some c)
    (h : ∀ (f c' : Addr) (pm ctv : Value) (H1 : Hp) (s' : Shared), Inv X pins σ H1 s' → LamX.ExtN H H1 → (∀ b o, H b = some o → ∃ o', H1 b = some o') → LamX.Tabs T H1 →
      s'.heap.get? f = some (PySem.W.kla_obj "<lambda>" (X.env.qual ++ "<lambda>") params body scope (cloFrom X.env.cells scope.names []) pm c' ctv) → H1 f = none → f ∉ frs X.stack → H1 c' = some (LamX.CodeO c' (X.env.qual ++ "<lambda>")) → Q (.ref f) s') :
    wpAny (model X.prog X.w) X.A (eval (.Lambda params body scope pos) X.env) Q E s := by
  obtain ⟨ps, hP, ht, ha⟩ := hT _ hm
  refine PySem.W.kla_eval hdef ?_
  have bP := TB.bm.keeps I.bk
  have hP' : s.heap.get? P = some { cls := .none, data := .fields ps } := I.hok P _ hP
  have nofr : ∀ f, s.heap.objs.size ≤ f → f ∉ frs X.stack := fun f hf z => by
    rcases List.mem_cons.mp (I.stkSub _ z) with e | e
    · have h1 := I.lt
      rw [← e] at h1
      exact Nat.lt_irrefl _ (Nat.lt_of_lt_of_le h1 hf)
    · exact I.nofs hf e
  cases hc : codeAmong pos ps.toList with
  | some cv =>
    obtain ⟨c', e, hco⟩ := ha pos cv hc
    subst e
    refine PySem.W.kla_makeFunctionHit (mg := X.mg) (c := c) (P := P) (ps := ps) (closure_ok hfree) I.ok.glob (I.mod.glob.keeps I.bk) hcode (TB.code.keeps I.bk) hP' ht hc bP fun ctv h' tk hx hsz => ?_
    exact h h'.objs.size c' ((X.mg "__name__").getD .none) ctv H _ (I.kept fun b o e => Heap.get?_push_of_some _ (hx b o e)) (LamX.ExtN.refl H) (fun b o e => ⟨o, e⟩) hT (Heap.get?_push_size _ rfl) (I.hok.fresh hsz) (nofr _ hsz) hco
  | none =>
    refine PySem.W.kla_makeFunction (mg := X.mg) (c := c) (P := P) (ps := ps) (closure_ok hfree) I.ok.glob (I.mod.glob.keeps I.bk) hcode (TB.code.keeps I.bk) hP' ht hc TB.gP bP fun c' ctv h' tk hx hge hlt hrec htb => ?_
    obtain ⟨c2, oc, vs, t, e2, hoc, hd, hv⟩ := hrec
    cases e2
    have hsz : s.heap.objs.size ≤ h'.objs.size := Nat.le_trans hge (Nat.le_of_lt hlt)
    have nC : H c' = none := I.hok.fresh hge
    have I1 := LamX.inv_table (t' := tk) (more := #[rawInt pos.line, rawInt pos.col, .ref c']) (h' := h'.push (PySem.W.kla_obj "<lambda>" (X.env.qual ++ "<lambda>") params body scope (cloFrom X.env.cells scope.names []) ((X.mg "__name__").getD .none) c' ctv)) I hP
      (fun b o hb e => Heap.get?_push_of_some _ (hx b o hb e)) (Heap.get?_push_of_some _ htb) hge ⟨oc, vs, t, Heap.get?_push_of_some _ hoc, hd, hv⟩
    have old : ∀ b o, H b = some o → b ≠ P → upd (upd H P (.tbl (ps ++ #[rawInt pos.line, rawInt pos.col, .ref c']))) c' (LamX.CodeO c' (X.env.qual ++ "<lambda>")) b = some o := fun b o e n => by rw [upd_ne (ne_of_none e nC), upd_ne n]; exact e
    have hE : LamX.ExtN H (upd (upd H P (.tbl (ps ++ #[rawInt pos.line, rawInt pos.col, .ref c']))) c' (LamX.CodeO c' (X.env.qual ++ "<lambda>"))) := fun b o e n => old b o e fun z => n ps (Option.some.inj (e.symm.trans (by rw [z]; exact hP)))
    have atP : upd (upd H P (.tbl (ps ++ #[rawInt pos.line, rawInt pos.col, .ref c']))) c' (LamX.CodeO c' (X.env.qual ++ "<lambda>")) P = some (.tbl (ps ++ #[rawInt pos.line, rawInt pos.col, .ref c'])) := by rw [upd_ne (ne_of_none hP nC), upd_same]
    have eL : (ps ++ #[rawInt pos.line, rawInt pos.col, .ref c']).toList = ps.toList ++ [rawInt pos.line, rawInt pos.col, .ref c'] := by simp
    refine h h'.objs.size c' ((X.mg "__name__").getD .none) ctv _ _ I1 hE (fun b o e => ?_) (fun p hp => ?_) (Heap.get?_push_size _ rfl) ?_ (nofr _ hsz) upd_same
    · by_cases hb : b = P
      · exact ⟨_, by rw [hb]; exact atP⟩
      · exact ⟨o, old b o e hb⟩
    · by_cases hb : p.1 = P
      · rw [hu p hp hb, hb]
        refine ⟨_, atP, by rw [eL]; exact PySem.TriplesOk_snoc _ _ _ _ ht, fun p' cv hcv => ?_⟩
        rw [eL] at hcv
        rcases LamX.among_app _ ht hcv with z | z
        · obtain ⟨c0, e1, e2⟩ := ha p' cv z
          exact ⟨c0, e1, hE _ _ e2 LamX.codeO_ne⟩
        · exact ⟨c', z, upd_same⟩
      · obtain ⟨ps', a1, a2, a3⟩ := hT p hp
        refine ⟨ps', old _ _ a1 hb, a2, fun p' cv hcv => ?_⟩
        obtain ⟨c0, e1, e2⟩ := a3 p' cv hcv
        exact ⟨c0, e1, hE _ _ e2 LamX.codeO_ne⟩
    · have n1 : h'.objs.size ≠ c' := Nat.ne_of_gt hlt
      have n2 : h'.objs.size ≠ P := Nat.ne_of_gt (Nat.lt_of_lt_of_le (Heap.lt_size hP') hsz)
      rw [upd_ne n1, upd_ne n2]
      exact I.hok.fresh hsz
/-- the context of the lambda's body -/
abbrev lamN (X : Cx) (A : Around) (outer : List Env) (s : Shared) (H : Hp) (E : XK) (scope : Scope) (f c' : Addr) : Cx :=
  { LamX.lamCx X A outer s H E scope f c' with xe := fun e s' => wpAny (model X.prog X.w) (A.deeper (LamX.lamEnv X scope s.heap.objs.size f c')) (leaving (LamX.lamEnv X scope s.heap.objs.size f c') e) (fun _ s'' => L2N.CX X.prog X.w outer H s E e s'') (fun e' s'' => L2N.CX X.prog X.w outer H s E e' s'') s' }
/-- a(), in the def that got the lambda -/
theorem pe_actN {CXg : CXT} {Eg : XK} {Ng : List Str} {qg : Str} {sg : Scope} {g f c' : Addr} {cdg pm ctv : Value} {params : Arguments} {body : Expr} {scope : Scope} {k i : Nat} {a : Str} {pn : List (Addr × Obj)} {xe : Value → Shared → Prop} {W : WX} {tb : XK → TE} {p1 p2 : Pos}
    (I : Inv X pins σ H s) (L : LamX.LamS X.env.scope scope) (hf : s.heap.get? f = some (PySem.W.kla_obj "<lambda>" (X.env.qual ++ "<lambda>") params body scope (cloFrom X.env.cells scope.names []) pm c' ctv)) (hfn : H f = none) (hfr : f ∉ frs X.stack)
    (hbind : bindArgs (PySem.W.kla_fn "<lambda>" (X.env.qual ++ "<lambda>") params body scope (cloFrom X.env.cells scope.names []) pm (.ref c') ctv) ⟨[], []⟩ = pure [])
    (tk : L2N.Takes ((cxOf CXg X.prog X.w X.K X.mg X.base Ng qg sg g cdg X.A X.stack s H Eg).tr pn xe) W) (hr : Room (k + 1) (X.A.deeper (envOfC qg sg s.heap.objs.size g cdg)))
    (hbody : ∀ (A : Around) (outer : List Env) (s : Shared) (H : Hp) (E : XK), Room k (A.deeper (LamX.lamEnv X scope s.heap.objs.size f c')) → PE (lamN X A outer s H E scope f c') body (tb E))
    (hN : Ng[i]? = some a) (hv : Vis sg a) (hd : (a == ("__debug__" : Str)) = false) (hcd : (a == ("__classdict__" : Str)) = false) :
    PE ((cxOf CXg X.prog X.w X.K X.mg X.base Ng qg sg g cdg X.A X.stack s H Eg).tr pn xe) (.Call (.Name a p1) [] [] p2)
      (fun σZ HZ Q => σZ[i]? = some (some (.ref f)) ∧ HZ c' = some (LamX.CodeO c' (X.env.qual ++ "<lambda>")) ∧ tb (WE W σZ) σ HZ Q) := by
  refine ⟨fun pinsZ sZ σZ HZ Q IZ h => ?_⟩
  obtain ⟨hs, hc, ht⟩ := h
  refine wpAny_Call_Name_kw (thn ((pe_var (pos := p1) (i := i) hN hv hd hcd).run pinsZ sZ σZ HZ (fun v H1 => v = .ref f ∧ H1 = HZ) IZ ⟨.ref f, hs, rfl, rfl⟩) fun u s1 ⟨v, H1, I1, r1, q1⟩ => ?_)
  obtain ⟨ev, eH⟩ := q1
  subst ev
  rw [eH] at I1
  obtain rfl : u = Value.ref f := r1
  have of1 := I1.base.keep f _ hf hfn hfr (fun z => nomatch (show f ∈ ([] : List Addr) from z))
  refine PySem.W.callWith_F0 ⟨_, _, _, _, of1⟩ ?_
  have un : Un (frs X.stack) [] H HZ s.heap s1.heap := I1.base
  obtain ⟨⟨oc, vs, t, hoc, hdc, hvc⟩, _, _⟩ := I1.hok c' _ hc
  have rc : codeAny (model X.prog X.w) (X.A.deeper (envOfC qg sg s.heap.objs.size g cdg)) (.call (.ref f) ⟨[], []⟩) (CR (L2N.CX X.prog X.w) (envOfC qg sg s.heap.objs.size g cdg :: X.stack) X.prog X.w HZ s1 Q (WE W σZ)) s1 := by
    refine PySem.W.kla_callFunE hr.depth of1 rfl L.co L.gen rfl ⟨c', oc, vs, t, rfl, hoc, hdc, hvc⟩ ?_
    rw [hbind]
    refine wpAny_pure (wpAny_newFunctionEnv (fun y hy => (L.own y hy).2) (fun y hy => absurd hy (by simp)) (fun h₁ hns hsb => ⟨I1.nolimit.fresh _ hsb, ?_⟩) L.kind)
    show codeAny _ _ (.expr body (LamX.lamEnv X scope s1.heap.objs.size f c')) _ _
    have kp : ∀ b o, s1.heap.get? b = some o → h₁.get? b = some o := fun b o e => hsb.extBut b o (Nat.ne_of_lt (Heap.lt_size e)) (Heap.get?_push_of_some _ e)
    have J : Inv (LamX.lamCx X (X.A.deeper (envOfC qg sg s.heap.objs.size g cdg)) (envOfC qg sg s.heap.objs.size g cdg :: X.stack) s1 HZ (WE W σZ) scope f c') [] σ HZ { s1 with heap := h₁, toks := s1.toks + ([] : List (Str × Value)).length } :=
      LamX.lam_start2 I L I1.env0 hr.hd un hns kp
    have J' : Inv (lamN X (X.A.deeper (envOfC qg sg s.heap.objs.size g cdg)) (envOfC qg sg s.heap.objs.size g cdg :: X.stack) s1 HZ (WE W σZ) scope f c') [] σ HZ { s1 with heap := h₁, toks := s1.toks + ([] : List (Str × Value)).length } := J.toTry _
    refine PySem.W.kla_codeExpr (wpAny_mono ((hbody _ _ s1 HZ (WE W σZ) (hr.deeper _)).run [] _ _ HZ Q J' ht) (fun v s' hq => ?_) fun e s' hq => hq)
    obtain ⟨w', H', J', rv, q⟩ := hq
    exact ⟨w', H', J'.os, J'.bare, J'.base, J'.hok, rv, q⟩
  refine wpAny_call (codeAny_mono rc fun r s' hq => ?_)
  cases r with
  | error e => exact L2N.passAt tk σZ pinsZ HZ s1 e s' I1 hq
  | ok fl =>
    cases fl with
    | ret u => exact I1.after hq
    | next => exact False.elim hq
    | brk => exact False.elim hq
    | cont => exact False.elim hq
end
end Sd

set_option autoImplicit false
set_option linter.all false
set_option maxRecDepth 100000
set_option maxHeartbeats 2000000
/-! SndLb: f(lambda: e); a def that gets a lambda. -/
namespace Sd
open PySem L2 PySem.Spec PyProof.Rows
theorem dEnv_len : ∀ env : Py.Ev, (Py.dEnv env).length = env.length
  | [] => rfl
  | x :: r => by rw [Py.dEnv, List.length_cons, List.length_cons, dEnv_len r]
theorem dEnv_get : ∀ {env : Py.Ev} {i : Nat} {x : Sl}, (Py.dEnv env)[i]? = some x → x = .no ∨ ∃ d, x = .d d ∧ env[i]? = some (.d d)
  | [], i, x, e => by simp [Py.dEnv] at e
  | y :: r, 0, x, e => by
    cases y <;> simp [Py.dEnv, Py.dSl] at e <;> subst e <;> first | exact .inl rfl | exact .inr ⟨_, rfl, rfl⟩
  | y :: r, i + 1, x, e => by
    rw [Py.dEnv, List.getElem?_cons_succ] at e
    rcases dEnv_get e with z | ⟨d, z1, z2⟩
    · exact .inl z
    · exact .inr ⟨d, z1, by rw [List.getElem?_cons_succ]; exact z2⟩
section
variable {g : G} {ρ : Rho} {h : CH} {H H' : Hp}
theorem notLD {M : Addr → Prop} (n : NoTup M H) {a : Addr} {o : HO} (e : H a = some o) (h1 : ∀ vs, o ≠ .lst vs) (h2 : ∀ k, o ≠ .dK k) (h3 : ∀ k, o ≠ .dT k) : ¬ M a := fun z => by
  rcases n a z with ⟨_, q⟩ | ⟨_, q⟩ | ⟨_, q⟩ <;> rw [e] at q <;> cases q
  · exact h1 _ rfl
  · exact h2 _ rfl
  · exact h3 _ rfl
/-- a table grows, a code object is new -/
theorem Post.lam (rs : RSt g ρ h H) (eN : LamX.ExtN H H') (th : ∀ b o, H b = some o → ∃ o', H' b = some o') (T1 : LamX.Tabs g.T H') : Post g ρ h H ρ h H' := by
  have fr : Frm (live ρ h) H H' := ⟨fun a o e _ n => eN a o e n, th⟩
  have ld : ∀ a, LD H a → H' a = H a := fun a l => by
    rcases l with ⟨_, e⟩ | ⟨_, e⟩ | ⟨_, e⟩ <;> rw [e] <;> exact eN _ _ e fun ps z => nomatch z
  refine ⟨fr, ⟨rs.len, rs.nd, rs.pn, fun a q => (rs.pk a q).keep (ld a (rs.pk a q)), fun i o as e1 e2 => ?_, T1⟩, fun a q => .inl q, List.prefix_refl _, fun a q => ⟨q, ld a (rs.pk a q)⟩, fun i o e _ => e⟩
  have r := rs.cell i o as e1 e2
  by_cases hg : isGone o = false
  · exact r.keep fr rs.noTup (fun a q => .inl q) fun a ha => ld a (r.kinds hg a ha)
  · cases o with
    | gone => exact fun a ha => th _ _ (r a ha).choose_spec
    | fz ds =>
      refine r.keep fr rs.noTup (fun a q => .inl q) fun a ha => ?_
      obtain ⟨rfl, _⟩ := r
      simp at ha
    | _ => simp [isGone] at hg
end
/-- the frame of a def that got the lambda f -/
def Fx.clo (K : PySem.W.Frag) (fa : Nat → Addr) (e : Py.Dn) (cf : Py.CallF) (env : Py.Ev) (σ : L2.St) (f c' : Addr) (q : Str) : Fx where
  C := fun M x v H => x = .clo (Py.cloOf e cf env) ∧ v = .ref f ∧ H c' = some (LamX.CodeO c' q) ∧ ∀ (i : Nat) (d : D), (Py.dEnv env)[i]? = some (Py.Sl.d d) → ∃ v, σ[i]? = some (some v) ∧ RD K fa M H d v
  st := fun {x v H H' M M'} n fr hM ⟨h1, h2, h3, h4⟩ => ⟨h1, h2, fr.keep _ _ h3 (notLD n h3 (fun _ z => by unfold LamX.CodeO at z; cases z) (fun _ z => by unfold LamX.CodeO at z; cases z) (fun _ z => by unfold LamX.CodeO at z; cases z)) LamX.codeO_ne, fun i d e1 => let ⟨v, e2, r⟩ := h4 i d e1; ⟨v, e2, r.keep fr n hM⟩⟩
/-- the def of the number f, that gets a lambda by its one parameter a -/
structure LamOk (P : Program) (w : World) (K : PySem.W.Frag) (mg : Str → Option Value) (base : Heap) (g : G) (cf : Py.CallF) (k f : Nat) (a : Str) : Prop where
  kp : PySem.W.keepIn K (.ref (g.fa f)) = true
  run : ∀ (A : Around) (outer : List Env) (s : Shared) (H : Hp) (Q : VK) (E : XK) (fl : Addr) (c : Fx) (clo : CH → Py.Res D) (ρ : Rho) (h : CH), Room k A → Env0 P w K mg base A outer s H → (∀ M x v H, ¬ c.C M (.ex x) v H) →
    (∀ (Ng : List Str) (qg : Str) (sg : Scope) (gf : Addr) (cdg : Value) (Eg : XK) (pn : List (Addr × Obj)) (xe : Value → Shared → Prop) (W : WX) (cf' : Py.CallF) (p1 p2 : Pos), Ng[0]? = some a → Vis sg a → L2N.Takes ((cxOf (L2N.CX P w) P w K mg base Ng qg sg gf cdg A outer s H Eg).tr pn xe) W →
      PE ((cxOf (L2N.CX P w) P w K mg base Ng qg sg gf cdg A outer s H Eg).tr pn xe) (.Call (.Name a p1) [] [] p2) (tD g c W cf' (Py.eCallC 0))) →
    RSt g ρ h H → c.C (live ρ h) (.clo clo) (.ref fl) H → EndC g ρ h H Q E (cf f [.clo clo] h) → codeAny (model P w) A (.call (.ref (g.fa f)) ⟨[.ref fl], []⟩) (CR (L2N.CX P w) outer P w H s Q E) s
section
variable {X : Cx} {g : G} {c : Fx} {W : WX} {cf : Py.CallF} {k f : Nat} {x a : Str} {p lpos pos : Pos} {db : Py.Dn}
theorem so_lamcall {cd P : Addr} {params : Arguments} {body : Expr} {scope : Scope} (F : LamOk X.prog X.w X.K X.mg X.base (gx X g) cf k f a) (hg : Gl X x) (hm : X.mg x = some (.ref (g.fa f))) (tk : L2N.Takes X W)
    (TB : LamX.TabB X.base X.mg cd P) (hcode : X.env.code = .ref cd) (hmT : (P, X.env.qual ++ "<lambda>") ∈ g.T) (hu : ∀ p ∈ g.T, p.1 = P → p.2 = X.env.qual ++ "<lambda>") (hr : Room (k + 2) X.A) (L : LamX.LamS X.env.scope scope) (hdef : defaultsOf params X.env = ([], []))
    (hbind : ∀ (q : Str) (cl : List (Str × Addr)) (pm cv ctv : Value), bindArgs (PySem.W.kla_fn "<lambda>" q params body scope cl pm cv ctv) ⟨[], []⟩ = pure [])
    (hbody : ∀ (A : Around) (outer : List Env) (s : Shared) (H : Hp) (E : XK) (fl c' : Addr), Room k (A.deeper (LamX.lamEnv X scope s.heap.objs.size fl c')) → PE (lamN X A outer s H E scope fl c') body (tD (gx X g) Fx.none (fun cls d _ H => E cls d H) cf db))
    (hdb : (x == ("__debug__" : Str)) = false := by decide) (hd : (a == ("__debug__" : Str)) = false := by decide) (hcd : (a == ("__classdict__" : Str)) = false := by decide) :
    PE X (.Call (.Name x p) [.Lambda params body scope lpos] [] pos) (tD (gx X g) c W cf (Py.eCallL f db)) := by
  refine ⟨fun pins s σ H Q I t => ?_⟩
  obtain ⟨ρ, env, hh, re, rs, e⟩ := ofS_of (d := fun cf env h => cf f [.clo (Py.cloOf db cf env)] h) t
  refine wpAny_Call_Name_kw (ld_glob I hg hm ?_ hdb)
  refine PySem.W.callWith_K (h₀ := X.base) I.ok.mod.kin F.kp ?_ (by rfl) (by rfl)
  show wpAny _ _ (spliced ((false, eval (.Lambda params body scope lpos) X.env) :: backTo pos (starEach [] X.env))) _ _ s
  refine Calls.spliced_cons (lam_made I TB hcode hmT hu rs.tabs hdef (L.has I.ok) fun fl c' pm' ctv H1 s' I1 eN th T1 hf hfn hfr hco => ?_)
  refine Calls.spliced_nil ⟨I1.kIn, ?_⟩
  have p1 : Post (gx X g) ρ hh H ρ hh H1 := Post.lam rs eN th T1
  have ec : EndC (gx X g) ρ hh H1 Q (WE W σ) (cf f [.clo (Py.cloOf db cf env)] hh) := EndC.ofR ((e.later p1).imp fun y h2 q ρ2 v H2 p2 r2 => q ρ2 v H2 (p1.trans p2) (r2.since p1.frm.there).noC)
  have re1 := re.keep p1 rs.noTup
  have rc := F.run X.A X.stack s' H1 Q (WE W σ) fl (Fx.clo X.K g.fa db cf env σ fl c' (X.env.qual ++ "<lambda>")) (Py.cloOf db cf env) ρ hh (hr.mono (by omega)) I1.env0 (fun M x v H z => nomatch z.1) (fun Ng qg sg gf cdg Eg pn xe W' cf' q1 q2 hN hv tk' => ?_) p1.st
    ⟨rfl, rfl, hco, fun i d ei => by
      rcases dEnv_get ei with z | ⟨d', z, z2⟩
      · cases z
      · cases z
        rcases re1.2 i _ z2 with z | ⟨v, e1, r⟩
        · cases z
        · exact ⟨v, e1, r⟩⟩ ec
  · refine wpAny_call (codeAny_mono rc fun r s2 hq => ?_)
    cases r with
    | error e => exact L2N.passAt tk σ pins H1 s' e s2 I1 hq
    | ok fl =>
      cases fl with
      | ret u => exact I1.after hq
      | next => exact False.elim hq
      | brk => exact False.elim hq
      | cont => exact False.elim hq
  · refine (pe_actN (CXg := L2N.CX X.prog X.w) (tb := fun E => tD (gx X g) Fx.none (fun cls d _ H => E cls d H) cf db) (i := 0) I1 L hf hfn hfr (hbind _ _ _ _ _) tk' (hr.deeper _) (fun A outer s H E hr2 => hbody A outer s H E fl c' hr2) hN hv hd hcd).imp fun σZ HZ Q' t' => ?_
    obtain ⟨ρz, envz, hz, rez, rsz, ez⟩ := t'
    unfold Py.eCallC at ez
    simp only [Py.nth_eq] at ez
    cases q : envz[0]? with
    | none => rw [q] at ez; exact ez.elim
    | some y =>
      rw [q] at ez
      cases y with
      | clo kf =>
        rcases rez.2 0 _ q with z | ⟨v, e2, r⟩
        · cases z
        · obtain ⟨c1, c2, c3, c4⟩ := r
          cases c1
          subst c2
          refine ⟨e2, c3, ρz, Py.dEnv env, hz, ⟨(dEnv_len env).trans re.1, fun i y ei => ?_⟩, rsz, ?_⟩
          · rcases dEnv_get ei with z | ⟨d, z, z2⟩
            · exact .inl z
            · subst z
              obtain ⟨v, e3, r⟩ := c4 i d ei
              exact .inr ⟨v, e3, r⟩
          · simp only [Py.cloOf] at ez
            cases qd : db cf (Py.dEnv env) hz with
            | ok y h1 =>
              rw [qd] at ez
              cases y with
              | d d => exact ez
              | _ => exact ez.elim
            | exc x1 h1 => rw [qd] at ez; exact ez
            | stuck => rw [qd] at ez; exact ez.elim
      | _ => exact ez.elim
end
section
variable {g : G} {c : Fx} {ρ : Rho} {h : CH} {H : Hp}
/-- a def's body, from what its frame holds -/
theorem body_ofC {fns : List Py.Fn} {f k : Nat} {fdn : Py.Fn} {N : List Str} {xs : List Sl} {vs : List V} {Q : VK} {E : XK} (hf : Py.nth fns f = some fdn) (hx : xs.length = fdn.params) (re : REnv g c ρ h H (xs ++ Py.nos (fdn.slots - fdn.params)) (L2.start N vs)) (rs : RSt g ρ h H)
    (e : EndC g ρ h H Q E (Py.callF fns (k + 1) f xs h)) : tS g c (fun cls d _ H => E cls d H) (Py.callF fns k) fdn.body { nx := fun _ H' => Q .non H', rt := Q } (L2.start N vs) H := by
  simp only [Py.callF, hf] at e
  rw [if_pos (by rw [hx]; exact Nat.beq_refl _)] at e
  refine ⟨ρ, xs ++ Py.nos (fdn.slots - fdn.params), h, re, rs, ?_⟩
  have sm : ∀ {ρ' h' H'} (d : D) (v : V), Post g ρ h H ρ' h' H' → RD g.K g.fa (live ρ' h') H' d v → RD g.K g.fa (live (ρ'.cut h.length) (h'.take h.length)) H' d v := fun d v p r => RD.keep (.refl _ _) p.st.noTup (fun a z => .inl (live_cut z)) r
  cases q : fdn.body (Py.callF fns k) (xs ++ Py.nos (fdn.slots - fdn.params)) h with
  | nx e1 h' => rw [q] at e; exact fun ρ' σ' H' p _ => e _ _ H' (p.cut rs) .non
  | ct e1 h' => rw [q] at e; exact e.elim
  | ret x h' =>
    rw [q] at e
    cases x with
    | d x => exact fun ρ' v H' p r => e _ v H' (p.cut rs) (sm x v p r)
    | f x =>
      intro ρ' v H' p r
      obtain ⟨a, rfl, e2, e3, e4, e5⟩ := r
      exact e _ _ H' (p.cut rs) ⟨a, rfl, e2, e3, e4.keepAt (.refl _ _) p.st.noTup (fun a z => .inl (live_cut z)) rfl e5, e5⟩
    | _ => exact e.elim
  | exc x e1 h' => rw [q] at e; exact fun ρ' cls dd σ' H' p _ rx => e _ cls dd H' (p.cut rs) rx
  | stuck => rw [q] at e; exact e.elim
theorem nos_get : ∀ (m i : Nat) (y : Sl), (Py.nos m)[i]? = some y → y = .no
  | 0, i, y, e => by simp [Py.nos] at e
  | m + 1, 0, y, e => by simp [Py.nos] at e; exact e.symm
  | m + 1, i + 1, y, e => nos_get m i y (by simpa [Py.nos] using e)
theorem nos_len : ∀ m : Nat, (Py.nos m).length = m
  | 0 => rfl
  | m + 1 => by rw [Py.nos, List.length_cons, nos_len m]
theorem frame1 {clo : CH → Py.Res D} {fl : Addr} (hc : c.C (live ρ h) (.clo clo) (.ref fl) H) (m : Nat) {N : List Str} (hN : N.length = m + 1) : REnv g c ρ h H ([.clo clo] ++ Py.nos m) (L2.start N [.ref fl]) := by
  unfold L2.start
  refine ⟨by simp [nos_len, hN], fun i y e => ?_⟩
  cases i with
  | zero => simp at e; subst e; exact .inr ⟨_, rfl, hc⟩
  | succ i => exact .inl (nos_get m i y (by simpa using e))
end
section
variable {P : Program} {w : World} {K : PySem.W.Frag} {mg : Str → Option Value} {base : Heap} {g : G}
theorem lam_ok {fns : List Py.Fn} {f n k : Nat} {fdn : Py.Fn} {x a : Str} {st : Stmt} {fd : FuncData} {N : List Str} (F : FunD K x x (defArgs st) (defBody st) (defScope st) [] [] (g.fa f) fd) (S : FnScope N [a] (defScope st)) (hb : L2.Binds K fd [a] []) (hN : N[0]? = some a) (hv : Vis (defScope st) a)
    (hf : Py.nth fns f = some fdn) (hp : fdn.params = 1) (hsl : fdn.slots = N.length) (hl : 0 < N.length)
    (hbody : ∀ (c : Fx) (cdv : Value) (A : Around) (outer : List Env) (s : Shared) (H : Hp) (E : XK), (∀ M x v H, ¬ c.C M (.ex x) v H) → Room k (CxD P w K mg base N x st (g.fa f) cdv A outer s H E).A →
      (∀ (W : WX) (pn : List (Addr × Obj)) (xe : Value → Shared → Prop) (p1 p2 : Pos), L2N.Takes ((CxD P w K mg base N x st (g.fa f) cdv A outer s H E).tr pn xe) W → PE ((CxD P w K mg base N x st (g.fa f) cdv A outer s H E).tr pn xe) (.Call (.Name a p1) [] [] p2) (tD g c W (Py.callF fns n) (Py.eCallC 0))) →
      PSs (CxD P w K mg base N x st (g.fa f) cdv A outer s H E) (defBody st) (tS g c (fun cls d _ H => E cls d H) (Py.callF fns n) fdn.body)) :
    LamOk P w K mg base g (Py.callF fns (n + 1)) (k + 1) f a where
  kp := F.kp
  run := fun A outer s H Q E fl c clo ρ h hr e0 hnx act rs hc ec => by
    obtain ⟨oc, od, dV, kV, doc, pm, an, cdv, ct, osl, rfl, lk, hcd, _⟩ := F.ex
    have KX : K.In s.heap := e0.mod.kin.keeps fun b o e => (e0.bs b o e).1
    refine LamX.run_ofS (CX := L2N.CX P w) (N := N) (ps := [a]) (us := [.ref fl]) (vs := [.ref fl]) lk hcd S hr e0 (hb s [.ref fl] KX rfl) (.cons rfl .nil) rfl fun hr' => ?_
    exact ⟨_, hbody c cdv A outer s H E hnx hr' (fun W pn xe p1 p2 tk => act N x (defScope st) (g.fa f) cdv E pn xe W _ p1 p2 hN hv tk), body_ofC (xs := [.clo clo]) hf hp.symm (frame1 hc _ (by rw [hsl, hp]; omega)) rs ec⟩
end
end Sd

set_option autoImplicit false
set_option linter.all false
set_option maxRecDepth 100000
set_option maxHeartbeats 2000000
/-! SndTr: try .. except .. as, isinstance of the exception at hand. -/
namespace Sd
open PySem L2 PySem.Spec PyProof.Rows
/-- a frame in whose except suite the exception x stands at a -/
def Fx.exn (c : Fx) (a : Addr) (x : Py.Exn) : Fx where
  C := fun M y v H => c.C M y v H ∨ (y = .ex x ∧ v = .ref a)
  st := fun n fr hM h => h.elim (fun h => .inl (c.st n fr hM h)) .inr
section
variable {g : G} {c : Fx} {ρ : Rho} {h : CH} {H : Hp} {a : Addr} {x : Py.Exn} {env : Py.Ev} {σ : L2.St}
theorem RSl.exn {y : Sl} {v : V} (r : RSl g c ρ h H y v) : RSl g (c.exn a x) ρ h H y v := by
  cases y with
  | clo f => exact .inl r
  | ex e => exact .inl r
  | d d => exact r
  | m i => exact r
  | f d => exact r
  | no => exact r
theorem REnv.exn (re : REnv g c ρ h H env σ) : REnv g (c.exn a x) ρ h H env σ := ⟨re.1, fun i y e => (re.2 i y e).imp id fun ⟨v, e1, r⟩ => ⟨v, e1, r.exn⟩⟩
theorem RRs.ofData {c' : Fx} {y : Sl} {v : V} {H0 : Hp} (hy : (∃ d, y = .d d) ∨ ∃ d, y = .f d) (r : RRs g c ρ h H0 H y v) : RRs g c' ρ h H0 H y v := by
  rcases hy with ⟨d, rfl⟩ | ⟨d, rfl⟩
  · exact r
  · exact r
end
section
variable {X : Cx} {g : G} {c : Fx} {W : WX} {cf : Py.CallF} {x n : Str} {i nc : Nat} {body suite : List Stmt} {b₀ : Stmt} {np pos pos' : Pos} {sa sb : Py.Sn} {C : Addr} {cs : List Nat}
/-- try: body, except x as n: a suite that returns -/
theorem ss_try1 (hs : X.stack = X.env :: X.outer) (hf : X.env.frame = some X.env.locals) (hN : X.N.Nodup) (hi : X.N[i]? = some n) (hln : X.env.kindOf n = some .local) (hc : Names X x (.ref C)) (tk : L2N.Takes X W)
    (hex : ∀ k, k < nc → PySem.W.exmOne X.K (.ref (g.ca k)) (.ref C) = some (cs.any (Nat.beq k)))
    (hb : ∀ (W : WX) (pn : List (Addr × Obj)) (xe : Value → Shared → Prop), L2N.Takes (X.tr pn xe) W → PassesOwn (model X.prog X.w) X.A X.env xe → PSs (X.tr pn xe) body (tS g c W cf sa))
    (hsu : ∀ (a : Addr) (oe : Obj) (x0 : Py.Exn) (d : Option Addr) (pn : List (Addr × Obj)), x0.cls < nc → (x0.arg = none → d = none) → L2N.Zn (.ref (g.ca x0.cls)) d oe → (∃ vs, oe.data = .fields vs) → PSs (X.suite a ((a, oe) :: pn)) (b₀ :: suite) (tS g (c.exn a x0) WNo cf sb)) :
    PS X (.Try body [.ExceptHandler (some (.Name x np)) (some n) (b₀ :: suite) pos'] [] [] pos) (tS g c W cf (Py.sTry nc sa [(cs, i, sb)])) := by
  refine (L2N.ps_try_as (tb := fun W => tS g c W cf sa) (ts := fun a cls d D σ H => ∃ x0 : Py.Exn, cls = .ref (g.ca x0.cls) ∧ x0.cls < nc ∧ (x0.arg = none → d = none) ∧ tS g (c.exn a x0) WNo cf sb D σ H) hs hf hN hi hln hc tk hb (fun a oe cls d pn hz hv => ⟨fun pins s σ H D I ⟨x0, e1, e2, e3, t⟩ => ?_⟩)).imp fun D σ H t => ?_
  · subst e1
    exact (hsu a oe x0 d pn e2 e3 hz hv).run pins s σ H D I t
  · obtain ⟨ρ, env, h, re, rs, e⟩ := t
    refine ⟨ρ, env, h, re, rs, ?_⟩
    unfold Py.sTry at e
    cases q : sa cf env h with
    | nx e1 h1 => rw [q] at e; exact e
    | ct e1 h1 => rw [q] at e; exact e
    | ret y h1 => rw [q] at e; exact e
    | stuck => rw [q] at e; exact e
    | exc x0 e1 h1 =>
      rw [q] at e
      intro ρ' cls dd σ' H' p re' rx
      obtain ⟨rx1, rx2⟩ := rx
      have e : EndS g c W ρ h H D (Py.tryOn nc x0 e1 h1 cf [(cs, i, sb)]) := e
      unfold Py.tryOn at e
      split at e
      · rename_i hnc
        have hnc : x0.cls < nc := Nat.blt_eq.mp hnc
        refine ⟨cs.any (Nat.beq x0.cls), by rw [rx1]; exact hex _ hnc, fun hb a na => ?_, fun hb => ?_⟩
        · rw [if_pos hb] at e
          refine ⟨x0, rx1, hnc, fun z => by rw [z] at rx2; exact rx2, ρ', Py.setAt e1 i (.ex x0), h1, (re'.exn).set i (.inr ⟨rfl, rfl⟩), p.st, ?_⟩
          have e := e.later p
          cases qs : sb cf (Py.setAt e1 i (.ex x0)) h1 with
          | ret y h2 =>
            rw [qs] at e
            cases y with
            | d d => exact fun ρ2 v H2 p2 r2 => e ρ2 v H2 p2 r2
            | f d => exact fun ρ2 v H2 p2 r2 => e ρ2 v H2 p2 r2
            | _ => exact e.elim
          | _ => rw [qs] at e; exact e.elim
        · rw [if_neg (by rw [hb]; exact Bool.false_ne_true)] at e
          have e : EndS g c W ρ h H D (.exc x0 e1 h1) := e
          exact e ρ' cls dd σ' H' p re' ⟨rx1, rx2⟩
      · exact e.elim
/-- isinstance(e, Cls), e the exception that the suite holds -/
theorem so_isx {a : Addr} {oe : Obj} {x0 : Py.Exn} {d : Option Addr} {pn : List (Addr × Obj)} {p pe pc : Pos} {en cn : Str} {cv : V} {cu : Value} (hnx : ∀ M x v H, ¬ c.C M (.ex x) v H) (h0 : x0.cls < nc) (hd : x0.arg = none → d = none) (hz : L2N.Zn (.ref (g.ca x0.cls)) d oe) (hv : ∃ vs, oe.data = .fields vs)
    (hE : ∀ k, k < nc → ExcC X.K (g.ca k)) (hk : ∀ k, k < nc → PySem.W.kitOne X.K (.ref (g.ca k)) cu = some (cs.any (Nat.beq k))) (hcv : ∀ u, RelV cv u → u = cu) (hg : Gl X "isinstance") (hm : X.mg "isinstance" = none) (hN : X.N[i]? = some en) (hvis : Vis X.env.scope en)
    (hcl : PE (X.suite a ((a, oe) :: pn)) (.Name cn pc) (tC cv)) (hde : (en == ("__debug__" : Str)) = false := by decide) (hdc : (en == ("__classdict__" : Str)) = false := by decide) :
    PE (X.suite a ((a, oe) :: pn)) (.Call (.Name "isinstance" p) [.Name en pe, .Name cn pc] [] pos) (tD g (c.exn a x0) W cf (Py.eIsX nc i cs)) := by
  by_cases hx : x0.arg = none
  · have z : L2.Zc (.ref (g.ca x0.cls)) none oe := by have := hz.zc; rw [hd hx] at this; exact this
    refine (pe_callB (call_isE (X := X) (pn := pn) (a := a) (oe := oe) (hE _ h0) z hv) hg hm rfl (pa_cons (pe_var (X := X.suite a ((a, oe) :: pn)) hN hvis hde hdc) (pa_cons hcl pa_nil)) (by decide) (by decide)).imp fun σ H Q t => ?_
    obtain ⟨ρ, env, h, re, rs, e⟩ := t
    unfold Py.eIsX at e
    simp only [Py.nth_eq] at e
    cases q : env[i]? with
    | none => rw [q] at e; exact e.elim
    | some y =>
      rw [q] at e
      cases y with
      | ex x1 =>
        rcases re.2 i _ q with w | ⟨v, e2, r⟩
        · cases w
        · rcases r with r | ⟨r1, r2⟩
          · exact (hnx _ _ _ _ r).elim
          · cases r1
            subst r2
            obtain ⟨k0, a0⟩ := x0
            cases hx
            simp only at e
            split at e
            · exact ⟨_, e2, _, _, _, rfl, hcv, hk _ h0, e ρ _ H (.refl rs) (.bl _)⟩
            · exact e.elim
      | _ => exact e.elim
  · refine ⟨fun pins s σ H Q I t => ?_⟩
    obtain ⟨ρ, env, h, re, rs, e⟩ := t
    unfold Py.eIsX at e
    simp only [Py.nth_eq] at e
    cases q : env[i]? with
    | none => rw [q] at e; exact e.elim
    | some y =>
      rw [q] at e
      cases y with
      | ex x1 =>
        rcases re.2 i _ q with w | ⟨v, e2, r⟩
        · cases w
        · rcases r with r | ⟨r1, r2⟩
          · exact (hnx _ _ _ _ r).elim
          · cases r1
            obtain ⟨k0, a0⟩ := x0
            cases a0 with
            | none => exact (hx rfl).elim
            | some _ => exact e.elim
      | _ => exact e.elim
/-- the suite's context is hot -/
theorem hot_suite {X : Cx} {a : Addr} {oe : Obj} {cls : Value} {d : Option Addr} {pn : List (Addr × Obj)} (hz : L2N.Zn cls d oe) (hv : ∃ vs, oe.data = .fields vs) : L2H.HotC (X.suite a ((a, oe) :: pn)) := by
  obtain ⟨vs, e⟩ := hv
  exact ⟨(a, oe), ⟨rfl, vs, e, hz.2.2 vs e⟩, List.mem_cons_self⟩
/-- list(script) -/
theorem sn_listZ {X : Cx} {g : G} {y : Str} {p q : Pos} (hg : Gl X "list") (hm : X.mg "list" = none) (hN : X.N[i]? = some y) (hv : Vis X.env.scope y) (hd : (y == ("__debug__" : Str)) = false := by decide) (hcd : (y == ("__classdict__" : Str)) = false := by decide) :
    PE X (.Call (.Name "list" p) [.Name y q] [] pos) (tN (gx X g) c W cf (Py.eListZ i)) :=
  (pe_callTy call_list_of hg hm rfl (pa_cons (pe_var (X := X) hN hv hd hcd) pa_nil)).imp fun σ H Q t => by
    obtain ⟨ρ, env, h, re, rs, e⟩ := t
    unfold Py.eListZ at e
    simp only [Py.nth_eq] at e
    cases q1 : env[i]? with
    | none => rw [q1] at e; exact e.elim
    | some y =>
      rw [q1] at e
      rcases re.2 i _ q1 with z | ⟨v, e2, r⟩
      · subst z; exact e.elim
      · cases y with
        | d y =>
          cases y with
          | fn f =>
            simp only at e
            split at e
            · rename_i hf
              have hf := Nat.eq_of_beq_eq_true hf
              subst hf
              have ev : v = .ref (g.fa Py.scr) := by cases (show RD _ _ _ _ (.fn Py.scr) v from r); rfl
              subst ev
              cases q2 : h[0]? with
              | none => rw [q2] at e; exact e.elim
              | some o =>
                rw [q2] at e
                cases o with
                | fz xs =>
                  have hl : 0 < ρ.c.length := by rw [rs.len]; exact (List.getElem?_eq_some_iff.mp q2).1
                  obtain ⟨_, vs, s1, r1⟩ := rs.cell 0 _ _ q2 (List.getElem?_eq_getElem hl)
                  refine ⟨_, e2, _, vs, rfl, .inl s1.sq, fun p hp => ?_⟩
                  have nw := r1.nwLst rs.noTup hp
                  exact e ρ _ _ (.same rs (same_upd hp)) (nw.rd rs.noTup (same_upd hp)) fun d z _ => by
                    cases z
                    exact (Post.refl rs).nw (same_upd hp) nw
                | _ => exact e.elim
            · exact e.elim
          | _ => exact e.elim
        | _ => exact e.elim
end
end Sd

set_option autoImplicit false
set_option linter.all false
set_option maxRecDepth 100000
set_option maxHeartbeats 2000000
/-! SndEnd: a def's step from level to level; what the head tells of exceptions; the law's end. -/
namespace Sd
open PySem L2 PySem.Spec PyProof.Rows
/-! ### exceptions' classes, told by a Bool -/
def excB (K : PySem.W.Frag) (C : Addr) : Bool :=
  decide (PySem.W.findIn K (.ref C) "__getattribute__" = some (some (.builtin "BaseException.__getattribute__"))) && (decide (PySem.W.findIn K (.ref C) "__getattr__" = some none) && (decide (PySem.W.subIn K (.ref C) (.type "BaseException") = some true) && (PySem.W.hasDictIn K C &&
  (decide (PySem.W.findIn K (.ref C) "__class__" = some (some (.builtin "object.__class__"))) && (decide (PySem.W.specialIn K (.builtin "object.__class__") "__get__" = some (some (.builtin "getset_descriptor.__get__"))) && (decide (PySem.W.takesIn K (.builtin "object.__class__") = some true) && decide (PySem.W.mroIn K C (.type "object") = some true)))))))
theorem excB_ok {K : PySem.W.Frag} {C : Addr} (h : excB K C = true) : ExcC K C := by
  unfold excB at h
  simp only [Bool.and_eq_true, decide_eq_true_eq] at h
  exact ⟨h.1, h.2.1, h.2.2.1, h.2.2.2.1, h.2.2.2.2.1, h.2.2.2.2.2.1, h.2.2.2.2.2.2.1, h.2.2.2.2.2.2.2⟩
def below (n : Nat) (p : Nat → Bool) : Bool := match n with
  | 0 => true
  | n + 1 => p n && below n p
theorem below_ok {p : Nat → Bool} : ∀ {n : Nat}, below n p = true → ∀ k, k < n → p k = true
  | 0, _, k, h => absurd h (Nat.not_lt_zero k)
  | n + 1, h, k, hk => by
    obtain ⟨h1, h2⟩ := He.ba (show (p n && below n p) = true from h)
    by_cases e : k = n
    · rw [e]; exact h1
    · exact below_ok h2 k (by omega)
/-- every class is an exception's, the kinship is as the table tells -/
def kinB (K : PySem.W.Frag) (ca : Nat → Addr) (subs : List (List Nat)) : Bool :=
  below subs.length fun k => excB K (ca k) && (decide (PySem.W.kitOne K (.ref (ca k)) (.type "ValueError") = some true) && below subs.length fun j =>
    decide (PySem.W.kitOne K (.ref (ca k)) (.ref (ca j)) = some ((subs.getD j []).any (Nat.beq k))) && decide (PySem.W.exmOne K (.ref (ca k)) (.ref (ca j)) = some ((subs.getD j []).any (Nat.beq k))))
section
variable {K : PySem.W.Frag} {ca : Nat → Addr} {subs : List (List Nat)}
theorem kin_exc (h : kinB K ca subs = true) (k : Nat) (hk : k < subs.length) : ExcC K (ca k) := excB_ok (He.ba (below_ok h k hk)).1
theorem kin_ve (h : kinB K ca subs = true) (k : Nat) (hk : k < subs.length) : PySem.W.kitOne K (.ref (ca k)) (.type "ValueError") = some true := of_decide_eq_true (He.ba (He.ba (below_ok h k hk)).2).1
theorem kin_kit (h : kinB K ca subs = true) (j : Nat) (hj : j < subs.length) (k : Nat) (hk : k < subs.length) : PySem.W.kitOne K (.ref (ca k)) (.ref (ca j)) = some ((subs.getD j []).any (Nat.beq k)) := of_decide_eq_true (He.ba (below_ok (He.ba (He.ba (below_ok h k hk)).2).2 j hj)).1
theorem kin_exm (h : kinB K ca subs = true) (j : Nat) (hj : j < subs.length) (k : Nat) (hk : k < subs.length) : PySem.W.exmOne K (.ref (ca k)) (.ref (ca j)) = some ((subs.getD j []).any (Nat.beq k)) := of_decide_eq_true (He.ba (below_ok (He.ba (He.ba (below_ok h k hk)).2).2 j hj)).2
theorem any_all (n k : Nat) (h : k < n) : (List.range n).any (Nat.beq k) = true := List.any_eq_true.mpr ⟨k, List.mem_range.mpr h, Nat.beq_refl k⟩
end
/-! ### a def, one level up -/
section
variable {P : Program} {w : World} {K : PySem.W.Frag} {mg : Str → Option Value} {base : Heap} {g : G}
theorem ar_succ {fns : List Py.Fn} {f n np : Nat} {fdn : Py.Fn} (hf : Py.nth fns f = some fdn) (hp : fdn.params = np) (xs : List Sl) (h : CH) : Py.callF fns (n + 1) f xs h = .stuck ∨ xs.length = np := by
  simp only [Py.callF, hf]
  by_cases e : Nat.beq xs.length fdn.params = true
  · exact .inr ((Nat.eq_of_beq_eq_true e).trans hp)
  · rw [if_neg e]; exact .inl rfl
theorem def_zero {fns : List Py.Fn} {f np : Nat} {x : Str} {st : Stmt} (F : ∃ fd, FunD K x x (defArgs st) (defBody st) (defScope st) [] [] (g.fa f) fd) {ps : List Str} (hl : ps.length = np) (hb : ∀ fd, FunD K x x (defArgs st) (defBody st) (defScope st) [] [] (g.fa f) fd → Binds K fd ps []) :
    DefOk P w K mg base g (Py.callF fns 0) 0 f np := by
  obtain ⟨fd, F⟩ := F
  exact ⟨⟨fd, ps, fn_ev0 hl, F.kp, hb fd F⟩, fun _ _ => .inl rfl⟩
theorem fn_evK {fns : List Py.Fn} {f n k : Nat} {fdn : Py.Fn} {x : Str} {st : Stmt} {fd : FuncData} {N ps : List Str} (F : FunD K x x (defArgs st) (defBody st) (defScope st) [] [] (g.fa f) fd) (S : FnScope N ps (defScope st)) (hf : Py.nth fns f = some fdn) (hp : fdn.params = ps.length) (hsl : fdn.slots = N.length)
    (hbody : ∀ (cdv : Value) (A : Around) (outer : List Env) (s : Shared) (H : Hp) (E : XK), Room (k + 2) (CxD P w K mg base N x st (g.fa f) cdv A outer s H E).A → PSs (CxD P w K mg base N x st (g.fa f) cdv A outer s H E) (defBody st) (tS g Fx.none (fun cls d _ H => E cls d H) (Py.callF fns n) fdn.body)) :
    FnOk P w K mg base (L2N.CX P w) (k + 3) (g.fa f) fd ps (spEv g (Py.callF fns (n + 1)) f ps.length) :=
  F.ok S (fun vs H Q E h => h.1) fun cdv A outer s H vs Q E hr h => ⟨_, hbody cdv A outer s H E hr, body_of hf hp hsl h⟩
theorem def_succ {fns : List Py.Fn} {f n k : Nat} {fdn : Py.Fn} {x : Str} {st : Stmt} {N ps : List Str} (F : ∃ fd, FunD K x x (defArgs st) (defBody st) (defScope st) [] [] (g.fa f) fd) (S : FnScope N ps (defScope st)) (hb : ∀ fd, FunD K x x (defArgs st) (defBody st) (defScope st) [] [] (g.fa f) fd → Binds K fd ps [])
    (hf : Py.nth fns f = some fdn) (hp : fdn.params = ps.length) (hsl : fdn.slots = N.length)
    (hbody : ∀ (cdv : Value) (A : Around) (outer : List Env) (s : Shared) (H : Hp) (E : XK), Room (k + 2) (CxD P w K mg base N x st (g.fa f) cdv A outer s H E).A → PSs (CxD P w K mg base N x st (g.fa f) cdv A outer s H E) (defBody st) (tS g Fx.none (fun cls d _ H => E cls d H) (Py.callF fns n) fdn.body)) :
    DefOk P w K mg base g (Py.callF fns (n + 1)) (k + 3) f ps.length := by
  obtain ⟨fd, F⟩ := F
  exact ⟨⟨fd, ps, fn_evK F S hf hp hsl hbody, F.kp, hb fd F⟩, ar_succ hf hp⟩
/-- a def whose code object is known -/
theorem fn_evM {fns : List Py.Fn} {f n k : Nat} {fdn : Py.Fn} {x : Str} {st : Stmt} {N ps : List Str} {cm : Addr} {fd : FuncData} (F : FunD K x x (defArgs st) (defBody st) (defScope st) [] [] (g.fa f) fd) (S : FnScope N ps (defScope st)) (hb : Binds K fd ps [])
    (hcm : ∀ oc od osl fd' c, K.lookup (g.fa f) = some ⟨oc, od, .func fd', osl⟩ → fd'.code = .ref c → cm = c) (hf : Py.nth fns f = some fdn) (hp : fdn.params = ps.length) (hsl : fdn.slots = N.length)
    (hbody : ∀ (A : Around) (outer : List Env) (s : Shared) (H : Hp) (E : XK), Room (k + 2) (CxD P w K mg base N x st (g.fa f) (.ref cm) A outer s H E).A → PSs (CxD P w K mg base N x st (g.fa f) (.ref cm) A outer s H E) (defBody st) (tS g Fx.none (fun cls d _ H => E cls d H) (Py.callF fns n) fdn.body)) :
    FnOk P w K mg base (L2N.CX P w) (k + 3) (g.fa f) fd ps (spEv g (Py.callF fns (n + 1)) f ps.length) := by
  obtain ⟨oc, od, dV, kV, doc, pm, an, cdv, ct, osl, rfl, lk, hcd, _⟩ := F.ex
  obtain ⟨c, rfl⟩ := He.codeIn_ref hcd
  have e := hcm _ _ _ _ _ lk rfl
  subst e
  refine ⟨fun vs H Q E h => h.1, fun A outer s H args us vs Q E hr e0 hbt r hsp => ?_⟩
  refine LamX.run_ofS (CX := L2N.CX P w) (N := N) (ps := ps) (us := us) (vs := vs) lk hcd S hr e0 hbt r hsp.1 fun hr' => ?_
  exact ⟨_, hbody A outer s H E hr', body_of hf hp hsl hsp⟩
theorem def_succM {fns : List Py.Fn} {f n k : Nat} {fdn : Py.Fn} {x : Str} {st : Stmt} {N ps : List Str} {cm : Addr} (F : ∃ fd, FunD K x x (defArgs st) (defBody st) (defScope st) [] [] (g.fa f) fd) (S : FnScope N ps (defScope st)) (hb : ∀ fd, FunD K x x (defArgs st) (defBody st) (defScope st) [] [] (g.fa f) fd → Binds K fd ps [])
    (hcm : ∀ oc od osl fd' c, K.lookup (g.fa f) = some ⟨oc, od, .func fd', osl⟩ → fd'.code = .ref c → cm = c) (hf : Py.nth fns f = some fdn) (hp : fdn.params = ps.length) (hsl : fdn.slots = N.length)
    (hbody : ∀ (A : Around) (outer : List Env) (s : Shared) (H : Hp) (E : XK), Room (k + 2) (CxD P w K mg base N x st (g.fa f) (.ref cm) A outer s H E).A → PSs (CxD P w K mg base N x st (g.fa f) (.ref cm) A outer s H E) (defBody st) (tS g Fx.none (fun cls d _ H => E cls d H) (Py.callF fns n) fdn.body)) :
    DefOk P w K mg base g (Py.callF fns (n + 1)) (k + 3) f ps.length := by
  obtain ⟨fd, F⟩ := F
  exact ⟨⟨fd, ps, fn_evM F S (hb fd F) hcm hf hp hsl hbody, F.kp, hb fd F⟩, ar_succ hf hp⟩
theorem lam_zero {fns : List Py.Fn} {f : Nat} {x a : Str} {st : Stmt} (F : ∃ fd, FunD K x x (defArgs st) (defBody st) (defScope st) [] [] (g.fa f) fd) : LamOk P w K mg base g (Py.callF fns 0) 0 f a := by
  obtain ⟨fd, F⟩ := F
  exact ⟨F.kp, fun A outer s H Q E fl c clo ρ h _ _ _ _ _ _ ec => ec.elim⟩
theorem lam_succ {fns : List Py.Fn} {f n k : Nat} {fdn : Py.Fn} {x a : Str} {st : Stmt} {N : List Str} (F : ∃ fd, FunD K x x (defArgs st) (defBody st) (defScope st) [] [] (g.fa f) fd) (S : FnScope N [a] (defScope st)) (hb : ∀ fd, FunD K x x (defArgs st) (defBody st) (defScope st) [] [] (g.fa f) fd → Binds K fd [a] []) (hN : N[0]? = some a) (hv : Vis (defScope st) a)
    (hf : Py.nth fns f = some fdn) (hp : fdn.params = 1) (hsl : fdn.slots = N.length) (hl : 0 < N.length)
    (hbody : ∀ (c : Fx) (cdv : Value) (A : Around) (outer : List Env) (s : Shared) (H : Hp) (E : XK), (∀ M x v H, ¬ c.C M (.ex x) v H) → Room (k + 2) (CxD P w K mg base N x st (g.fa f) cdv A outer s H E).A →
      (∀ (W : WX) (pn : List (Addr × Obj)) (xe : Value → Shared → Prop) (p1 p2 : Pos), L2N.Takes ((CxD P w K mg base N x st (g.fa f) cdv A outer s H E).tr pn xe) W → PE ((CxD P w K mg base N x st (g.fa f) cdv A outer s H E).tr pn xe) (.Call (.Name a p1) [] [] p2) (tD g c W (Py.callF fns n) (Py.eCallC 0))) →
      PSs (CxD P w K mg base N x st (g.fa f) cdv A outer s H E) (defBody st) (tS g c (fun cls d _ H => E cls d H) (Py.callF fns n) fdn.body)) :
    LamOk P w K mg base g (Py.callF fns (n + 1)) (k + 3) f a := by
  obtain ⟨fd, F⟩ := F
  exact lam_ok F S (hb fd F) hN hv hf hp hsl hl hbody
/-- no lambda was handed in -/
theorem act_none {X : Cx} {g : G} {W : WX} {cf : Py.CallF} {e : Expr} {i : Nat} : PE X e (tD g Fx.none W cf (Py.eCallC i)) := ⟨fun pins s σ H Q I t => by
  obtain ⟨ρ, env, h, re, rs, e⟩ := t
  unfold Py.eCallC at e
  simp only [Py.nth_eq] at e
  cases q : env[i]? with
  | none => rw [q] at e; exact e.elim
  | some y =>
    rw [q] at e
    cases y with
    | clo kf =>
      rcases re.2 i _ q with z | ⟨v, e2, r⟩
      · cases z
      · exact r.elim
    | _ => exact e.elim⟩
theorem cm_of {p : Str × Option Str} {f : Addr} (e : He.fAd K p = f) : ∀ oc od osl fd' c, K.lookup f = some ⟨oc, od, .func fd', osl⟩ → fd'.code = .ref c → He.codeOf K p = c := fun oc od osl fd' c lk hc => He.codeOf_eq (by rw [e]; exact lk) hc
end
/-! ### the law -/
section
variable {g : G} {H : Hp}
/-- the state at the law's call: the script's cell -/
theorem start_st {ns : List Int} (hS : SqL g.K H (g.fa Py.scr) (ns.map V.int)) (hT : LamX.Tabs g.T H) : RSt g ⟨[[]], fun _ => False⟩ [.fz (ns.map Py.D.int)] H where
  len := rfl
  nd := List.nodup_nil
  pn := fun _ z => z.elim
  pk := fun _ z => z.elim
  cell := fun i o as e1 e2 => by
    have hi : i = 0 := by
      have := (List.getElem?_eq_some_iff.mp e1).1
      simp at this; exact this
    subst hi
    cases e1; cases e2
    refine ⟨rfl, ns.map V.int, ?_, ints_rds ns⟩
    rcases hS with (q | ⟨o, q⟩) | q
    · refine .inl ⟨q, fun z => ?_⟩
      rcases z with ⟨i, as, o, e1, e2, e3, m⟩ | z
      · have hi : i = 0 := by
          have := (List.getElem?_eq_some_iff.mp e1).1
          simp at this; exact this
        subst hi
        cases e2; cases e3
      · exact z
    · exact .inr (.inl ⟨o, q⟩)
    · exact .inr (.inr (.inr q))
  tabs := hT
/-- whatever the script, the evaluator says True -/
theorem law_sp {cf : Py.CallF} {f : Nat} {ns : List Int} {h' : CH} (hS : SqL g.K H (g.fa Py.scr) (ns.map V.int)) (hT : LamX.Tabs g.T H) (hl : cf f [.d (.fn Py.scr)] [.fz (ns.map Py.D.int)] = .ok (.d (.bl true)) h') :
    spEv g cf f 1 [.ref (g.fa Py.scr)] H (fun v _ => v = .bl true) (fun _ _ _ => False) := by
  refine ⟨rfl, ⟨[[]], fun _ => False⟩, [.fz (ns.map Py.D.int)], [.d (.fn Py.scr)], start_st hS hT, .cons (x := .d (.fn Py.scr)) (.fn _) .nil, ?_⟩
  rw [hl]
  exact fun ρ' v H' p r => by cases (show RD _ _ _ _ (.bl true) v from r); rfl
end
end Sd
namespace Sd
theorem uniq_map {α β : Type} {γ : Type} {l : List α} {f : α → β} {q : α → γ} (nd : (l.map f).Nodup) {p0 : α} (h0 : p0 ∈ l) : ∀ p ∈ l.map (fun p => (f p, q p)), p.1 = f p0 → p.2 = q p0 := by
  induction l with
  | nil => cases h0
  | cons a l ih =>
    rw [List.map_cons, List.nodup_cons] at nd
    intro p hp e
    rw [List.map_cons, List.mem_cons] at hp
    rcases List.mem_cons.mp h0 with z | z
    · rcases hp with hp | hp
      · subst hp; rw [z]
      · obtain ⟨b, hb, rfl⟩ := List.mem_map.mp hp
        exact absurd (List.mem_map.mpr ⟨b, hb, by rw [z] at e; exact e⟩) nd.1
    · rcases hp with hp | hp
      · subst hp
        exact absurd (List.mem_map.mpr ⟨p0, z, e.symm⟩) nd.1
      · exact ih nd.2 z p hp e
end Sd

set_option autoImplicit false
set_option linter.all false
set_option maxRecDepth 100000
/-! Dr: the laws' draws: _law_cup, _law_roll, _law_some. -/
namespace Py
/-- the body of _law_cup -/
def cupB (a b c d e : Int) : Sn := sSeq (sAsg 1 (op1 vAbs (op2 vIdx (op2 vAdd (eListZ 0) (eLst (aCons (eCst (.int 0)) aNil))) (eCst (.int 0))))) (sRet (eF (eLst (aCons (eIfe (tVal (eCmp cGe (eVar 1) (op2 vPow (eCst (.int 10)) (eCst (.int 18))))) (op2 vFdiv (eVar 1) (eCst (.int a))) (eCst (.int 0))) (aCons (op2 vAdd (op2 vMod (op1 vInt (op2 vAdd (op2 vMul (eVar 1) (eCst (.int b))) (eCst (.int c)))) (eCst (.int d))) (eCst (.int e))) aNil)))))
/-- the body of _law_roll -/
def rollB (p q m r m2 s : Int) : Sn := sSeq (sIf (tVal (eCmp cGt (op2 vIdx (eVar 0) (eCst (.int 0))) (eCst (.int 0)))) (sSeq (sAsg 3 (op2 vMod (op1 vInt (op2 vIdx (eVar 0) (eCst (.int 0)))) (eVar 1))) (sSeq (sSetI 0 (eCst (.int 0)) (op2 vFdiv (op2 vIdx (eVar 0) (eCst (.int 0))) (eVar 1))) (sRet (eVar 3)))) sPass) (sSeq (sSetI 0 (eCst (.int 1)) (op2 vMod (op1 vInt (op2 vAdd (op2 vMul (op2 vIdx (eVar 0) (eCst (.int 1))) (eCst (.int p))) (eCst (.int q)))) (eCst (.int m)))) (sSeq (sAsg 2 (op2 vMod (op1 vInt (op2 vMul (op2 vIdx (eVar 0) (eCst (.int 1))) (op2 vAdd (op2 vIdx (eVar 0) (eCst (.int 1))) (eCst (.int r))))) (eCst (.int m2)))) (sRet (op2 vMod (op1 vInt (op2 vFdiv (eVar 2) (eCst (.int s)))) (eVar 1)))))
theorem ieq_zero {j : Int} (h : 0 < j) : ieq j 0 = false := by rw [ieq_eq]; exact decide_eq_false (by omega)
theorem vMod_pos {i j : Int} (h : 0 < j) : vMod (.int i) (.int j) = some (.int (i.fmod j)) := by simp [vMod, ieq_zero h]
theorem vFdiv_pos {i j : Int} (h : 0 < j) (h2 : j < 1073741824) : vFdiv (.int i) (.int j) = some (.int (i.fdiv j)) := by
  have e : Nat.blt j.natAbs 1073741824 = true := Nat.blt_eq.mpr (by omega)
  simp [vFdiv, ieq_zero h, e]
theorem small_of {i : Int} (h : 0 ≤ i) (h2 : i < 18446744073709551616) : small i = true := Nat.blt_eq.mpr (by omega)
theorem vMul_right {i j : Int} (h : 0 ≤ j) (h2 : j < 18446744073709551616) : vMul (.int i) (.int j) = some (.int (i * j)) := by simp [vMul, small_of h h2]
theorem vMul_left {i j : Int} (h : 0 ≤ i) (h2 : i < 18446744073709551616) : vMul (.int i) (.int j) = some (.int (i * j)) := by simp [vMul, small_of h h2]
theorem vAdd_int {i j : Int} : vAdd (.int i) (.int j) = some (.int (i + j)) := by simp [vAdd]
theorem cGt_int {i j : Int} : cGt (.int i) (.int j) = some (decide (j < i)) := by simp [cGt, ord, both, D.alike, D.okd, D.isNon, D.lt, ilt_eq]
theorem cGe_int {i j : Int} : cGe (.int i) (.int j) = some (!decide (i < j)) := by simp [cGe, ord, both, D.alike, D.okd, D.isNon, D.lt, ilt_eq]
theorem pow18 : vPow (.int 10) (.int 18) = some (.int 1000000000000000000) := by rfl
theorem first_of (ns : List Int) (hl : ns.length ≤ 63) : ∃ x : Int, ∃ r : D, vAdd (.lst (ns.map .int)) (.lst [.int 0]) = some r ∧ vIdx r (.int 0) = some (.int x) := by
  have hb : Nat.ble ((ns.map D.int).length + [D.int 0].length) line = true := by
    rw [Nat.ble_eq, List.length_map]
    show ns.length + 1 ≤ 16777216
    omega
  cases ns with
  | nil => exact ⟨0, _, rfl, rfl⟩
  | cons x r => exact ⟨x, .lst ((x :: r).map D.int ++ [.int 0]), by simp only [vAdd]; rw [if_pos hb], by simp [vIdx, place, nth, Nat.blt]⟩
section
variable {cf : CallF}
theorem cup_ok {a b c d e : Int} (ha : 0 < a) (ha2 : a < 1073741824) (hb1 : 0 ≤ b) (hb2 : b < 18446744073709551616) (hd : 0 < d) (ns : List Int) (hl : ns.length ≤ 63) (h : Heap) (h0 : nth h 0 = some (.fz (ns.map .int))) :
    ∃ c0 c1 : Int, cupB a b c d e cf [.d (.fn scr), .no] h = .ret (.f (.lst [.int c0, .int c1])) h := by
  obtain ⟨x, r, e1, e2⟩ := first_of ns hl
  have hb : Nat.beq scr scr = true := Nat.beq_refl _
  by_cases hx : (x.natAbs : Int) < 1000000000000000000
  · refine ⟨0, ((x.natAbs : Int) * b + c).fmod d + e, ?_⟩
    simp [cupB, sSeq, sAsg, sBind, op1, op2, eListZ, nth, h0, Res.bind, Res.of, rd, eLst, aCons, aNil, eCst, pds, line, e1, e2, vAbs, isF, setAt, sRet, eF, eIfe, tVal, eCmp, eVar, pow18, cGe_int, tru, D.truthy, vFdiv_pos ha ha2, vMul_right hb1 hb2, vAdd_int, vInt, vMod_pos hd, hx, Nat.ble]
  · refine ⟨(x.natAbs : Int).fdiv a, ((x.natAbs : Int) * b + c).fmod d + e, ?_⟩
    simp [cupB, sSeq, sAsg, sBind, op1, op2, eListZ, nth, h0, Res.bind, Res.of, rd, eLst, aCons, aNil, eCst, pds, line, e1, e2, vAbs, isF, setAt, sRet, eF, eIfe, tVal, eCmp, eVar, pow18, cGe_int, tru, D.truthy, vFdiv_pos ha ha2, vMul_right hb1 hb2, vAdd_int, vInt, vMod_pos hd, hx, Nat.ble]
theorem nth_set (h : Heap) (c : Nat) (o o' : MO) (e : nth h c = some o) : nth (setAt h c o') c = some o' := by
  rw [nth_eq] at e ⊢
  rw [setAt_eq, List.getElem?_set_self (List.getElem?_eq_some_iff.mp e).1]
theorem set_set (h : Heap) (c : Nat) (o o' : MO) : setAt (setAt h c o) c o' = setAt h c o' := by rw [setAt_eq, setAt_eq, setAt_eq, List.set_set]
theorem roll_ok {p q m r m2 s many c0 c1 : Int} {c : Nat} (hp : 0 ≤ p) (hp2 : p < 18446744073709551616) (hm : 0 < m) (hm3 : m < 18446744073709551616) (hm2 : 0 < m2) (hs : 0 < s) (hs2 : s < 1073741824) (hy : 0 < many) (hy2 : many < 1073741824) (h : Heap) (h0 : nth h c = some (.ml [.int c0, .int c1])) :
    ∃ d0 d1 x : Int, (0 ≤ x ∧ x < many) ∧ rollB p q m r m2 s cf [.m c, .d (.int many), .no, .no] h = .ret (.d (.int x)) (setAt h c (.ml [.int d0, .int d1])) := by
  by_cases hx : 0 < c0
  · refine ⟨c0.fdiv many, c1, c0.fmod many, ⟨Int.fmod_nonneg_of_pos _ hy, Int.fmod_lt_of_pos _ hy⟩, ?_⟩
    simp [rollB, sSeq, sIf, tVal, eCmp, op1, op2, eVar, eCst, nth, h0, Res.bind, Res.of, rd, vIdx, place, Nat.blt, Nat.ble, cGt_int, tru, D.truthy, hx, sBind, sAsg, isF, setAt, vInt, vMod_pos hy, sSetI, vFdiv_pos hy hy2, pd, mSetItem, sRet]
  · have b1 := Int.fmod_nonneg_of_pos (c1 * p + q) hm
    have b2 := Int.fmod_lt_of_pos (c1 * p + q) hm
    refine ⟨c0, (c1 * p + q).fmod m, ((((c1 * p + q).fmod m) * ((c1 * p + q).fmod m + r)).fmod m2).fdiv s |>.fmod many, ⟨Int.fmod_nonneg_of_pos _ hy, Int.fmod_lt_of_pos _ hy⟩, ?_⟩
    have e2 : nth (setAt h c (.ml [.int c0, .int ((c1 * p + q).fmod m)])) c = some (.ml [.int c0, .int ((c1 * p + q).fmod m)]) := nth_set h c _ _ h0
    simp [rollB, sSeq, sIf, tVal, eCmp, op1, op2, eVar, eCst, nth, h0, Res.bind, Res.of, rd, vIdx, place, Nat.blt, Nat.ble, cGt_int, tru, D.truthy, hx, sBind, sPass, sAsg, isF, setAt, vInt, vMul_right hp hp2, vAdd_int, vMod_pos hm, sSetI, pd, mSetItem, e2, vMul_left b1 (Int.lt_trans b2 hm3), vMod_pos hm2, vFdiv_pos hs hs2, vMod_pos hy, sRet]
/-! ### as calls -/
theorem take_len {α : Type} (l : List α) : l.take l.length = l := List.take_length
theorem call_cup {fns : List Fn} {n f : Nat} {a b c d e : Int} (hf : nth fns f = some ⟨1, 2, cupB a b c d e⟩) (ha : 0 < a) (ha2 : a < 1073741824) (hb1 : 0 ≤ b) (hb2 : b < 18446744073709551616) (hd : 0 < d) (ns : List Int) (hl : ns.length ≤ 63) (h : Heap) (h0 : nth h 0 = some (.fz (ns.map .int))) :
    ∃ c0 c1 : Int, callF fns (n + 1) f [.d (.fn scr)] h = .ok (.f (.lst [.int c0, .int c1])) h := by
  obtain ⟨c0, c1, e1⟩ := cup_ok (cf := callF fns n) (c := c) (e := e) ha ha2 hb1 hb2 hd ns hl h h0
  refine ⟨c0, c1, ?_⟩
  simp only [callF, hf]
  show (cupB a b c d e (callF fns n) [.d (.fn scr), .no] h).out h.length = _
  rw [e1]
  simp [SRes.out]
theorem setAt_len (h : Heap) (c : Nat) (o : MO) : (setAt h c o).length = h.length := by rw [setAt_eq, List.length_set]
theorem call_roll {fns : List Fn} {n f : Nat} {p q m r m2 s many c0 c1 : Int} {c : Nat} (hf : nth fns f = some ⟨2, 4, rollB p q m r m2 s⟩) (hp : 0 ≤ p) (hp2 : p < 18446744073709551616) (hm : 0 < m) (hm3 : m < 18446744073709551616) (hm2 : 0 < m2) (hs : 0 < s) (hs2 : s < 1073741824) (hy : 0 < many) (hy2 : many < 1073741824) (h : Heap) (h0 : nth h c = some (.ml [.int c0, .int c1])) :
    ∃ d0 d1 x : Int, (0 ≤ x ∧ x < many) ∧ callF fns (n + 1) f [.m c, .d (.int many)] h = .ok (.d (.int x)) (setAt h c (.ml [.int d0, .int d1])) := by
  obtain ⟨d0, d1, x, hx, e1⟩ := roll_ok (cf := callF fns n) (q := q) (r := r) hp hp2 hm hm3 hm2 hs hs2 hy hy2 h h0
  refine ⟨d0, d1, x, hx, ?_⟩
  simp only [callF, hf]
  show (rollB p q m r m2 s (callF fns n) [.m c, .d (.int many), .no, .no] h).out h.length = _
  rw [e1]
  simp only [SRes.out]
  rw [← setAt_len h c (.ml [.int d0, .int d1]), List.take_length]
/-- the body of _law_some -/
def someB (ir : Nat) : Sn := sRet (op2 vIdx (eVar 1) (eCall ir (aCons (eVar 0) (aCons (op1 vLen (eVar 1)) aNil))))
theorem call_some {fns : List Fn} {n f ir : Nat} {p q m r m2 s c0 c1 : Int} {c : Nat} (hf : nth fns f = some ⟨2, 2, someB ir⟩) (hr : nth fns ir = some ⟨2, 4, rollB p q m r m2 s⟩) (hp : 0 ≤ p) (hp2 : p < 18446744073709551616) (hm : 0 < m) (hm3 : m < 18446744073709551616) (hm2 : 0 < m2) (hs : 0 < s) (hs2 : s < 1073741824) (ts : List D) (ht : 0 < ts.length) (ht2 : ts.length < 1073741824) (h : Heap) (h0 : nth h c = some (.ml [.int c0, .int c1])) :
    ∃ (d0 d1 : Int) (x : Nat) (t : D), x < ts.length ∧ nth ts x = some t ∧ callF fns (n + 2) f [.m c, .d (.lst ts)] h = .ok (.d t) (setAt h c (.ml [.int d0, .int d1])) := by
  obtain ⟨d0, d1, x, ⟨hx, hx2⟩, e1⟩ := call_roll (n := n) hr hp hp2 hm hm3 hm2 hs hs2 (many := (ts.length : Int)) (by omega) (by omega) h h0
  obtain ⟨k, rfl⟩ := Int.eq_ofNat_of_zero_le hx
  have hk : k < ts.length := by omega
  refine ⟨d0, d1, k, ts[k], hk, by rw [nth_eq, List.getElem?_eq_getElem hk], ?_⟩
  have e2 : callF fns (n + 2) f [.m c, .d (.lst ts)] h = (someB ir (callF fns (n + 1)) [.m c, .d (.lst ts)] h).out h.length := by
    show (match nth fns f with | some fd => _ | none => _) = _
    rw [hf]
    rfl
  have e3 : Nat.blt k ts.length = true := Nat.blt_eq.mpr hk
  have e4 : place ts.length (k : Int) = some k := by show (if Nat.blt k ts.length then some k else none) = _; rw [e3]; rfl
  have e5 : vIdx (.lst ts) (.int k) = some ts[k] := by
    simp only [vIdx, e4]
    rw [nth_eq, List.getElem?_eq_getElem hk]
  rw [e2]
  simp [someB, sRet, op2, op1, eVar, nth, Res.bind, sBind, eCall, eCallN, aCons, aNil, Res.of, rd, vLen, noF, e1, ofS, e5, SRes.out]
  rw [← setAt_len h c (.ml [.int d0, .int d1]), List.take_length]
end
end Py

set_option autoImplicit false
set_option linter.all false
set_option maxRecDepth 100000
set_option maxHeartbeats 0
set_option Elab.async false
namespace Py
def f_is_whole : Sn := (sRet (eAnd (op1 (vIsI .int) (eVar 0)) (op1 vNot (op1 (vIsI .bool) (eVar 0)))))
def f_fits_whole : Sn := (sRet (eAnd (eCall 0 (aCons (eVar 0) aNil)) (eChain cLe cLe (eVar 1) (eVar 0) (eVar 2))))
def f_is_tuple_of : Sn := (sRet (eAnd (op1 (vIsI .tuple) (eVar 0)) (eChain cLe cLe (eVar 1) (op1 vLen (eVar 0)) (eVar 2))))
def f_fits_spot : Sn := (sRet (eAnd (eCall 2 (aCons (eVar 0) (aCons (eCst (.int 2)) (aCons (eCst (.int 2)) aNil)))) (op1 vAll (eComp [1] (iVal (eVar 0)) (gName 1) tYes (eCall 1 (aCons (eVar 1) (aCons (op1 vNeg (eCst (.int 1000))) (aCons (eCst (.int 1000)) aNil))))))))
def f_turn_of : Sn := (sSeq (sPar [(3, false), (4, false)] (aCons (op2 vSub (op2 vIdx (eVar 1) (eCst (.int 0))) (op2 vIdx (eVar 0) (eCst (.int 0)))) (aCons (op2 vSub (op2 vIdx (eVar 1) (eCst (.int 1))) (op2 vIdx (eVar 0) (eCst (.int 1)))) aNil))) (sRet (op2 vSub (op2 vMul (eVar 3) (op2 vSub (op2 vIdx (eVar 2) (eCst (.int 1))) (op2 vIdx (eVar 0) (eCst (.int 1))))) (op2 vMul (eVar 4) (op2 vSub (op2 vIdx (eVar 2) (eCst (.int 0))) (op2 vIdx (eVar 0) (eCst (.int 0))))))))
def f_lies_between : Sn := (sSeq (sIf (tVal (eCmp cNe (eCall 4 (aCons (eVar 0) (aCons (eVar 1) (aCons (eVar 2) aNil)))) (eCst (.int 0)))) (sRet (eCst (.bl false))) sPass) (sRet (eChain cLe cLe (op2 vMin2 (eVar 0) (eVar 1)) (eVar 2) (op2 vMax2 (eVar 0) (eVar 1)))))
def f_do_cross : Sn := (sSeq (sIf (tVal (op1 vAny (eComp [5] (iVal (eTup (aCons (eVar 2) (aCons (eVar 3) aNil)))) (gName 5) tYes (eCall 5 (aCons (eVar 0) (aCons (eVar 1) (aCons (eVar 5) aNil))))))) (sRet (eCst (.bl true))) sPass) (sSeq (sIf (tVal (op1 vAny (eComp [5] (iVal (eTup (aCons (eVar 0) (aCons (eVar 1) aNil)))) (gName 5) tYes (eCall 5 (aCons (eVar 2) (aCons (eVar 3) (aCons (eVar 5) aNil))))))) (sRet (eCst (.bl true))) sPass) (sSeq (sAsg 4 (eCmp cNe (eCmp cGt (eCall 4 (aCons (eVar 0) (aCons (eVar 1) (aCons (eVar 2) aNil)))) (eCst (.int 0))) (eCmp cGt (eCall 4 (aCons (eVar 0) (aCons (eVar 1) (aCons (eVar 3) aNil)))) (eCst (.int 0))))) (sRet (eAnd (eVar 4) (eCmp cNe (eCmp cGt (eCall 4 (aCons (eVar 2) (aCons (eVar 3) (aCons (eVar 0) aNil)))) (eCst (.int 0))) (eCmp cGt (eCall 4 (aCons (eVar 2) (aCons (eVar 3) (aCons (eVar 1) aNil)))) (eCst (.int 0)))))))))
def f_sides_of : Sn := (sRet (eListOf (iZip (eVar 0) (op2 vAdd (eCut (eVar 0) (oSome (eCst (.int 1))) oNone) (eCut (eVar 0) oNone (oSome (eCst (.int 1))))))))
def f_do_fold : Sn := (sRet (eOr (eCall 5 (aCons (eVar 0) (aCons (eVar 1) (aCons (eVar 2) aNil)))) (eCall 5 (aCons (eVar 1) (aCons (eVar 2) (aCons (eVar 0) aNil))))))
def f_fits_outline : Sn := (sSeq (sIf (tOr (tNot (tVal (eCall 2 (aCons (eVar 0) (aCons (eCst (.int 3)) (aCons (eCst (.int 16)) aNil)))))) (tNot (tVal (op1 vAll (eComp [7] (iVal (eVar 0)) (gName 7) tYes (eCall 3 (aCons (eVar 7) aNil))))))) (sRet (eCst (.bl false))) sPass) (sSeq (sIf (tVal (eCmp cNe (op1 vLenSet (eVar 0)) (op1 vLen (eVar 0)))) (sRet (eCst (.bl false))) sPass) (sSeq (sAsg 1 (eCall 7 (aCons (eVar 0) aNil))) (sSeq (sFor (iEnum (eVar 1)) (gTup (gCons (gName 2) (gCons (gTup (gCons (gName 3) (gCons (gName 4) gNil))) gNil))) (sSeq (sIf (tVal (eCall 8 (aCons (op2 vIdx (op2 vIdx (eVar 1) (op2 vSub (eVar 2) (eCst (.int 1)))) (eCst (.int 0))) (aCons (eVar 3) (aCons (eVar 4) aNil))))) (sRet (eCst (.bl false))) sPass) (sFor (iVal (eCut (eVar 1) (oSome (op2 vAdd (eVar 2) (eCst (.int 2)))) (oSome (op2 vSub (op1 vLen (eVar 1)) (eIfe (tVal (eCmp cEq (eVar 2) (eCst (.int 0)))) (eCst (.int 1)) (eCst (.int 0))))))) (gTup (gCons (gName 5) (gCons (gName 6) gNil))) (sIf (tVal (eCall 6 (aCons (eVar 3) (aCons (eVar 4) (aCons (eVar 5) (aCons (eVar 6) aNil)))))) (sRet (eCst (.bl false))) sPass)))) (sRet (eCst (.bl true)))))))
def f_need_outline : Sn := (sIf (tNot (tVal (eCall 9 (aCons (eVar 0) aNil)))) (sRaise 2) sPass)
def f_need_spot : Sn := (sIf (tNot (tVal (eCall 3 (aCons (eVar 0) aNil)))) (sRaise 1) sPass)
def f_area_in : Sn := (sRet (op1 vSum (eComp [1, 2] (iVal (eCall 7 (aCons (eVar 0) aNil))) (gTup (gCons (gName 1) (gCons (gName 2) gNil))) tYes (op2 vSub (op2 vMul (op2 vIdx (eVar 1) (eCst (.int 0))) (op2 vIdx (eVar 2) (eCst (.int 1)))) (op2 vMul (op2 vIdx (eVar 1) (eCst (.int 1))) (op2 vIdx (eVar 2) (eCst (.int 0))))))))
def f_turns_in : Sn := (sSeq (sNew 1 (eF (eLst aNil))) (sSeq (sFor (iEnum (eVar 0)) (gTup (gCons (gName 2) (gCons (gName 3) gNil))) (sSeq (sAsg 4 (eCall 4 (aCons (op2 vIdx (eVar 0) (op2 vSub (eVar 2) (eCst (.int 1)))) (aCons (eVar 3) (aCons (op2 vIdx (eVar 0) (op2 vMod (op2 vAdd (eVar 2) (eCst (.int 1))) (op1 vLen (eVar 0)))) aNil))))) (sExpr (upL1 1 (eIfe (tVal (eCmp cGt (eVar 4) (eCst (.int 0)))) (eCst (.int 1)) (eIfe (tVal (eCmp cLt (eVar 4) (eCst (.int 0)))) (op1 vNeg (eCst (.int 1))) (eCst (.int 0)))) lAppend)))) (sRet (eVar 1))))
def f_place_in : Sn := (sSeq (sIf (tVal (op1 vAny (eComp [3, 4] (iVal (eCall 7 (aCons (eVar 0) aNil))) (gTup (gCons (gName 3) (gCons (gName 4) gNil))) tYes (eCall 5 (aCons (eVar 3) (aCons (eVar 4) (aCons (eVar 1) aNil))))))) (sRet (eCst (.str [111, 110]))) sPass) (sSeq (sAsg 2 (eCst (.bl false))) (sSeq (sFor (iVal (eCall 7 (aCons (eVar 0) aNil))) (gTup (gCons (gName 3) (gCons (gName 4) gNil))) (sIf (tVal (eCmp cNe (eCmp cGt (op2 vIdx (eVar 3) (eCst (.int 1))) (op2 vIdx (eVar 1) (eCst (.int 1)))) (eCmp cGt (op2 vIdx (eVar 4) (eCst (.int 1))) (op2 vIdx (eVar 1) (eCst (.int 1)))))) (sSeq (sAsg 5 (eCall 4 (aCons (eVar 3) (aCons (eVar 4) (aCons (eVar 1) aNil))))) (sIf (tVal (eCmp cEq (eCmp cGt (eVar 5) (eCst (.int 0))) (eCmp cGt (op2 vIdx (eVar 4) (eCst (.int 1))) (op2 vIdx (eVar 3) (eCst (.int 1)))))) (sAsg 2 (op1 vNot (eVar 2))) sPass)) sPass)) (sRet (eIfe (tVal (eVar 2)) (eCst (.str [105, 110])) (eCst (.str [111, 117, 116])))))))
def f_halves_in : Sn := (sSeq (sAsg 3 (eIfe (tVal (eCmp cNe (op2 vIdx (eVar 0) (eCst (.int 0))) (op2 vIdx (eVar 1) (eCst (.int 0))))) (eCst (.int 0)) (eCst (.int 1)))) (sSeq (sAsg 4 (op2 vSub (op2 vIdx (eVar 1) (eVar 3)) (op2 vIdx (eVar 0) (eVar 3)))) (sSeq (sAsg 5 (op1 vSorted (op2 vAdd (eComp [11] (iVal (eVar 2)) (gName 11) tYes (op1 vAbs (op2 vSub (op2 vIdx (eVar 11) (eVar 3)) (op2 vIdx (eVar 0) (eVar 3))))) (eLst (aCons (eCst (.int 0)) (aCons (op1 vAbs (eVar 4)) aNil)))))) (sSeq (sNew 6 (eF (eLst aNil))) (sSeq (sFor (iZip (eVar 5) (eCut (eVar 5) (oSome (eCst (.int 1))) oNone)) (gTup (gCons (gName 7) (gCons (gName 8) gNil))) (sIf (tVal (eCmp cLt (eVar 7) (eVar 8))) (sSeq (sPar [(9, false), (10, false)] (aCons (op2 vAdd (eVar 7) (eVar 8)) (aCons (op2 vMul (eCst (.int 2)) (op1 vAbs (eVar 4))) aNil))) (sExpr (upL1 6 (eTup (aCons (eVar 10) (aCons (eComp [12] (iVal (eTup (aCons (eCst (.int 0)) (aCons (eCst (.int 1)) aNil)))) (gName 12) tYes (op2 vAdd (op2 vMul (op2 vIdx (eVar 0) (eVar 12)) (eVar 10)) (op2 vMul (op2 vSub (op2 vIdx (eVar 1) (eVar 12)) (op2 vIdx (eVar 0) (eVar 12))) (eVar 9)))) aNil))) lAppend))) sPass)) (sRet (eVar 6)))))))
def f_do_see : Sn := (sSeq (sFor (iVal (eCall 7 (aCons (eVar 0) aNil))) (gTup (gCons (gName 4) (gCons (gName 5) gNil))) (sSeq (sAsg 6 (eCmp cLt (op2 vMul (eCall 4 (aCons (eVar 1) (aCons (eVar 2) (aCons (eVar 4) aNil)))) (eCall 4 (aCons (eVar 1) (aCons (eVar 2) (aCons (eVar 5) aNil))))) (eCst (.int 0)))) (sIf (tAnd (tVal (eVar 6)) (tVal (eCmp cLt (op2 vMul (eCall 4 (aCons (eVar 4) (aCons (eVar 5) (aCons (eVar 1) aNil)))) (eCall 4 (aCons (eVar 4) (aCons (eVar 5) (aCons (eVar 2) aNil))))) (eCst (.int 0))))) (sRet (eCst (.bl false))) sPass))) (sSeq (sAsg 3 (eComp [10] (iVal (eVar 0)) (gName 10) (tVal (eCall 5 (aCons (eVar 1) (aCons (eVar 2) (aCons (eVar 10) aNil))))) (eVar 10))) (sSeq (sFor (iVal (eCall 15 (aCons (eVar 1) (aCons (eVar 2) (aCons (eVar 3) aNil))))) (gTup (gCons (gName 7) (gCons (gName 8) gNil))) (sSeq (sAsg 9 (op1 vTuple (eComp [10] (iVal (eVar 0)) (gName 10) tYes (eTup (aCons (op2 vMul (op2 vIdx (eVar 10) (eCst (.int 0))) (eVar 7)) (aCons (op2 vMul (op2 vIdx (eVar 10) (eCst (.int 1))) (eVar 7)) aNil)))))) (sIf (tVal (eCmp cEq (eCall 14 (aCons (eVar 9) (aCons (eTup (aCons (op2 vIdx (eVar 8) (eCst (.int 0))) (aCons (op2 vIdx (eVar 8) (eCst (.int 1))) aNil))) aNil))) (eCst (.str [111, 117, 116])))) (sRet (eCst (.bl false))) sPass))) (sRet (eCst (.bl true))))))
def f_is_ear : Sn := (sSeq (sIf (tVal (eCmp cLt (op1 vLen (eVar 0)) (eCst (.int 4)))) (sRet (eCst (.bl false))) sPass) (sSeq (sPar [(3, false), (4, false)] (aCons (op2 vIdx (eVar 0) (op2 vSub (eVar 1) (eCst (.int 1)))) (aCons (op2 vIdx (eVar 0) (op2 vMod (op2 vAdd (eVar 1) (eCst (.int 1))) (op1 vLen (eVar 0)))) aNil))) (sSeq (sAsg 2 (eComp [5] (iVal (eVar 0)) (gName 5) (tVal (eCmp cNotIn (eVar 5) (eTup (aCons (eVar 3) (aCons (eVar 4) (aCons (op2 vIdx (eVar 0) (eVar 1)) aNil)))))) (eVar 5))) (sSeq (sIf (tOr (tVal (op1 vAny (eComp [5] (iVal (eVar 2)) (gName 5) tYes (eCall 5 (aCons (eVar 3) (aCons (eVar 4) (aCons (eVar 5) aNil))))))) (tNot (tVal (eCall 16 (aCons (eVar 0) (aCons (eVar 3) (aCons (eVar 4) aNil))))))) (sRet (eCst (.bl false))) sPass) (sRet (eCall 9 (aCons (op2 vAdd (eCut (eVar 0) oNone (oSome (eVar 1))) (eCut (eVar 0) (oSome (op2 vAdd (eVar 1) (eCst (.int 1)))) oNone)) aNil)))))))
def f_is_outline : Sn := (sRet (eCall 9 (aCons (eVar 0) aNil)))
def f_twice_area_of : Sn := (sSeq (sExpr (eCall 10 (aCons (eVar 0) aNil))) (sRet (eCall 12 (aCons (eVar 0) aNil))))
def f_corner_turns : Sn := (sSeq (sExpr (eCall 10 (aCons (eVar 0) aNil))) (sRet (op1 vTuple (eCall 13 (aCons (eVar 0) aNil)))))
def f_is_bulging : Sn := (sSeq (sExpr (eCall 10 (aCons (eVar 0) aNil))) (sSeq (sAsg 1 (eCall 13 (aCons (eVar 0) aNil))) (sRet (op1 vNot (eAnd (eCmp cIn (eCst (.int 1)) (eVar 1)) (eCmp cIn (op1 vNeg (eCst (.int 1))) (eVar 1)))))))
def f_place_of : Sn := (sSeq (sExpr (eCall 10 (aCons (eVar 0) aNil))) (sSeq (sExpr (eCall 11 (aCons (eVar 1) aNil))) (sRet (eCall 14 (aCons (eVar 0) (aCons (eVar 1) aNil))))))
def f_need_within : Sn := (sSeq (sExpr (eCall 11 (aCons (eVar 1) aNil))) (sIf (tVal (eCmp cEq (eCall 14 (aCons (eVar 0) (aCons (eVar 1) aNil))) (eCst (.str [111, 117, 116])))) (sRaise 3) sPass))
def f_sees : Sn := (sSeq (sExpr (eCall 10 (aCons (eVar 0) aNil))) (sSeq (sExpr (eCall 23 (aCons (eVar 0) (aCons (eVar 1) aNil)))) (sSeq (sExpr (eCall 23 (aCons (eVar 0) (aCons (eVar 2) aNil)))) (sRet (eCall 16 (aCons (eVar 0) (aCons (eVar 1) (aCons (eVar 2) aNil))))))))
def f_corners_seen : Sn := (sSeq (sExpr (eCall 10 (aCons (eVar 0) aNil))) (sSeq (sExpr (eCall 23 (aCons (eVar 0) (aCons (eVar 1) aNil)))) (sRet (op1 vTuple (eComp [2, 3] (iEnum (eVar 0)) (gTup (gCons (gName 2) (gCons (gName 3) gNil))) (tVal (eCall 16 (aCons (eVar 0) (aCons (eVar 1) (aCons (eVar 3) aNil))))) (eVar 2))))))
def f_sees_all : Sn := (sSeq (sExpr (eCall 10 (aCons (eVar 0) aNil))) (sSeq (sExpr (eCall 23 (aCons (eVar 0) (aCons (eVar 1) aNil)))) (sSeq (sAsg 2 (eIfe (tVal (eCmp cGt (eCall 12 (aCons (eVar 0) aNil)) (eCst (.int 0)))) (eCst (.int 1)) (op1 vNeg (eCst (.int 1))))) (sRet (op1 vAll (eComp [3, 4] (iVal (eCall 7 (aCons (eVar 0) aNil))) (gTup (gCons (gName 3) (gCons (gName 4) gNil))) tYes (eCmp cGe (op2 vMul (eCall 4 (aCons (eVar 3) (aCons (eVar 4) (aCons (eVar 1) aNil)))) (eVar 2)) (eCst (.int 0)))))))))
def f_corners_that_see : Sn := (sSeq (sExpr (eCall 10 (aCons (eVar 0) aNil))) (sSeq (sAsg 1 (eIfe (tVal (eCmp cGt (eCall 12 (aCons (eVar 0) aNil)) (eCst (.int 0)))) (eCst (.int 1)) (op1 vNeg (eCst (.int 1))))) (sSeq (sAsg 2 (eCall 7 (aCons (eVar 0) aNil))) (sSeq (sAsg 3 (eComp [4] (iVal (eVar 0)) (gName 4) tYes (eComp [5, 6] (iVal (eVar 2)) (gTup (gCons (gName 5) (gCons (gName 6) gNil))) tYes (eCmp cGe (op2 vMul (eCall 4 (aCons (eVar 5) (aCons (eVar 6) (aCons (eVar 4) aNil)))) (eVar 1)) (eCst (.int 0)))))) (sRet (op1 vTuple (eComp [7, 8] (iEnum (eVar 3)) (gTup (gCons (gName 7) (gCons (gName 8) gNil))) (tVal (op1 vAll (eVar 8))) (eVar 7))))))))
def f_ears : Sn := (sSeq (sExpr (eCall 10 (aCons (eVar 0) aNil))) (sRet (op1 vTuple (eComp [1] (iRng1 (op1 vLen (eVar 0))) (gName 1) (tVal (eCall 17 (aCons (eVar 0) (aCons (eVar 1) aNil)))) (eVar 1)))))
def f_cut_off : Sn := (sSeq (sExpr (eCall 10 (aCons (eVar 0) aNil))) (sSeq (sIf (tNot (tVal (eCall 1 (aCons (eVar 1) (aCons (eCst (.int 0)) (aCons (op2 vSub (op1 vLen (eVar 0)) (eCst (.int 1))) aNil)))))) (sRaise 4) sPass) (sSeq (sIf (tNot (tVal (eCall 17 (aCons (eVar 0) (aCons (eVar 1) aNil))))) (sRaise 3) sPass) (sRet (op2 vAdd (eCut (eVar 0) oNone (oSome (eVar 1))) (eCut (eVar 0) (oSome (op2 vAdd (eVar 1) (eCst (.int 1)))) oNone))))))
def f__law_cup : Sn := (sSeq (sAsg 1 (op1 vAbs (op2 vIdx (op2 vAdd (eListZ 0) (eLst (aCons (eCst (.int 0)) aNil))) (eCst (.int 0))))) (sRet (eF (eLst (aCons (eIfe (tVal (eCmp cGe (eVar 1) (op2 vPow (eCst (.int 10)) (eCst (.int 18))))) (op2 vFdiv (eVar 1) (eCst (.int 83))) (eCst (.int 0))) (aCons (op2 vAdd (op2 vMod (op1 vInt (op2 vAdd (op2 vMul (eVar 1) (eCst (.int 331))) (eCst (.int 4129)))) (eCst (.int 2077503179))) (eCst (.int 229))) aNil))))))
def f__law_roll : Sn := (sSeq (sIf (tVal (eCmp cGt (op2 vIdx (eVar 0) (eCst (.int 0))) (eCst (.int 0)))) (sSeq (sAsg 3 (op2 vMod (op1 vInt (op2 vIdx (eVar 0) (eCst (.int 0)))) (eVar 1))) (sSeq (sSetI 0 (eCst (.int 0)) (op2 vFdiv (op2 vIdx (eVar 0) (eCst (.int 0))) (eVar 1))) (sRet (eVar 3)))) sPass) (sSeq (sSetI 0 (eCst (.int 1)) (op2 vMod (op1 vInt (op2 vAdd (op2 vMul (op2 vIdx (eVar 0) (eCst (.int 1))) (eCst (.int 30971))) (eCst (.int 7963)))) (eCst (.int 2147482859)))) (sSeq (sAsg 2 (op2 vMod (op1 vInt (op2 vMul (op2 vIdx (eVar 0) (eCst (.int 1))) (op2 vAdd (op2 vIdx (eVar 0) (eCst (.int 1))) (eCst (.int 257))))) (eCst (.int 2147482819)))) (sRet (op2 vMod (op1 vInt (op2 vFdiv (eVar 2) (eCst (.int 827)))) (eVar 1))))))
def f__law_some : Sn := (sRet (op2 vIdx (eVar 1) (eCall 31 (aCons (eVar 0) (aCons (op1 vLen (eVar 1)) aNil)))))
def f__law_same : Sn := (sSeq (sIf (tVal (op1 (vIsI .tuple) (eVar 1))) (sSeq (sIf (tOr (tNot (tVal (op1 (vIsI .tuple) (eVar 0)))) (tVal (eCmp cNe (op1 vLen (eVar 0)) (op1 vLen (eVar 1))))) (sRet (eCst (.bl false))) sPass) (sRet (op1 vAll (eComp [2] (iRng1 (op1 vLen (eVar 1))) (gName 2) tYes (eCall 33 (aCons (op2 vIdx (eVar 0) (eVar 2)) (aCons (op2 vIdx (eVar 1) (eVar 2)) aNil))))))) sPass) (sSeq (sIf (tVal (eCmp cIs (eVar 1) (eCst .non))) (sRet (eCmp cIs (eVar 0) (eCst .non))) sPass) (sSeq (sIf (tVal (op1 (vIsI .bool) (eVar 1))) (sRet (eIfe (tVal (eVar 1)) (eCmp cIs (eVar 0) (eCst (.bl true))) (eCmp cIs (eVar 0) (eCst (.bl false))))) sPass) (sSeq (sIf (tVal (op1 (vIsI .int) (eVar 1))) (sRet (eAnd (op1 (vIsI .int) (eVar 0)) (eAnd (op1 vNot (op1 (vIsI .bool) (eVar 0))) (eCmp cEq (op1 vInt (eVar 0)) (eVar 1))))) sPass) (sRet (eAnd (op1 (vIsI .str) (eVar 0)) (eCmp cEq (op1 vStr (eVar 0)) (eVar 1))))))))
def f__law_word : Sn := (sSeq (sTry 5 (sExpr (eCallC 0)) [([0, 1, 2, 3, 4], 1, (sSeq (sNew 2 (eF (eLst (aCons (eIsX 5 1 [2]) (aCons (eIsX 5 1 [1]) (aCons (eIsX 5 1 [3]) aNil)))))) (sSeq (sExpr (upL1 2 (eIsX 5 1 [4]) lAppend)) (sSeq (sAsg 3 (eComp [4, 5] (iZip (eTup (aCons (eCst (.str [114, 111, 117, 110, 100])) (aCons (eCst (.str [115, 112, 111, 116])) (aCons (eCst (.str [112, 108, 97, 110])) (aCons (eCst (.str [110, 117, 109, 98, 101, 114])) aNil))))) (eVar 2)) (gTup (gCons (gName 4) (gCons (gName 5) gNil))) (tVal (eVar 5)) (eVar 4))) (sRet (eIfe (tVal (eIsX 5 1 [0, 1, 2, 3, 4])) (op2 vJoin (eCst (.str [32])) (eVar 3)) (eCst (.str [111, 100, 100]))))))))]) (sRet (eCst (.str []))))
def f__law_asked : Sn := (sSeq (sNew 4 (eF (eComp [5] (iVal (eTup (aCons (eCst (.fn 19)) (aCons (eCst (.fn 20)) (aCons (eCst (.fn 21)) (aCons (eCst (.fn 27)) (aCons (eCst (.fn 28)) aNil))))))) (gName 5) tYes (eCallL 34 (eCallV 37 5 (aCons (eVar 0) aNil)))))) (sSeq (sNew 4 (eF (op2 vAdd (eVar 4) (eComp [5] (iVal (eTup (aCons (eCst (.fn 22)) (aCons (eCst (.fn 25)) (aCons (eCst (.fn 26)) aNil))))) (gName 5) tYes (eCallL 34 (eCallV 37 5 (aCons (eVar 0) (aCons (eVar 1) aNil)))))))) (sSeq (sExpr (upL1 4 (eCallL 34 (eCall 24 (aCons (eVar 0) (aCons (eVar 1) (aCons (eVar 2) aNil))))) lAppend)) (sRet (op2 vAdd (eVar 4) (eLst (aCons (eCallL 34 (eCall 29 (aCons (eVar 0) (aCons (eVar 3) aNil)))) aNil)))))))
def f_law : Sn := (sSeq (sNew 1 (eCallN 30 (aCons (eVar 0) aNil))) (sSeq (sAsg 2 (eTup (aCons (eTup (aCons (eCst (.int 0)) (aCons (eCst (.int 0)) aNil))) (aCons (eTup (aCons (eCst (.int 8)) (aCons (eCst (.int 0)) aNil))) (aCons (eTup (aCons (eCst (.int 8)) (aCons (eCst (.int 8)) aNil))) (aCons (eTup (aCons (eCst (.int 0)) (aCons (eCst (.int 8)) aNil))) aNil)))))) (sSeq (sIf (tOr (tVal (eCmp cNe (eCall 35 (aCons (eVar 2) (aCons (eTup (aCons (eCst (.int 8)) (aCons (eCst (.int 3)) aNil))) (aCons (eTup (aCons (eCst (.int 4)) (aCons (eCst (.int 4)) aNil))) (aCons (eCst (.int 3)) aNil))))) (op2 vMul (eLst (aCons (eCst (.str [])) aNil)) (eCst (.int 10))))) (tVal (eCmp cNe (eCall 35 (aCons (eCut (eVar 2) oNone (oSome (eCst (.int 3)))) (aCons (eTup (aCons (eCst (.int 8)) (aCons (eCst (.int 0)) aNil))) (aCons (eTup (aCons (eCst (.int 8)) (aCons (eCst (.int 8)) aNil))) (aCons (eCst (.int 0)) aNil))))) (op2 vAdd (op2 vMul (eLst (aCons (eCst (.str [])) aNil)) (eCst (.int 9))) (eLst (aCons (eCst (.str [112, 108, 97, 110])) aNil)))))) (sRet (eCst (.bl false))) sPass) (sSeq (sAsg 3 (eLst (aCons (eCst .non) (aCons (eTup aNil) (aCons (eCut (eVar 2) oNone (oSome (eCst (.int 2)))) (aCons (op1 vList (eVar 2)) (aCons (eCst (.str [114, 111, 117, 110, 100])) (aCons (eCst (.int 5)) (aCons (op2 vAdd (eVar 2) (eCut (eVar 2) oNone (oSome (eCst (.int 1))))) (aCons (eTup (aCons (eTup (aCons (eCst (.int 0)) (aCons (eCst (.int 0)) aNil))) (aCons (eTup (aCons (eCst (.int 8)) (aCons (eCst (.int 8)) aNil))) (aCons (eTup (aCons (eCst (.int 8)) (aCons (eCst (.int 0)) aNil))) (aCons (eTup (aCons (eCst (.int 0)) (aCons (eCst (.int 8)) aNil))) aNil))))) (aCons (eTup (aCons (eTup (aCons (eCst (.int 0)) (aCons (eCst (.int 0)) aNil))) (aCons (eTup (aCons (eCst (.int 1)) (aCons (eCst (.int 0)) aNil))) (aCons (eTup (aCons (eCst (.int 2)) (aCons (eCst (.int 0)) aNil))) aNil)))) aNil))))))))))) (sSeq (sAsg 3 (op2 vAdd (eVar 3) (eLst (aCons (eTup (aCons (eTup (aCons (eCst (.int 0)) (aCons (eCst (.int 0)) aNil))) (aCons (eTup (aCons (eCst (.int 8)) (aCons (eCst (.int 0)) aNil))) (aCons (eTup (aCons (eCst (.int 8)) (aCons (eCst (.int 1001)) aNil))) aNil)))) (aCons (eTup (aCons (eTup (aCons (eCst (.int 0)) (aCons (eCst (.int 0)) aNil))) (aCons (eTup (aCons (eCst (.int 8)) (aCons (eCst (.int 0)) aNil))) (aCons (eTup (aCons (eCst (.bl true)) (aCons (eCst (.int 8)) aNil))) aNil)))) (aCons (eTup (aCons (eTup (aCons (eCst (.int 0)) (aCons (eCst (.int 0)) aNil))) (aCons (eTup (aCons (eCst (.int 8)) (aCons (eCst (.int 0)) aNil))) (aCons (eLst (aCons (eCst (.int 8)) (aCons (eCst (.int 8)) aNil))) aNil)))) (aCons (eTup (aCons (eTup (aCons (eCst (.int 0)) (aCons (eCst (.int 0)) aNil))) (aCons (eTup (aCons (eCst (.int 8)) (aCons (eCst (.int 0)) aNil))) (aCons (eCst .non) aNil)))) (aCons (op2 vMul (eTup (aCons (eTup (aCons (eCst (.int 0)) (aCons (eCst (.int 0)) aNil))) aNil)) (eCst (.int 3))) aNil)))))))) (sSeq (sAsg 3 (op2 vAdd (eVar 3) (eLst (aCons (eTup (aCons (eTup (aCons (eCst (.int 0)) (aCons (eCst (.int 0)) aNil))) (aCons (eTup (aCons (eCst (.int 8)) (aCons (eCst (.int 0)) aNil))) (aCons (eTup (aCons (eCst (.int 4)) (aCons (eCst (.int 0)) aNil))) (aCons (eTup (aCons (eCst (.int 4)) (aCons (eCst (.int 8)) aNil))) aNil))))) (aCons (eTup (aCons (eTup (aCons (eCst (.int 0)) (aCons (eCst (.int 0)) aNil))) (aCons (eTup (aCons (eCst (.int 8)) (aCons (eCst (.int 0)) aNil))) (aCons (eTup (aCons (eCst (.int 8)) (aCons (eCst (.int 8)) aNil))) (aCons (eTup (aCons (eCst (.int 4)) (aCons (eCst (.int 0)) aNil))) (aCons (eTup (aCons (eCst (.int 0)) (aCons (eCst (.int 8)) aNil))) aNil)))))) (aCons (op1 vTuple (eComp [8] (iRng1 (eCst (.int 17))) (gName 8) tYes (eTup (aCons (eVar 8) (aCons (op2 vMul (eVar 8) (eVar 8)) aNil))))) aNil)))))) (sSeq (sFor (iVal (eVar 3)) (gName 4) (sIf (tOr (tVal (eCmp cNe (eCall 35 (aCons (eVar 4) (aCons (eCst .non) (aCons (eCst .non) (aCons (eCst .non) aNil))))) (op2 vMul (eLst (aCons (eCst (.str [114, 111, 117, 110, 100])) aNil)) (eCst (.int 10))))) (tVal (eCmp cIsNot (eCall 18 (aCons (eVar 4) aNil)) (eCst (.bl false))))) (sRet (eCst (.bl false))) sPass)) (sSeq (sFor (iVal (eTup (aCons (eCst .non) (aCons (eTup aNil) (aCons (eTup (aCons (eCst (.int 0)) aNil)) (aCons (eLst (aCons (eCst (.int 4)) (aCons (eCst (.int 4)) aNil))) (aCons (eTup (aCons (eCst (.int 1001)) (aCons (eCst (.int 0)) aNil))) (aCons (eTup (aCons (eCst (.int 0)) (aCons (op1 vNeg (eCst (.int 1001))) aNil))) (aCons (eTup (aCons (eCst (.bl true)) (aCons (eCst (.int 4)) aNil))) (aCons (eTup (aCons (eCst (.int 4)) (aCons (eCst .non) aNil))) (aCons (eCst (.str [52, 52])) (aCons (eTup (aCons (eCst (.int 4)) (aCons (eCst (.int 4)) (aCons (eCst (.int 4)) aNil)))) aNil)))))))))))) (gName 4) (sSeq (sIf (tVal (eCmp cNe (eCall 35 (aCons (eVar 2) (aCons (eVar 4) (aCons (eCst .non) (aCons (eCst (.int 0)) aNil))))) (op2 vAdd (op2 vAdd (op2 vMul (eLst (aCons (eCst (.str [])) aNil)) (eCst (.int 5))) (op2 vMul (eLst (aCons (eCst (.str [115, 112, 111, 116])) aNil)) (eCst (.int 4)))) (eLst (aCons (eCst (.str [])) aNil))))) (sRet (eCst (.bl false))) sPass) (sIf (tVal (eCmp cNe (eCallL 34 (eCall 24 (aCons (eVar 2) (aCons (eTup (aCons (eCst (.int 4)) (aCons (eCst (.int 4)) aNil))) (aCons (eVar 4) aNil))))) (eCst (.str [115, 112, 111, 116])))) (sRet (eCst (.bl false))) sPass))) (sSeq (sAsg 5 (eCall 32 (aCons (eVar 1) (aCons (eLst (aCons (eTup (aCons (eCst (.int 9)) (aCons (eCst (.int 4)) aNil))) (aCons (eTup (aCons (op1 vNeg (eCst (.int 1))) (aCons (eCst (.int 0)) aNil))) (aCons (eTup (aCons (eCst (.int 1000)) (aCons (op1 vNeg (eCst (.int 1000))) aNil))) (aCons (eTup (aCons (eCst (.int 4)) (aCons (eCst (.int 9)) aNil))) aNil))))) aNil)))) (sSeq (sIf (tOr (tVal (eCmp cNe (eCall 35 (aCons (eVar 2) (aCons (eVar 5) (aCons (eCst .non) (aCons (eCst (.int 0)) aNil))))) (op2 vAdd (op2 vAdd (op2 vMul (eLst (aCons (eCst (.str [])) aNil)) (eCst (.int 6))) (op2 vMul (eLst (aCons (eCst (.str [112, 108, 97, 110])) aNil)) (eCst (.int 3)))) (eLst (aCons (eCst (.str [])) aNil))))) (tVal (eCmp cNe (eCallL 34 (eCall 24 (aCons (eVar 2) (aCons (eTup (aCons (eCst (.int 0)) (aCons (eCst (.int 0)) aNil))) (aCons (eVar 5) aNil))))) (eCst (.str [112, 108, 97, 110]))))) (sRet (eCst (.bl false))) sPass) (sSeq (sFor (iVal (eTup (aCons (eCst .non) (aCons (op1 vNeg (eCst (.int 1))) (aCons (eCst (.int 4)) (aCons (eCst (.bl true)) (aCons (eCst (.str [48])) (aCons (eTup (aCons (eCst (.int 0)) aNil)) aNil)))))))) (gName 4) (sIf (tVal (eCmp cNe (eCall 35 (aCons (eVar 2) (aCons (eTup (aCons (eCst (.int 0)) (aCons (eCst (.int 0)) aNil))) (aCons (eTup (aCons (eCst (.int 0)) (aCons (eCst (.int 0)) aNil))) (aCons (eVar 4) aNil))))) (op2 vAdd (op2 vMul (eLst (aCons (eCst (.str [])) aNil)) (eCst (.int 9))) (eLst (aCons (eCst (.str [110, 117, 109, 98, 101, 114])) aNil))))) (sRet (eCst (.bl false))) sPass)) (sSeq (sAsg 6 (eTup (aCons (eTup (aCons (eCst (.int 0)) (aCons (eCst (.int 0)) aNil))) (aCons (eTup (aCons (eCst (.int 6)) (aCons (eCst (.int 0)) aNil))) (aCons (eTup (aCons (eCst (.int 6)) (aCons (eCst (.int 6)) aNil))) (aCons (eTup (aCons (eCst (.int 3)) (aCons (eCst (.int 2)) aNil))) (aCons (eTup (aCons (eCst (.int 0)) (aCons (eCst (.int 6)) aNil))) aNil))))))) (sSeq (sNew 7 (eF (eComp [8] (iVal (eTup (aCons (eCst (.int 0)) (aCons (eCst (.int 1)) (aCons (eCst (.int 3)) aNil))))) (gName 8) tYes (eCallL 34 (eCall 29 (aCons (eVar 6) (aCons (eVar 8) aNil))))))) (sSeq (sExpr (upL1 7 (eCallL 34 (eCall 29 (aCons (eVar 6) (aCons (eCst (.int 2)) aNil)))) lAppend)) (sRet (eAnd (eCmp cEq (eVar 7) (op2 vAdd (op2 vMul (eLst (aCons (eCst (.str [112, 108, 97, 110])) aNil)) (eCst (.int 3))) (eLst (aCons (eCst (.str [])) aNil)))) (eCall 33 (aCons (eTup (aCons (eCall 22 (aCons (eVar 2) (aCons (eVar 5) aNil))) (aCons (eCall 28 (aCons (eCut (eVar 2) oNone (oSome (eCst (.int 3)))) aNil)) (aCons (eCall 28 (aCons (eVar 2) aNil)) aNil)))) (aCons (eTup (aCons (eCst (.str [111, 117, 116])) (aCons (eTup aNil) (aCons (eTup (aCons (eCst (.int 0)) (aCons (eCst (.int 1)) (aCons (eCst (.int 2)) (aCons (eCst (.int 3)) aNil))))) aNil)))) aNil)))))))))))))))))))
def fns : List Fn := [⟨1, 1, f_is_whole⟩, ⟨3, 3, f_fits_whole⟩, ⟨3, 3, f_is_tuple_of⟩, ⟨1, 2, f_fits_spot⟩, ⟨3, 5, f_turn_of⟩, ⟨3, 3, f_lies_between⟩, ⟨4, 6, f_do_cross⟩, ⟨1, 1, f_sides_of⟩, ⟨3, 3, f_do_fold⟩, ⟨1, 8, f_fits_outline⟩, ⟨1, 1, f_need_outline⟩, ⟨1, 1, f_need_spot⟩, ⟨1, 3, f_area_in⟩, ⟨1, 5, f_turns_in⟩, ⟨2, 6, f_place_in⟩, ⟨3, 13, f_halves_in⟩, ⟨3, 11, f_do_see⟩, ⟨2, 6, f_is_ear⟩, ⟨1, 1, f_is_outline⟩, ⟨1, 1, f_twice_area_of⟩, ⟨1, 1, f_corner_turns⟩, ⟨1, 2, f_is_bulging⟩, ⟨2, 2, f_place_of⟩, ⟨2, 2, f_need_within⟩, ⟨3, 3, f_sees⟩, ⟨2, 4, f_corners_seen⟩, ⟨2, 5, f_sees_all⟩, ⟨1, 9, f_corners_that_see⟩, ⟨1, 2, f_ears⟩, ⟨2, 2, f_cut_off⟩, ⟨1, 2, f__law_cup⟩, ⟨2, 4, f__law_roll⟩, ⟨2, 2, f__law_some⟩, ⟨2, 3, f__law_same⟩, ⟨1, 6, f__law_word⟩, ⟨4, 6, f__law_asked⟩, ⟨1, 9, f_law⟩]
end Py
namespace Hd
open PySem PySem.Spec PyProof.Rows L2 Sd
def top (i : Nat) : Stmt := PySem.Challenge.pw_leadlights_k81_whole_errors_of_outlines.main.body.getD i (.Pass ⟨0, 0, 0, 0⟩)
/-- what the text holds -/
structure Sx (P : Program) (w : World) (K : PySem.W.Frag) (mg : Str → Option Value) (base : Heap) (fa ca : Nat → Addr) (TT : List (Addr × Str)) (cp : Nat → Addr × Addr) : Prop where
  m_is_whole : mg "is_whole" = some (.ref (fa 0))
  F_is_whole : ∃ fd, FunD K "is_whole" "is_whole" (defArgs (top 8)) (defBody (top 8)) (defScope (top 8)) [] [] (fa 0) fd
  m_fits_whole : mg "fits_whole" = some (.ref (fa 1))
  F_fits_whole : ∃ fd, FunD K "fits_whole" "fits_whole" (defArgs (top 9)) (defBody (top 9)) (defScope (top 9)) [] [] (fa 1) fd
  m_is_tuple_of : mg "is_tuple_of" = some (.ref (fa 2))
  F_is_tuple_of : ∃ fd, FunD K "is_tuple_of" "is_tuple_of" (defArgs (top 10)) (defBody (top 10)) (defScope (top 10)) [] [] (fa 2) fd
  m_fits_spot : mg "fits_spot" = some (.ref (fa 3))
  F_fits_spot : ∃ fd, FunD K "fits_spot" "fits_spot" (defArgs (top 11)) (defBody (top 11)) (defScope (top 11)) [] [] (fa 3) fd
  m_turn_of : mg "turn_of" = some (.ref (fa 4))
  F_turn_of : ∃ fd, FunD K "turn_of" "turn_of" (defArgs (top 12)) (defBody (top 12)) (defScope (top 12)) [] [] (fa 4) fd
  m_lies_between : mg "lies_between" = some (.ref (fa 5))
  F_lies_between : ∃ fd, FunD K "lies_between" "lies_between" (defArgs (top 13)) (defBody (top 13)) (defScope (top 13)) [] [] (fa 5) fd
  m_do_cross : mg "do_cross" = some (.ref (fa 6))
  F_do_cross : ∃ fd, FunD K "do_cross" "do_cross" (defArgs (top 14)) (defBody (top 14)) (defScope (top 14)) [] [] (fa 6) fd
  m_sides_of : mg "sides_of" = some (.ref (fa 7))
  F_sides_of : ∃ fd, FunD K "sides_of" "sides_of" (defArgs (top 17)) (defBody (top 17)) (defScope (top 17)) [] [] (fa 7) fd
  m_do_fold : mg "do_fold" = some (.ref (fa 8))
  F_do_fold : ∃ fd, FunD K "do_fold" "do_fold" (defArgs (top 18)) (defBody (top 18)) (defScope (top 18)) [] [] (fa 8) fd
  m_fits_outline : mg "fits_outline" = some (.ref (fa 9))
  F_fits_outline : ∃ fd, FunD K "fits_outline" "fits_outline" (defArgs (top 19)) (defBody (top 19)) (defScope (top 19)) [] [] (fa 9) fd
  m_need_outline : mg "need_outline" = some (.ref (fa 10))
  F_need_outline : ∃ fd, FunD K "need_outline" "need_outline" (defArgs (top 20)) (defBody (top 20)) (defScope (top 20)) [] [] (fa 10) fd
  m_need_spot : mg "need_spot" = some (.ref (fa 11))
  F_need_spot : ∃ fd, FunD K "need_spot" "need_spot" (defArgs (top 21)) (defBody (top 21)) (defScope (top 21)) [] [] (fa 11) fd
  m_area_in : mg "area_in" = some (.ref (fa 12))
  F_area_in : ∃ fd, FunD K "area_in" "area_in" (defArgs (top 22)) (defBody (top 22)) (defScope (top 22)) [] [] (fa 12) fd
  m_turns_in : mg "turns_in" = some (.ref (fa 13))
  F_turns_in : ∃ fd, FunD K "turns_in" "turns_in" (defArgs (top 23)) (defBody (top 23)) (defScope (top 23)) [] [] (fa 13) fd
  m_place_in : mg "place_in" = some (.ref (fa 14))
  F_place_in : ∃ fd, FunD K "place_in" "place_in" (defArgs (top 24)) (defBody (top 24)) (defScope (top 24)) [] [] (fa 14) fd
  m_halves_in : mg "halves_in" = some (.ref (fa 15))
  F_halves_in : ∃ fd, FunD K "halves_in" "halves_in" (defArgs (top 25)) (defBody (top 25)) (defScope (top 25)) [] [] (fa 15) fd
  m_do_see : mg "do_see" = some (.ref (fa 16))
  F_do_see : ∃ fd, FunD K "do_see" "do_see" (defArgs (top 26)) (defBody (top 26)) (defScope (top 26)) [] [] (fa 16) fd
  m_is_ear : mg "is_ear" = some (.ref (fa 17))
  F_is_ear : ∃ fd, FunD K "is_ear" "is_ear" (defArgs (top 27)) (defBody (top 27)) (defScope (top 27)) [] [] (fa 17) fd
  m_is_outline : mg "is_outline" = some (.ref (fa 18))
  F_is_outline : ∃ fd, FunD K "is_outline" "is_outline" (defArgs (top 28)) (defBody (top 28)) (defScope (top 28)) [] [] (fa 18) fd
  m_twice_area_of : mg "twice_area_of" = some (.ref (fa 19))
  F_twice_area_of : ∃ fd, FunD K "twice_area_of" "twice_area_of" (defArgs (top 29)) (defBody (top 29)) (defScope (top 29)) [] [] (fa 19) fd
  m_corner_turns : mg "corner_turns" = some (.ref (fa 20))
  F_corner_turns : ∃ fd, FunD K "corner_turns" "corner_turns" (defArgs (top 30)) (defBody (top 30)) (defScope (top 30)) [] [] (fa 20) fd
  m_is_bulging : mg "is_bulging" = some (.ref (fa 21))
  F_is_bulging : ∃ fd, FunD K "is_bulging" "is_bulging" (defArgs (top 31)) (defBody (top 31)) (defScope (top 31)) [] [] (fa 21) fd
  m_place_of : mg "place_of" = some (.ref (fa 22))
  F_place_of : ∃ fd, FunD K "place_of" "place_of" (defArgs (top 32)) (defBody (top 32)) (defScope (top 32)) [] [] (fa 22) fd
  m_need_within : mg "need_within" = some (.ref (fa 23))
  F_need_within : ∃ fd, FunD K "need_within" "need_within" (defArgs (top 33)) (defBody (top 33)) (defScope (top 33)) [] [] (fa 23) fd
  m_sees : mg "sees" = some (.ref (fa 24))
  F_sees : ∃ fd, FunD K "sees" "sees" (defArgs (top 34)) (defBody (top 34)) (defScope (top 34)) [] [] (fa 24) fd
  m_corners_seen : mg "corners_seen" = some (.ref (fa 25))
  F_corners_seen : ∃ fd, FunD K "corners_seen" "corners_seen" (defArgs (top 35)) (defBody (top 35)) (defScope (top 35)) [] [] (fa 25) fd
  m_sees_all : mg "sees_all" = some (.ref (fa 26))
  F_sees_all : ∃ fd, FunD K "sees_all" "sees_all" (defArgs (top 36)) (defBody (top 36)) (defScope (top 36)) [] [] (fa 26) fd
  m_corners_that_see : mg "corners_that_see" = some (.ref (fa 27))
  F_corners_that_see : ∃ fd, FunD K "corners_that_see" "corners_that_see" (defArgs (top 37)) (defBody (top 37)) (defScope (top 37)) [] [] (fa 27) fd
  m_ears : mg "ears" = some (.ref (fa 28))
  F_ears : ∃ fd, FunD K "ears" "ears" (defArgs (top 38)) (defBody (top 38)) (defScope (top 38)) [] [] (fa 28) fd
  m_cut_off : mg "cut_off" = some (.ref (fa 29))
  F_cut_off : ∃ fd, FunD K "cut_off" "cut_off" (defArgs (top 39)) (defBody (top 39)) (defScope (top 39)) [] [] (fa 29) fd
  m__law_cup : mg "_law_cup" = some (.ref (fa 30))
  F__law_cup : ∃ fd, FunD K "_law_cup" "_law_cup" (defArgs (top 41)) (defBody (top 41)) (defScope (top 41)) [] [] (fa 30) fd
  m__law_roll : mg "_law_roll" = some (.ref (fa 31))
  F__law_roll : ∃ fd, FunD K "_law_roll" "_law_roll" (defArgs (top 42)) (defBody (top 42)) (defScope (top 42)) [] [] (fa 31) fd
  m__law_some : mg "_law_some" = some (.ref (fa 32))
  F__law_some : ∃ fd, FunD K "_law_some" "_law_some" (defArgs (top 43)) (defBody (top 43)) (defScope (top 43)) [] [] (fa 32) fd
  m__law_same : mg "_law_same" = some (.ref (fa 33))
  F__law_same : ∃ fd, FunD K "_law_same" "_law_same" (defArgs (top 44)) (defBody (top 44)) (defScope (top 44)) [] [] (fa 33) fd
  m__law_word : mg "_law_word" = some (.ref (fa 34))
  F__law_word : ∃ fd, FunD K "_law_word" "_law_word" (defArgs (top 45)) (defBody (top 45)) (defScope (top 45)) [] [] (fa 34) fd
  m__law_asked : mg "_law_asked" = some (.ref (fa 35))
  F__law_asked : ∃ fd, FunD K "_law_asked" "_law_asked" (defArgs (top 46)) (defBody (top 46)) (defScope (top 46)) [] [] (fa 35) fd
  m_law : mg "law" = some (.ref (fa 36))
  F_law : ∃ fd, FunD K "law" "law" (defArgs (top 47)) (defBody (top 47)) (defScope (top 47)) [] [] (fa 36) fd
  tb__law_asked : LamX.TabB base mg (cp 0).1 (cp 0).2
  ht__law_asked : ((cp 0).2, (envOfC "_law_asked" (defScope (top 46)) 0 0 (.ref (cp 0).1)).qual ++ "<lambda>") ∈ TT
  hq__law_asked : ∀ p ∈ TT, p.1 = (cp 0).2 → p.2 = (envOfC "_law_asked" (defScope (top 46)) 0 0 (.ref (cp 0).1)).qual ++ "<lambda>"
  hc__law_asked : ∀ oc od osl fd c, K.lookup (fa 35) = some ⟨oc, od, .func fd, osl⟩ → fd.code = .ref c → (cp 0).1 = c
  tb_law : LamX.TabB base mg (cp 1).1 (cp 1).2
  ht_law : ((cp 1).2, (envOfC "law" (defScope (top 47)) 0 0 (.ref (cp 1).1)).qual ++ "<lambda>") ∈ TT
  hq_law : ∀ p ∈ TT, p.1 = (cp 1).2 → p.2 = (envOfC "law" (defScope (top 47)) 0 0 (.ref (cp 1).1)).qual ++ "<lambda>"
  hc_law : ∀ oc od osl fd c, K.lookup (fa 36) = some ⟨oc, od, .func fd, osl⟩ → fd.code = .ref c → (cp 1).1 = c
  z_ValueError : mg "ValueError" = none
  z_abs : mg "abs" = none
  z_all : mg "all" = none
  z_any : mg "any" = none
  z_bool : mg "bool" = none
  z_enumerate : mg "enumerate" = none
  z_int : mg "int" = none
  z_isinstance : mg "isinstance" = none
  z_len : mg "len" = none
  z_list : mg "list" = none
  z_max : mg "max" = none
  z_min : mg "min" = none
  z_range : mg "range" = none
  z_set : mg "set" = none
  z_sorted : mg "sorted" = none
  z_str : mg "str" = none
  z_sum : mg "sum" = none
  z_tuple : mg "tuple" = none
  z_zip : mg "zip" = none
  exc : ∀ k, k < 5 → ExcC K (ca k)
  k_ValueError : ∀ k, k < 5 → PySem.W.kitOne K (.ref (ca k)) (.type "ValueError") = some ((List.range 5).any (Nat.beq k))
  n_LeadError : mg "LeadError" = some (.ref (ca 0))
  x_LeadError : PySem.W.excIn K (ca 0) He.veBase "ValueError.__new__" = true ∧ PySem.W.keepIn K (.ref (ca 0)) = true ∧ PySem.W.subIn K (.ref (ca 0)) (.type "BaseException") = some true ∧ PySem.W.typeIn K (.ref (ca 0)) = some (.type "type")
  e_LeadError : ∀ k, k < 5 → PySem.W.exmOne K (.ref (ca k)) (.ref (ca 0)) = some ([0, 1, 2, 3, 4].any (Nat.beq k))
  k_LeadError : ∀ k, k < 5 → PySem.W.kitOne K (.ref (ca k)) (.ref (ca 0)) = some ([0, 1, 2, 3, 4].any (Nat.beq k))
  n_InvalidSpot : mg "InvalidSpot" = some (.ref (ca 1))
  x_InvalidSpot : PySem.W.excIn K (ca 1) He.veBase "ValueError.__new__" = true ∧ PySem.W.keepIn K (.ref (ca 1)) = true ∧ PySem.W.subIn K (.ref (ca 1)) (.type "BaseException") = some true ∧ PySem.W.typeIn K (.ref (ca 1)) = some (.type "type")
  e_InvalidSpot : ∀ k, k < 5 → PySem.W.exmOne K (.ref (ca k)) (.ref (ca 1)) = some ([1].any (Nat.beq k))
  k_InvalidSpot : ∀ k, k < 5 → PySem.W.kitOne K (.ref (ca k)) (.ref (ca 1)) = some ([1].any (Nat.beq k))
  n_InvalidRound : mg "InvalidRound" = some (.ref (ca 2))
  x_InvalidRound : PySem.W.excIn K (ca 2) He.veBase "ValueError.__new__" = true ∧ PySem.W.keepIn K (.ref (ca 2)) = true ∧ PySem.W.subIn K (.ref (ca 2)) (.type "BaseException") = some true ∧ PySem.W.typeIn K (.ref (ca 2)) = some (.type "type")
  e_InvalidRound : ∀ k, k < 5 → PySem.W.exmOne K (.ref (ca k)) (.ref (ca 2)) = some ([2].any (Nat.beq k))
  k_InvalidRound : ∀ k, k < 5 → PySem.W.kitOne K (.ref (ca k)) (.ref (ca 2)) = some ([2].any (Nat.beq k))
  n_InvalidPlan : mg "InvalidPlan" = some (.ref (ca 3))
  x_InvalidPlan : PySem.W.excIn K (ca 3) He.veBase "ValueError.__new__" = true ∧ PySem.W.keepIn K (.ref (ca 3)) = true ∧ PySem.W.subIn K (.ref (ca 3)) (.type "BaseException") = some true ∧ PySem.W.typeIn K (.ref (ca 3)) = some (.type "type")
  e_InvalidPlan : ∀ k, k < 5 → PySem.W.exmOne K (.ref (ca k)) (.ref (ca 3)) = some ([3].any (Nat.beq k))
  k_InvalidPlan : ∀ k, k < 5 → PySem.W.kitOne K (.ref (ca k)) (.ref (ca 3)) = some ([3].any (Nat.beq k))
  n_InvalidNumber : mg "InvalidNumber" = some (.ref (ca 4))
  x_InvalidNumber : PySem.W.excIn K (ca 4) He.veBase "ValueError.__new__" = true ∧ PySem.W.keepIn K (.ref (ca 4)) = true ∧ PySem.W.subIn K (.ref (ca 4)) (.type "BaseException") = some true ∧ PySem.W.typeIn K (.ref (ca 4)) = some (.type "type")
  e_InvalidNumber : ∀ k, k < 5 → PySem.W.exmOne K (.ref (ca k)) (.ref (ca 4)) = some ([4].any (Nat.beq k))
  k_InvalidNumber : ∀ k, k < 5 → PySem.W.kitOne K (.ref (ca k)) (.ref (ca 4)) = some ([4].any (Nat.beq k))
  c_FAR : ∃ t, mg "FAR" = some (.int 1000 t)
  c_CORNERS : ∃ t, mg "CORNERS" = some (.int 16 t)
structure Tx (P : Program) (w : World) (K : PySem.W.Frag) (mg : Str → Option Value) (base : Heap) (fa ca : Nat → Addr) (TT : List (Addr × Str)) (cp : Nat → Addr × Addr) (cf : Py.CallF) (k : Nat) : Prop extends Sx P w K mg base fa ca TT cp where
  d_is_whole : DefOk P w K mg base ⟨K, fa, ca, TT⟩ cf k 0 1
  d_fits_whole : DefOk P w K mg base ⟨K, fa, ca, TT⟩ cf k 1 3
  d_is_tuple_of : DefOk P w K mg base ⟨K, fa, ca, TT⟩ cf k 2 3
  d_fits_spot : DefOk P w K mg base ⟨K, fa, ca, TT⟩ cf k 3 1
  d_turn_of : DefOk P w K mg base ⟨K, fa, ca, TT⟩ cf k 4 3
  d_lies_between : DefOk P w K mg base ⟨K, fa, ca, TT⟩ cf k 5 3
  d_do_cross : DefOk P w K mg base ⟨K, fa, ca, TT⟩ cf k 6 4
  d_sides_of : DefOk P w K mg base ⟨K, fa, ca, TT⟩ cf k 7 1
  d_do_fold : DefOk P w K mg base ⟨K, fa, ca, TT⟩ cf k 8 3
  d_fits_outline : DefOk P w K mg base ⟨K, fa, ca, TT⟩ cf k 9 1
  d_need_outline : DefOk P w K mg base ⟨K, fa, ca, TT⟩ cf k 10 1
  d_need_spot : DefOk P w K mg base ⟨K, fa, ca, TT⟩ cf k 11 1
  d_area_in : DefOk P w K mg base ⟨K, fa, ca, TT⟩ cf k 12 1
  d_turns_in : DefOk P w K mg base ⟨K, fa, ca, TT⟩ cf k 13 1
  d_place_in : DefOk P w K mg base ⟨K, fa, ca, TT⟩ cf k 14 2
  d_halves_in : DefOk P w K mg base ⟨K, fa, ca, TT⟩ cf k 15 3
  d_do_see : DefOk P w K mg base ⟨K, fa, ca, TT⟩ cf k 16 3
  d_is_ear : DefOk P w K mg base ⟨K, fa, ca, TT⟩ cf k 17 2
  d_is_outline : DefOk P w K mg base ⟨K, fa, ca, TT⟩ cf k 18 1
  d_twice_area_of : DefOk P w K mg base ⟨K, fa, ca, TT⟩ cf k 19 1
  d_corner_turns : DefOk P w K mg base ⟨K, fa, ca, TT⟩ cf k 20 1
  d_is_bulging : DefOk P w K mg base ⟨K, fa, ca, TT⟩ cf k 21 1
  d_place_of : DefOk P w K mg base ⟨K, fa, ca, TT⟩ cf k 22 2
  d_need_within : DefOk P w K mg base ⟨K, fa, ca, TT⟩ cf k 23 2
  d_sees : DefOk P w K mg base ⟨K, fa, ca, TT⟩ cf k 24 3
  d_corners_seen : DefOk P w K mg base ⟨K, fa, ca, TT⟩ cf k 25 2
  d_sees_all : DefOk P w K mg base ⟨K, fa, ca, TT⟩ cf k 26 2
  d_corners_that_see : DefOk P w K mg base ⟨K, fa, ca, TT⟩ cf k 27 1
  d_ears : DefOk P w K mg base ⟨K, fa, ca, TT⟩ cf k 28 1
  d_cut_off : DefOk P w K mg base ⟨K, fa, ca, TT⟩ cf k 29 2
  d__law_cup : DefOk P w K mg base ⟨K, fa, ca, TT⟩ cf k 30 1
  d__law_roll : DefOk P w K mg base ⟨K, fa, ca, TT⟩ cf k 31 2
  d__law_some : DefOk P w K mg base ⟨K, fa, ca, TT⟩ cf k 32 2
  d__law_same : DefOk P w K mg base ⟨K, fa, ca, TT⟩ cf k 33 2
  d__law_word : DefOk P w K mg base ⟨K, fa, ca, TT⟩ cf k 34 1
  d__law_asked : DefOk P w K mg base ⟨K, fa, ca, TT⟩ cf k 35 4
  d_law : DefOk P w K mg base ⟨K, fa, ca, TT⟩ cf k 36 1
  l__law_word : LamOk P w K mg base ⟨K, fa, ca, TT⟩ cf k 34 "call"
  fam : Fam P w K mg base ⟨K, fa, ca, TT⟩ cf k 37
section
variable {P : Program} {w : World} {K : PySem.W.Frag} {mg : Str → Option Value} {base : Heap} {fa ca : Nat → Addr} {TT : List (Addr × Str)} {cp : Nat → Addr × Addr} {cf : Py.CallF} {k : Nat} (T : Tx P w K mg base fa ca TT cp cf k)
include T
theorem b_is_whole (cdv : Value) (A : Around) (outer : List Env) (s : Shared) (H : Hp) (E : XK) (fad : Addr) (hr2 : Room (k + 2) (CxD P w K mg base ["value"] "is_whole" (top 8) fad cdv A outer s H E).A) :
    PSs (CxD P w K mg base ["value"] "is_whole" (top 8) fad cdv A outer s H E) (defBody (top 8)) (tS (G.mk K fa ca TT) Fx.none (fun cls d _ H => E cls d H) cf Py.f_is_whole) := by
  have hr : Room k (CxD P w K mg base ["value"] "is_whole" (top 8) fad cdv A outer s H E).A := hr2.mono (by omega)
  have hu := hr.units
  have nd : (["value"] : List Str).Nodup := by decide +kernel
  have tk : L2N.Takes (CxD P w K mg base ["value"] "is_whole" (top 8) fad cdv A outer s H E) (fun cls d _ H => E cls d H) := L2N.takes_of rfl rfl rfl rfl
  have hp := passes_of (X := (CxD P w K mg base ["value"] "is_whole" (top 8) fad cdv A outer s H E)) rfl
  unfold Py.f_is_whole
  exact (ss_one (ss_ret (so_and (g := (G.mk K fa ca TT)) (so_isi (g := (G.mk K fa ca TT)) rfl T.z_isinstance rfl T.z_int rfl (by decide) (by decide) (so_var (i := 0) rfl (by first | exact Or.inl rfl | exact Or.inr (Or.inl rfl) | exact Or.inr (Or.inr rfl)))) (so_one (so_not (g := (G.mk K fa ca TT)) (so_isi (g := (G.mk K fa ca TT)) rfl T.z_isinstance rfl T.z_bool rfl (by decide) (by decide) (so_var (i := 0) rfl (by first | exact Or.inl rfl | exact Or.inr (Or.inl rfl) | exact Or.inr (Or.inr rfl)))))))))
theorem b_fits_whole (cdv : Value) (A : Around) (outer : List Env) (s : Shared) (H : Hp) (E : XK) (fad : Addr) (hr2 : Room (k + 2) (CxD P w K mg base ["value", "low", "high"] "fits_whole" (top 9) fad cdv A outer s H E).A) :
    PSs (CxD P w K mg base ["value", "low", "high"] "fits_whole" (top 9) fad cdv A outer s H E) (defBody (top 9)) (tS (G.mk K fa ca TT) Fx.none (fun cls d _ H => E cls d H) cf Py.f_fits_whole) := by
  have hr : Room k (CxD P w K mg base ["value", "low", "high"] "fits_whole" (top 9) fad cdv A outer s H E).A := hr2.mono (by omega)
  have hu := hr.units
  have nd : (["value", "low", "high"] : List Str).Nodup := by decide +kernel
  have tk : L2N.Takes (CxD P w K mg base ["value", "low", "high"] "fits_whole" (top 9) fad cdv A outer s H E) (fun cls d _ H => E cls d H) := L2N.takes_of rfl rfl rfl rfl
  have hp := passes_of (X := (CxD P w K mg base ["value", "low", "high"] "fits_whole" (top 9) fad cdv A outer s H E)) rfl
  unfold Py.f_fits_whole
  exact (ss_one (ss_ret (so_and (g := (G.mk K fa ca TT)) (so_def (g := (G.mk K fa ca TT)) T.d_is_whole hr rfl T.m_is_whole tk (sa_cons (so_var (i := 0) rfl (by first | exact Or.inl rfl | exact Or.inr (Or.inl rfl) | exact Or.inr (Or.inr rfl))) sa_nil)) (so_one (so_chain (g := (G.mk K fa ca TT)) (so_le hu) (so_le hu) (so_var (i := 1) rfl (by first | exact Or.inl rfl | exact Or.inr (Or.inl rfl) | exact Or.inr (Or.inr rfl))) (so_var (i := 0) rfl (by first | exact Or.inl rfl | exact Or.inr (Or.inl rfl) | exact Or.inr (Or.inr rfl))) (so_var (i := 2) rfl (by first | exact Or.inl rfl | exact Or.inr (Or.inl rfl) | exact Or.inr (Or.inr rfl))))))))
theorem b_is_tuple_of (cdv : Value) (A : Around) (outer : List Env) (s : Shared) (H : Hp) (E : XK) (fad : Addr) (hr2 : Room (k + 2) (CxD P w K mg base ["value", "least", "most"] "is_tuple_of" (top 10) fad cdv A outer s H E).A) :
    PSs (CxD P w K mg base ["value", "least", "most"] "is_tuple_of" (top 10) fad cdv A outer s H E) (defBody (top 10)) (tS (G.mk K fa ca TT) Fx.none (fun cls d _ H => E cls d H) cf Py.f_is_tuple_of) := by
  have hr : Room k (CxD P w K mg base ["value", "least", "most"] "is_tuple_of" (top 10) fad cdv A outer s H E).A := hr2.mono (by omega)
  have hu := hr.units
  have nd : (["value", "least", "most"] : List Str).Nodup := by decide +kernel
  have tk : L2N.Takes (CxD P w K mg base ["value", "least", "most"] "is_tuple_of" (top 10) fad cdv A outer s H E) (fun cls d _ H => E cls d H) := L2N.takes_of rfl rfl rfl rfl
  have hp := passes_of (X := (CxD P w K mg base ["value", "least", "most"] "is_tuple_of" (top 10) fad cdv A outer s H E)) rfl
  unfold Py.f_is_tuple_of
  exact (ss_one (ss_ret (so_and (g := (G.mk K fa ca TT)) (so_isi (g := (G.mk K fa ca TT)) rfl T.z_isinstance rfl T.z_tuple rfl (by decide) (by decide) (so_var (i := 0) rfl (by first | exact Or.inl rfl | exact Or.inr (Or.inl rfl) | exact Or.inr (Or.inr rfl)))) (so_one (so_chain (g := (G.mk K fa ca TT)) (so_le hu) (so_le hu) (so_var (i := 1) rfl (by first | exact Or.inl rfl | exact Or.inr (Or.inl rfl) | exact Or.inr (Or.inr rfl))) (so_call1 (g := (G.mk K fa ca TT)) (sc_len) rfl T.z_len rfl (so_var (i := 0) rfl (by first | exact Or.inl rfl | exact Or.inr (Or.inl rfl) | exact Or.inr (Or.inr rfl)))) (so_var (i := 2) rfl (by first | exact Or.inl rfl | exact Or.inr (Or.inl rfl) | exact Or.inr (Or.inr rfl))))))))
theorem b_fits_spot (cdv : Value) (A : Around) (outer : List Env) (s : Shared) (H : Hp) (E : XK) (fad : Addr) (hr2 : Room (k + 2) (CxD P w K mg base ["value", "one"] "fits_spot" (top 11) fad cdv A outer s H E).A) :
    PSs (CxD P w K mg base ["value", "one"] "fits_spot" (top 11) fad cdv A outer s H E) (defBody (top 11)) (tS (G.mk K fa ca TT) Fx.none (fun cls d _ H => E cls d H) cf Py.f_fits_spot) := by
  have hr : Room k (CxD P w K mg base ["value", "one"] "fits_spot" (top 11) fad cdv A outer s H E).A := hr2.mono (by omega)
  have hu := hr.units
  have nd : (["value", "one"] : List Str).Nodup := by decide +kernel
  have tk : L2N.Takes (CxD P w K mg base ["value", "one"] "fits_spot" (top 11) fad cdv A outer s H E) (fun cls d _ H => E cls d H) := L2N.takes_of rfl rfl rfl rfl
  have hp := passes_of (X := (CxD P w K mg base ["value", "one"] "fits_spot" (top 11) fad cdv A outer s H E)) rfl
  unfold Py.f_fits_spot
  exact (ss_one (ss_ret (so_and (g := (G.mk K fa ca TT)) (so_def (g := (G.mk K fa ca TT)) T.d_is_tuple_of hr rfl T.m_is_tuple_of tk (sa_cons (so_var (i := 0) rfl (by first | exact Or.inl rfl | exact Or.inr (Or.inl rfl) | exact Or.inr (Or.inr rfl))) (sa_cons so_int (sa_cons so_int sa_nil)))) (so_one (so_call1 (g := (G.mk K fa ca TT)) (sc_all rfl) rfl T.z_all rfl (so_ofN (sn_comp rfl nd (own := [("one", 1)]) rfl (si_val (g := (G.mk K fa ca TT)) (so_var (i := 0) rfl (by first | exact Or.inl rfl | exact Or.inr (Or.inl rfl) | exact Or.inr (Or.inr rfl)))) (blkOk_by (by kernel_rfl)) (fun _ _ _ _ _ => (sg_name (i := 1) (by decide) nd rfl (by first | exact Or.inl rfl | exact Or.inr rfl))) (fun _ _ _ _ _ => ts_nil) (fun _ _ _ _ _ => (so_def (g := (G.mk K fa ca TT)) T.d_fits_whole hr rfl T.m_fits_whole Sd.takes0 (sa_cons (so_var (i := 1) rfl (by first | exact Or.inl rfl | exact Or.inr (Or.inl rfl) | exact Or.inr (Or.inr rfl))) (sa_cons (so_un (g := (G.mk K fa ca TT)) so_neg (so_gint rfl T.c_FAR)) (sa_cons (so_gint rfl T.c_FAR) sa_nil))))))))))))
theorem b_turn_of (cdv : Value) (A : Around) (outer : List Env) (s : Shared) (H : Hp) (E : XK) (fad : Addr) (hr2 : Room (k + 2) (CxD P w K mg base ["one", "other", "third", "right", "up"] "turn_of" (top 12) fad cdv A outer s H E).A) :
    PSs (CxD P w K mg base ["one", "other", "third", "right", "up"] "turn_of" (top 12) fad cdv A outer s H E) (defBody (top 12)) (tS (G.mk K fa ca TT) Fx.none (fun cls d _ H => E cls d H) cf Py.f_turn_of) := by
  have hr : Room k (CxD P w K mg base ["one", "other", "third", "right", "up"] "turn_of" (top 12) fad cdv A outer s H E).A := hr2.mono (by omega)
  have hu := hr.units
  have nd : (["one", "other", "third", "right", "up"] : List Str).Nodup := by decide +kernel
  have tk : L2N.Takes (CxD P w K mg base ["one", "other", "third", "right", "up"] "turn_of" (top 12) fad cdv A outer s H E) (fun cls d _ H => E cls d H) := L2N.takes_of rfl rfl rfl rfl
  have hp := passes_of (X := (CxD P w K mg base ["one", "other", "third", "right", "up"] "turn_of" (top 12) fad cdv A outer s H E)) rfl
  unfold Py.f_turn_of
  exact (ss_cons (by first | exact ss_par2 rfl nd rfl rfl (by decide) rfl rfl rfl rfl (sa_cons (so_op (g := (G.mk K fa ca TT)) so_sub (so_item (g := (G.mk K fa ca TT)) (fun _ _ => rfl) (so_var (i := 1) rfl (by first | exact Or.inl rfl | exact Or.inr (Or.inl rfl) | exact Or.inr (Or.inr rfl))) so_int) (so_item (g := (G.mk K fa ca TT)) (fun _ _ => rfl) (so_var (i := 0) rfl (by first | exact Or.inl rfl | exact Or.inr (Or.inl rfl) | exact Or.inr (Or.inr rfl))) so_int)) (sa_cons (so_op (g := (G.mk K fa ca TT)) so_sub (so_item (g := (G.mk K fa ca TT)) (fun _ _ => rfl) (so_var (i := 1) rfl (by first | exact Or.inl rfl | exact Or.inr (Or.inl rfl) | exact Or.inr (Or.inr rfl))) so_int) (so_item (g := (G.mk K fa ca TT)) (fun _ _ => rfl) (so_var (i := 0) rfl (by first | exact Or.inl rfl | exact Or.inr (Or.inl rfl) | exact Or.inr (Or.inr rfl))) so_int)) sa_nil)) | exact ss_parN rfl (sn_cons nd rfl (by first | exact Or.inl rfl | exact Or.inr rfl) (sn_cons nd rfl (by first | exact Or.inl rfl | exact Or.inr rfl) sn_nil)) rfl rfl rfl rfl rfl (by show _ ≤ sizeLine; decide) (sa_cons (so_op (g := (G.mk K fa ca TT)) so_sub (so_item (g := (G.mk K fa ca TT)) (fun _ _ => rfl) (so_var (i := 1) rfl (by first | exact Or.inl rfl | exact Or.inr (Or.inl rfl) | exact Or.inr (Or.inr rfl))) so_int) (so_item (g := (G.mk K fa ca TT)) (fun _ _ => rfl) (so_var (i := 0) rfl (by first | exact Or.inl rfl | exact Or.inr (Or.inl rfl) | exact Or.inr (Or.inr rfl))) so_int)) (sa_cons (so_op (g := (G.mk K fa ca TT)) so_sub (so_item (g := (G.mk K fa ca TT)) (fun _ _ => rfl) (so_var (i := 1) rfl (by first | exact Or.inl rfl | exact Or.inr (Or.inl rfl) | exact Or.inr (Or.inr rfl))) so_int) (so_item (g := (G.mk K fa ca TT)) (fun _ _ => rfl) (so_var (i := 0) rfl (by first | exact Or.inl rfl | exact Or.inr (Or.inl rfl) | exact Or.inr (Or.inr rfl))) so_int)) sa_nil))) (ss_one (ss_ret (so_op (g := (G.mk K fa ca TT)) so_sub (so_op (g := (G.mk K fa ca TT)) so_mul (so_var (i := 3) rfl (by first | exact Or.inl rfl | exact Or.inr (Or.inl rfl) | exact Or.inr (Or.inr rfl))) (so_op (g := (G.mk K fa ca TT)) so_sub (so_item (g := (G.mk K fa ca TT)) (fun _ _ => rfl) (so_var (i := 2) rfl (by first | exact Or.inl rfl | exact Or.inr (Or.inl rfl) | exact Or.inr (Or.inr rfl))) so_int) (so_item (g := (G.mk K fa ca TT)) (fun _ _ => rfl) (so_var (i := 0) rfl (by first | exact Or.inl rfl | exact Or.inr (Or.inl rfl) | exact Or.inr (Or.inr rfl))) so_int))) (so_op (g := (G.mk K fa ca TT)) so_mul (so_var (i := 4) rfl (by first | exact Or.inl rfl | exact Or.inr (Or.inl rfl) | exact Or.inr (Or.inr rfl))) (so_op (g := (G.mk K fa ca TT)) so_sub (so_item (g := (G.mk K fa ca TT)) (fun _ _ => rfl) (so_var (i := 2) rfl (by first | exact Or.inl rfl | exact Or.inr (Or.inl rfl) | exact Or.inr (Or.inr rfl))) so_int) (so_item (g := (G.mk K fa ca TT)) (fun _ _ => rfl) (so_var (i := 0) rfl (by first | exact Or.inl rfl | exact Or.inr (Or.inl rfl) | exact Or.inr (Or.inr rfl))) so_int)))))))
theorem b_lies_between (cdv : Value) (A : Around) (outer : List Env) (s : Shared) (H : Hp) (E : XK) (fad : Addr) (hr2 : Room (k + 2) (CxD P w K mg base ["one", "other", "spot"] "lies_between" (top 13) fad cdv A outer s H E).A) :
    PSs (CxD P w K mg base ["one", "other", "spot"] "lies_between" (top 13) fad cdv A outer s H E) (defBody (top 13)) (tS (G.mk K fa ca TT) Fx.none (fun cls d _ H => E cls d H) cf Py.f_lies_between) := by
  have hr : Room k (CxD P w K mg base ["one", "other", "spot"] "lies_between" (top 13) fad cdv A outer s H E).A := hr2.mono (by omega)
  have hu := hr.units
  have nd : (["one", "other", "spot"] : List Str).Nodup := by decide +kernel
  have tk : L2N.Takes (CxD P w K mg base ["one", "other", "spot"] "lies_between" (top 13) fad cdv A outer s H E) (fun cls d _ H => E cls d H) := L2N.takes_of rfl rfl rfl rfl
  have hp := passes_of (X := (CxD P w K mg base ["one", "other", "spot"] "lies_between" (top 13) fad cdv A outer s H E)) rfl
  unfold Py.f_lies_between
  exact (ss_cons (ss_if (st_cmp (g := (G.mk K fa ca TT)) (so_ne hu) (so_def (g := (G.mk K fa ca TT)) T.d_turn_of hr rfl T.m_turn_of tk (sa_cons (so_var (i := 0) rfl (by first | exact Or.inl rfl | exact Or.inr (Or.inl rfl) | exact Or.inr (Or.inr rfl))) (sa_cons (so_var (i := 1) rfl (by first | exact Or.inl rfl | exact Or.inr (Or.inl rfl) | exact Or.inr (Or.inr rfl))) (sa_cons (so_var (i := 2) rfl (by first | exact Or.inl rfl | exact Or.inr (Or.inl rfl) | exact Or.inr (Or.inr rfl))) sa_nil)))) so_int (nomark _)) (ss_one (ss_ret so_bl)) ss_nil) (ss_one (ss_ret (so_chain (g := (G.mk K fa ca TT)) (so_le hu) (so_le hu) (so_call2 (g := (G.mk K fa ca TT)) (sc_min2 rfl hu) rfl T.z_min rfl (so_var (i := 0) rfl (by first | exact Or.inl rfl | exact Or.inr (Or.inl rfl) | exact Or.inr (Or.inr rfl))) (so_var (i := 1) rfl (by first | exact Or.inl rfl | exact Or.inr (Or.inl rfl) | exact Or.inr (Or.inr rfl)))) (so_var (i := 2) rfl (by first | exact Or.inl rfl | exact Or.inr (Or.inl rfl) | exact Or.inr (Or.inr rfl))) (so_call2 (g := (G.mk K fa ca TT)) (sc_max2 rfl hu) rfl T.z_max rfl (so_var (i := 0) rfl (by first | exact Or.inl rfl | exact Or.inr (Or.inl rfl) | exact Or.inr (Or.inr rfl))) (so_var (i := 1) rfl (by first | exact Or.inl rfl | exact Or.inr (Or.inl rfl) | exact Or.inr (Or.inr rfl))))))))
theorem b_do_cross (cdv : Value) (A : Around) (outer : List Env) (s : Shared) (H : Hp) (E : XK) (fad : Addr) (hr2 : Room (k + 2) (CxD P w K mg base ["one", "other", "third", "fourth", "first", "spot"] "do_cross" (top 14) fad cdv A outer s H E).A) :
    PSs (CxD P w K mg base ["one", "other", "third", "fourth", "first", "spot"] "do_cross" (top 14) fad cdv A outer s H E) (defBody (top 14)) (tS (G.mk K fa ca TT) Fx.none (fun cls d _ H => E cls d H) cf Py.f_do_cross) := by
  have hr : Room k (CxD P w K mg base ["one", "other", "third", "fourth", "first", "spot"] "do_cross" (top 14) fad cdv A outer s H E).A := hr2.mono (by omega)
  have hu := hr.units
  have nd : (["one", "other", "third", "fourth", "first", "spot"] : List Str).Nodup := by decide +kernel
  have tk : L2N.Takes (CxD P w K mg base ["one", "other", "third", "fourth", "first", "spot"] "do_cross" (top 14) fad cdv A outer s H E) (fun cls d _ H => E cls d H) := L2N.takes_of rfl rfl rfl rfl
  have hp := passes_of (X := (CxD P w K mg base ["one", "other", "third", "fourth", "first", "spot"] "do_cross" (top 14) fad cdv A outer s H E)) rfl
  unfold Py.f_do_cross
  exact (ss_cons (ss_if (st_val (g := (G.mk K fa ca TT)) (so_call1 (g := (G.mk K fa ca TT)) (sc_any rfl) rfl T.z_any rfl (so_ofN (sn_comp rfl nd (own := [("spot", 5)]) rfl (si_val (g := (G.mk K fa ca TT)) (so_tup (g := (G.mk K fa ca TT)) (sa_cons (so_var (i := 2) rfl (by first | exact Or.inl rfl | exact Or.inr (Or.inl rfl) | exact Or.inr (Or.inr rfl))) (sa_cons (so_var (i := 3) rfl (by first | exact Or.inl rfl | exact Or.inr (Or.inl rfl) | exact Or.inr (Or.inr rfl))) sa_nil)))) (blkOk_by (by kernel_rfl)) (fun _ _ _ _ _ => (sg_name (i := 5) (by decide) nd rfl (by first | exact Or.inl rfl | exact Or.inr rfl))) (fun _ _ _ _ _ => ts_nil) (fun _ _ _ _ _ => (so_def (g := (G.mk K fa ca TT)) T.d_lies_between hr rfl T.m_lies_between Sd.takes0 (sa_cons (so_var (i := 0) rfl (by first | exact Or.inl rfl | exact Or.inr (Or.inl rfl) | exact Or.inr (Or.inr rfl))) (sa_cons (so_var (i := 1) rfl (by first | exact Or.inl rfl | exact Or.inr (Or.inl rfl) | exact Or.inr (Or.inr rfl))) (sa_cons (so_var (i := 5) rfl (by first | exact Or.inl rfl | exact Or.inr (Or.inl rfl) | exact Or.inr (Or.inr rfl))) sa_nil))))))))) (ss_one (ss_ret so_bl)) ss_nil) (ss_cons (ss_if (st_val (g := (G.mk K fa ca TT)) (so_call1 (g := (G.mk K fa ca TT)) (sc_any rfl) rfl T.z_any rfl (so_ofN (sn_comp rfl nd (own := [("spot", 5)]) rfl (si_val (g := (G.mk K fa ca TT)) (so_tup (g := (G.mk K fa ca TT)) (sa_cons (so_var (i := 0) rfl (by first | exact Or.inl rfl | exact Or.inr (Or.inl rfl) | exact Or.inr (Or.inr rfl))) (sa_cons (so_var (i := 1) rfl (by first | exact Or.inl rfl | exact Or.inr (Or.inl rfl) | exact Or.inr (Or.inr rfl))) sa_nil)))) (blkOk_by (by kernel_rfl)) (fun _ _ _ _ _ => (sg_name (i := 5) (by decide) nd rfl (by first | exact Or.inl rfl | exact Or.inr rfl))) (fun _ _ _ _ _ => ts_nil) (fun _ _ _ _ _ => (so_def (g := (G.mk K fa ca TT)) T.d_lies_between hr rfl T.m_lies_between Sd.takes0 (sa_cons (so_var (i := 2) rfl (by first | exact Or.inl rfl | exact Or.inr (Or.inl rfl) | exact Or.inr (Or.inr rfl))) (sa_cons (so_var (i := 3) rfl (by first | exact Or.inl rfl | exact Or.inr (Or.inl rfl) | exact Or.inr (Or.inr rfl))) (sa_cons (so_var (i := 5) rfl (by first | exact Or.inl rfl | exact Or.inr (Or.inl rfl) | exact Or.inr (Or.inr rfl))) sa_nil))))))))) (ss_one (ss_ret so_bl)) ss_nil) (ss_cons (ss_asg (i := 4) nd rfl (by first | exact Or.inl rfl | exact Or.inr rfl) (so_cmp (g := (G.mk K fa ca TT)) (so_ne hu) (so_cmp (g := (G.mk K fa ca TT)) (so_gt hu) (so_def (g := (G.mk K fa ca TT)) T.d_turn_of hr rfl T.m_turn_of tk (sa_cons (so_var (i := 0) rfl (by first | exact Or.inl rfl | exact Or.inr (Or.inl rfl) | exact Or.inr (Or.inr rfl))) (sa_cons (so_var (i := 1) rfl (by first | exact Or.inl rfl | exact Or.inr (Or.inl rfl) | exact Or.inr (Or.inr rfl))) (sa_cons (so_var (i := 2) rfl (by first | exact Or.inl rfl | exact Or.inr (Or.inl rfl) | exact Or.inr (Or.inr rfl))) sa_nil)))) so_int (nomark _)) (so_cmp (g := (G.mk K fa ca TT)) (so_gt hu) (so_def (g := (G.mk K fa ca TT)) T.d_turn_of hr rfl T.m_turn_of tk (sa_cons (so_var (i := 0) rfl (by first | exact Or.inl rfl | exact Or.inr (Or.inl rfl) | exact Or.inr (Or.inr rfl))) (sa_cons (so_var (i := 1) rfl (by first | exact Or.inl rfl | exact Or.inr (Or.inl rfl) | exact Or.inr (Or.inr rfl))) (sa_cons (so_var (i := 3) rfl (by first | exact Or.inl rfl | exact Or.inr (Or.inl rfl) | exact Or.inr (Or.inr rfl))) sa_nil)))) so_int (nomark _)) (nomark _))) (ss_one (ss_ret (so_and (g := (G.mk K fa ca TT)) (so_var (i := 4) rfl (by first | exact Or.inl rfl | exact Or.inr (Or.inl rfl) | exact Or.inr (Or.inr rfl))) (so_one (so_cmp (g := (G.mk K fa ca TT)) (so_ne hu) (so_cmp (g := (G.mk K fa ca TT)) (so_gt hu) (so_def (g := (G.mk K fa ca TT)) T.d_turn_of hr rfl T.m_turn_of tk (sa_cons (so_var (i := 2) rfl (by first | exact Or.inl rfl | exact Or.inr (Or.inl rfl) | exact Or.inr (Or.inr rfl))) (sa_cons (so_var (i := 3) rfl (by first | exact Or.inl rfl | exact Or.inr (Or.inl rfl) | exact Or.inr (Or.inr rfl))) (sa_cons (so_var (i := 0) rfl (by first | exact Or.inl rfl | exact Or.inr (Or.inl rfl) | exact Or.inr (Or.inr rfl))) sa_nil)))) so_int (nomark _)) (so_cmp (g := (G.mk K fa ca TT)) (so_gt hu) (so_def (g := (G.mk K fa ca TT)) T.d_turn_of hr rfl T.m_turn_of tk (sa_cons (so_var (i := 2) rfl (by first | exact Or.inl rfl | exact Or.inr (Or.inl rfl) | exact Or.inr (Or.inr rfl))) (sa_cons (so_var (i := 3) rfl (by first | exact Or.inl rfl | exact Or.inr (Or.inl rfl) | exact Or.inr (Or.inr rfl))) (sa_cons (so_var (i := 1) rfl (by first | exact Or.inl rfl | exact Or.inr (Or.inl rfl) | exact Or.inr (Or.inr rfl))) sa_nil)))) so_int (nomark _)) (nomark _)))))))))
theorem b_sides_of (cdv : Value) (A : Around) (outer : List Env) (s : Shared) (H : Hp) (E : XK) (fad : Addr) (hr2 : Room (k + 2) (CxD P w K mg base ["outline"] "sides_of" (top 17) fad cdv A outer s H E).A) :
    PSs (CxD P w K mg base ["outline"] "sides_of" (top 17) fad cdv A outer s H E) (defBody (top 17)) (tS (G.mk K fa ca TT) Fx.none (fun cls d _ H => E cls d H) cf Py.f_sides_of) := by
  have hr : Room k (CxD P w K mg base ["outline"] "sides_of" (top 17) fad cdv A outer s H E).A := hr2.mono (by omega)
  have hu := hr.units
  have nd : (["outline"] : List Str).Nodup := by decide +kernel
  have tk : L2N.Takes (CxD P w K mg base ["outline"] "sides_of" (top 17) fad cdv A outer s H E) (fun cls d _ H => E cls d H) := L2N.takes_of rfl rfl rfl rfl
  have hp := passes_of (X := (CxD P w K mg base ["outline"] "sides_of" (top 17) fad cdv A outer s H E)) rfl
  unfold Py.f_sides_of
  exact (ss_one (ss_ret (so_ofN (sn_listZip (g := (G.mk K fa ca TT)) rfl rfl T.z_list rfl T.z_zip (so_var (i := 0) rfl (by first | exact Or.inl rfl | exact Or.inr (Or.inl rfl) | exact Or.inr (Or.inr rfl))) (so_op (g := (G.mk K fa ca TT)) so_add (so_ofN (sn_cut (g := (G.mk K fa ca TT)) (so_var (i := 0) rfl (by first | exact Or.inl rfl | exact Or.inr (Or.inl rfl) | exact Or.inr (Or.inr rfl))) (sp_some so_int) sp_none)) (so_ofN (sn_cut (g := (G.mk K fa ca TT)) (so_var (i := 0) rfl (by first | exact Or.inl rfl | exact Or.inr (Or.inl rfl) | exact Or.inr (Or.inr rfl))) sp_none (sp_some so_int))))))))
theorem b_do_fold (cdv : Value) (A : Around) (outer : List Env) (s : Shared) (H : Hp) (E : XK) (fad : Addr) (hr2 : Room (k + 2) (CxD P w K mg base ["one", "corner", "other"] "do_fold" (top 18) fad cdv A outer s H E).A) :
    PSs (CxD P w K mg base ["one", "corner", "other"] "do_fold" (top 18) fad cdv A outer s H E) (defBody (top 18)) (tS (G.mk K fa ca TT) Fx.none (fun cls d _ H => E cls d H) cf Py.f_do_fold) := by
  have hr : Room k (CxD P w K mg base ["one", "corner", "other"] "do_fold" (top 18) fad cdv A outer s H E).A := hr2.mono (by omega)
  have hu := hr.units
  have nd : (["one", "corner", "other"] : List Str).Nodup := by decide +kernel
  have tk : L2N.Takes (CxD P w K mg base ["one", "corner", "other"] "do_fold" (top 18) fad cdv A outer s H E) (fun cls d _ H => E cls d H) := L2N.takes_of rfl rfl rfl rfl
  have hp := passes_of (X := (CxD P w K mg base ["one", "corner", "other"] "do_fold" (top 18) fad cdv A outer s H E)) rfl
  unfold Py.f_do_fold
  exact (ss_one (ss_ret (so_or (g := (G.mk K fa ca TT)) (so_def (g := (G.mk K fa ca TT)) T.d_lies_between hr rfl T.m_lies_between tk (sa_cons (so_var (i := 0) rfl (by first | exact Or.inl rfl | exact Or.inr (Or.inl rfl) | exact Or.inr (Or.inr rfl))) (sa_cons (so_var (i := 1) rfl (by first | exact Or.inl rfl | exact Or.inr (Or.inl rfl) | exact Or.inr (Or.inr rfl))) (sa_cons (so_var (i := 2) rfl (by first | exact Or.inl rfl | exact Or.inr (Or.inl rfl) | exact Or.inr (Or.inr rfl))) sa_nil)))) (so_one (so_def (g := (G.mk K fa ca TT)) T.d_lies_between hr rfl T.m_lies_between tk (sa_cons (so_var (i := 1) rfl (by first | exact Or.inl rfl | exact Or.inr (Or.inl rfl) | exact Or.inr (Or.inr rfl))) (sa_cons (so_var (i := 2) rfl (by first | exact Or.inl rfl | exact Or.inr (Or.inl rfl) | exact Or.inr (Or.inr rfl))) (sa_cons (so_var (i := 0) rfl (by first | exact Or.inl rfl | exact Or.inr (Or.inl rfl) | exact Or.inr (Or.inr rfl))) sa_nil))))))))
theorem b_fits_outline (cdv : Value) (A : Around) (outer : List Env) (s : Shared) (H : Hp) (E : XK) (fad : Addr) (hr2 : Room (k + 2) (CxD P w K mg base ["value", "sides", "at", "one", "other", "third", "fourth", "spot"] "fits_outline" (top 19) fad cdv A outer s H E).A) :
    PSs (CxD P w K mg base ["value", "sides", "at", "one", "other", "third", "fourth", "spot"] "fits_outline" (top 19) fad cdv A outer s H E) (defBody (top 19)) (tS (G.mk K fa ca TT) Fx.none (fun cls d _ H => E cls d H) cf Py.f_fits_outline) := by
  have hr : Room k (CxD P w K mg base ["value", "sides", "at", "one", "other", "third", "fourth", "spot"] "fits_outline" (top 19) fad cdv A outer s H E).A := hr2.mono (by omega)
  have hu := hr.units
  have nd : (["value", "sides", "at", "one", "other", "third", "fourth", "spot"] : List Str).Nodup := by decide +kernel
  have tk : L2N.Takes (CxD P w K mg base ["value", "sides", "at", "one", "other", "third", "fourth", "spot"] "fits_outline" (top 19) fad cdv A outer s H E) (fun cls d _ H => E cls d H) := L2N.takes_of rfl rfl rfl rfl
  have hp := passes_of (X := (CxD P w K mg base ["value", "sides", "at", "one", "other", "third", "fourth", "spot"] "fits_outline" (top 19) fad cdv A outer s H E)) rfl
  unfold Py.f_fits_outline
  exact (ss_cons (ss_if (st_bool (sw_or (st_not (st_val (g := (G.mk K fa ca TT)) (so_def (g := (G.mk K fa ca TT)) T.d_is_tuple_of hr rfl T.m_is_tuple_of tk (sa_cons (so_var (i := 0) rfl (by first | exact Or.inl rfl | exact Or.inr (Or.inl rfl) | exact Or.inr (Or.inr rfl))) (sa_cons so_int (sa_cons (so_gint rfl T.c_CORNERS) sa_nil)))))) (sw_or1 (st_not (st_val (g := (G.mk K fa ca TT)) (so_call1 (g := (G.mk K fa ca TT)) (sc_all rfl) rfl T.z_all rfl (so_ofN (sn_comp rfl nd (own := [("spot", 7)]) rfl (si_val (g := (G.mk K fa ca TT)) (so_var (i := 0) rfl (by first | exact Or.inl rfl | exact Or.inr (Or.inl rfl) | exact Or.inr (Or.inr rfl)))) (blkOk_by (by kernel_rfl)) (fun _ _ _ _ _ => (sg_name (i := 7) (by decide) nd rfl (by first | exact Or.inl rfl | exact Or.inr rfl))) (fun _ _ _ _ _ => ts_nil) (fun _ _ _ _ _ => (so_def (g := (G.mk K fa ca TT)) T.d_fits_spot hr rfl T.m_fits_spot Sd.takes0 (sa_cons (so_var (i := 7) rfl (by first | exact Or.inl rfl | exact Or.inr (Or.inl rfl) | exact Or.inr (Or.inr rfl))) sa_nil))))))))))) (ss_one (ss_ret so_bl)) ss_nil) (ss_cons (ss_if (st_cmp (g := (G.mk K fa ca TT)) (so_ne hu) (so_lenSet (g := (G.mk K fa ca TT)) rfl hu rfl T.z_len rfl T.z_set (so_var (i := 0) rfl (by first | exact Or.inl rfl | exact Or.inr (Or.inl rfl) | exact Or.inr (Or.inr rfl)))) (so_call1 (g := (G.mk K fa ca TT)) (sc_len) rfl T.z_len rfl (so_var (i := 0) rfl (by first | exact Or.inl rfl | exact Or.inr (Or.inl rfl) | exact Or.inr (Or.inr rfl)))) (nomark _)) (ss_one (ss_ret so_bl)) ss_nil) (ss_cons (ss_asg (i := 1) nd rfl (by first | exact Or.inl rfl | exact Or.inr rfl) (so_def (g := (G.mk K fa ca TT)) T.d_sides_of hr rfl T.m_sides_of tk (sa_cons (so_var (i := 0) rfl (by first | exact Or.inl rfl | exact Or.inr (Or.inl rfl) | exact Or.inr (Or.inr rfl))) sa_nil))) (ss_cons (ss_for (ws := [2, 3, 4]) hp rfl (si_enum (g := (G.mk K fa ca TT)) rfl T.z_enumerate (so_var (i := 1) rfl (by first | exact Or.inl rfl | exact Or.inr (Or.inl rfl) | exact Or.inr (Or.inr rfl)))) (sg_tup (g := (G.mk K fa ca TT)) rfl (sg_cons (sg_name (i := 2) (by decide) nd rfl (by first | exact Or.inl rfl | exact Or.inr rfl)) (sg_cons (sg_tup (g := (G.mk K fa ca TT)) rfl (sg_cons (sg_name (i := 3) (by decide) nd rfl (by first | exact Or.inl rfl | exact Or.inr rfl)) (sg_cons (sg_name (i := 4) (by decide) nd rfl (by first | exact Or.inl rfl | exact Or.inr rfl)) sg_nil)) (gCons_len (gCons_len gNil_len))) sg_nil)) (gCons_len (gCons_len gNil_len))) (ss_cons (ss_if (st_val (g := (G.mk K fa ca TT)) (so_def (g := (G.mk K fa ca TT)) T.d_do_fold hr rfl T.m_do_fold tk (sa_cons (so_item (g := (G.mk K fa ca TT)) (fun _ _ => rfl) (so_item (g := (G.mk K fa ca TT)) (fun _ _ => rfl) (so_var (i := 1) rfl (by first | exact Or.inl rfl | exact Or.inr (Or.inl rfl) | exact Or.inr (Or.inr rfl))) (so_op (g := (G.mk K fa ca TT)) so_sub (so_var (i := 2) rfl (by first | exact Or.inl rfl | exact Or.inr (Or.inl rfl) | exact Or.inr (Or.inr rfl))) so_int)) so_int) (sa_cons (so_var (i := 3) rfl (by first | exact Or.inl rfl | exact Or.inr (Or.inl rfl) | exact Or.inr (Or.inr rfl))) (sa_cons (so_var (i := 4) rfl (by first | exact Or.inl rfl | exact Or.inr (Or.inl rfl) | exact Or.inr (Or.inr rfl))) sa_nil))))) (ss_one (ss_ret so_bl)) ss_nil) (ss_one (ss_for (ws := [5, 6]) hp rfl (si_val (g := (G.mk K fa ca TT)) (so_ofN (sn_cut (g := (G.mk K fa ca TT)) (so_var (i := 1) rfl (by first | exact Or.inl rfl | exact Or.inr (Or.inl rfl) | exact Or.inr (Or.inr rfl))) (sp_some (so_op (g := (G.mk K fa ca TT)) so_add (so_var (i := 2) rfl (by first | exact Or.inl rfl | exact Or.inr (Or.inl rfl) | exact Or.inr (Or.inr rfl))) so_int)) (sp_some (so_op (g := (G.mk K fa ca TT)) so_sub (so_call1 (g := (G.mk K fa ca TT)) (sc_len) rfl T.z_len rfl (so_var (i := 1) rfl (by first | exact Or.inl rfl | exact Or.inr (Or.inl rfl) | exact Or.inr (Or.inr rfl)))) (so_ife (st_cmp (g := (G.mk K fa ca TT)) (so_eq hu) (so_var (i := 2) rfl (by first | exact Or.inl rfl | exact Or.inr (Or.inl rfl) | exact Or.inr (Or.inr rfl))) so_int (nomark _)) so_int so_int)))))) (sg_tup (g := (G.mk K fa ca TT)) rfl (sg_cons (sg_name (i := 5) (by decide) nd rfl (by first | exact Or.inl rfl | exact Or.inr rfl)) (sg_cons (sg_name (i := 6) (by decide) nd rfl (by first | exact Or.inl rfl | exact Or.inr rfl)) sg_nil)) (gCons_len (gCons_len gNil_len))) (ss_one (ss_if (st_val (g := (G.mk K fa ca TT)) (so_def (g := (G.mk K fa ca TT)) T.d_do_cross hr rfl T.m_do_cross tk (sa_cons (so_var (i := 3) rfl (by first | exact Or.inl rfl | exact Or.inr (Or.inl rfl) | exact Or.inr (Or.inr rfl))) (sa_cons (so_var (i := 4) rfl (by first | exact Or.inl rfl | exact Or.inr (Or.inl rfl) | exact Or.inr (Or.inr rfl))) (sa_cons (so_var (i := 5) rfl (by first | exact Or.inl rfl | exact Or.inr (Or.inl rfl) | exact Or.inr (Or.inr rfl))) (sa_cons (so_var (i := 6) rfl (by first | exact Or.inl rfl | exact Or.inr (Or.inl rfl) | exact Or.inr (Or.inr rfl))) sa_nil)))))) (ss_one (ss_ret so_bl)) ss_nil)))))) (ss_one (ss_ret so_bl))))))
theorem b_need_outline (cdv : Value) (A : Around) (outer : List Env) (s : Shared) (H : Hp) (E : XK) (fad : Addr) (hr2 : Room (k + 2) (CxD P w K mg base ["value"] "need_outline" (top 20) fad cdv A outer s H E).A) :
    PSs (CxD P w K mg base ["value"] "need_outline" (top 20) fad cdv A outer s H E) (defBody (top 20)) (tS (G.mk K fa ca TT) Fx.none (fun cls d _ H => E cls d H) cf Py.f_need_outline) := by
  have hr : Room k (CxD P w K mg base ["value"] "need_outline" (top 20) fad cdv A outer s H E).A := hr2.mono (by omega)
  have hu := hr.units
  have nd : (["value"] : List Str).Nodup := by decide +kernel
  have tk : L2N.Takes (CxD P w K mg base ["value"] "need_outline" (top 20) fad cdv A outer s H E) (fun cls d _ H => E cls d H) := L2N.takes_of rfl rfl rfl rfl
  have hp := passes_of (X := (CxD P w K mg base ["value"] "need_outline" (top 20) fad cdv A outer s H E)) rfl
  unfold Py.f_need_outline
  exact (ss_one (ss_if (st_not (st_val (g := (G.mk K fa ca TT)) (so_def (g := (G.mk K fa ca TT)) T.d_fits_outline hr rfl T.m_fits_outline tk (sa_cons (so_var (i := 0) rfl (by first | exact Or.inl rfl | exact Or.inr (Or.inl rfl) | exact Or.inr (Or.inr rfl))) sa_nil)))) (ss_one (ss_raise (g := (G.mk K fa ca TT)) (cn := 2) rfl tk T.x_InvalidRound.1 T.n_InvalidRound T.x_InvalidRound.2.1 T.x_InvalidRound.2.2.1 T.x_InvalidRound.2.2.2 rfl)) ss_nil))
theorem b_need_spot (cdv : Value) (A : Around) (outer : List Env) (s : Shared) (H : Hp) (E : XK) (fad : Addr) (hr2 : Room (k + 2) (CxD P w K mg base ["value"] "need_spot" (top 21) fad cdv A outer s H E).A) :
    PSs (CxD P w K mg base ["value"] "need_spot" (top 21) fad cdv A outer s H E) (defBody (top 21)) (tS (G.mk K fa ca TT) Fx.none (fun cls d _ H => E cls d H) cf Py.f_need_spot) := by
  have hr : Room k (CxD P w K mg base ["value"] "need_spot" (top 21) fad cdv A outer s H E).A := hr2.mono (by omega)
  have hu := hr.units
  have nd : (["value"] : List Str).Nodup := by decide +kernel
  have tk : L2N.Takes (CxD P w K mg base ["value"] "need_spot" (top 21) fad cdv A outer s H E) (fun cls d _ H => E cls d H) := L2N.takes_of rfl rfl rfl rfl
  have hp := passes_of (X := (CxD P w K mg base ["value"] "need_spot" (top 21) fad cdv A outer s H E)) rfl
  unfold Py.f_need_spot
  exact (ss_one (ss_if (st_not (st_val (g := (G.mk K fa ca TT)) (so_def (g := (G.mk K fa ca TT)) T.d_fits_spot hr rfl T.m_fits_spot tk (sa_cons (so_var (i := 0) rfl (by first | exact Or.inl rfl | exact Or.inr (Or.inl rfl) | exact Or.inr (Or.inr rfl))) sa_nil)))) (ss_one (ss_raise (g := (G.mk K fa ca TT)) (cn := 1) rfl tk T.x_InvalidSpot.1 T.n_InvalidSpot T.x_InvalidSpot.2.1 T.x_InvalidSpot.2.2.1 T.x_InvalidSpot.2.2.2 rfl)) ss_nil))
theorem b_area_in (cdv : Value) (A : Around) (outer : List Env) (s : Shared) (H : Hp) (E : XK) (fad : Addr) (hr2 : Room (k + 2) (CxD P w K mg base ["outline", "one", "other"] "area_in" (top 22) fad cdv A outer s H E).A) :
    PSs (CxD P w K mg base ["outline", "one", "other"] "area_in" (top 22) fad cdv A outer s H E) (defBody (top 22)) (tS (G.mk K fa ca TT) Fx.none (fun cls d _ H => E cls d H) cf Py.f_area_in) := by
  have hr : Room k (CxD P w K mg base ["outline", "one", "other"] "area_in" (top 22) fad cdv A outer s H E).A := hr2.mono (by omega)
  have hu := hr.units
  have nd : (["outline", "one", "other"] : List Str).Nodup := by decide +kernel
  have tk : L2N.Takes (CxD P w K mg base ["outline", "one", "other"] "area_in" (top 22) fad cdv A outer s H E) (fun cls d _ H => E cls d H) := L2N.takes_of rfl rfl rfl rfl
  have hp := passes_of (X := (CxD P w K mg base ["outline", "one", "other"] "area_in" (top 22) fad cdv A outer s H E)) rfl
  unfold Py.f_area_in
  exact (ss_one (ss_ret (so_call1 (g := (G.mk K fa ca TT)) (sc_sum rfl) rfl T.z_sum rfl (so_ofN (sn_comp rfl nd (own := [("one", 1), ("other", 2)]) rfl (si_val (g := (G.mk K fa ca TT)) (so_def (g := (G.mk K fa ca TT)) T.d_sides_of hr rfl T.m_sides_of tk (sa_cons (so_var (i := 0) rfl (by first | exact Or.inl rfl | exact Or.inr (Or.inl rfl) | exact Or.inr (Or.inr rfl))) sa_nil))) (blkOk_by (by kernel_rfl)) (fun _ _ _ _ _ => (sg_tup (g := (G.mk K fa ca TT)) rfl (sg_cons (sg_name (i := 1) (by decide) nd rfl (by first | exact Or.inl rfl | exact Or.inr rfl)) (sg_cons (sg_name (i := 2) (by decide) nd rfl (by first | exact Or.inl rfl | exact Or.inr rfl)) sg_nil)) (gCons_len (gCons_len gNil_len)))) (fun _ _ _ _ _ => ts_nil) (fun _ _ _ _ _ => (so_op (g := (G.mk K fa ca TT)) so_sub (so_op (g := (G.mk K fa ca TT)) so_mul (so_item (g := (G.mk K fa ca TT)) (fun _ _ => rfl) (so_var (i := 1) rfl (by first | exact Or.inl rfl | exact Or.inr (Or.inl rfl) | exact Or.inr (Or.inr rfl))) so_int) (so_item (g := (G.mk K fa ca TT)) (fun _ _ => rfl) (so_var (i := 2) rfl (by first | exact Or.inl rfl | exact Or.inr (Or.inl rfl) | exact Or.inr (Or.inr rfl))) so_int)) (so_op (g := (G.mk K fa ca TT)) so_mul (so_item (g := (G.mk K fa ca TT)) (fun _ _ => rfl) (so_var (i := 1) rfl (by first | exact Or.inl rfl | exact Or.inr (Or.inl rfl) | exact Or.inr (Or.inr rfl))) so_int) (so_item (g := (G.mk K fa ca TT)) (fun _ _ => rfl) (so_var (i := 2) rfl (by first | exact Or.inl rfl | exact Or.inr (Or.inl rfl) | exact Or.inr (Or.inr rfl))) so_int)))))))))
theorem b_turns_in (cdv : Value) (A : Around) (outer : List Env) (s : Shared) (H : Hp) (E : XK) (fad : Addr) (hr2 : Room (k + 2) (CxD P w K mg base ["outline", "found", "at", "spot", "turn"] "turns_in" (top 23) fad cdv A outer s H E).A) :
    PSs (CxD P w K mg base ["outline", "found", "at", "spot", "turn"] "turns_in" (top 23) fad cdv A outer s H E) (defBody (top 23)) (tS (G.mk K fa ca TT) Fx.none (fun cls d _ H => E cls d H) cf Py.f_turns_in) := by
  have hr : Room k (CxD P w K mg base ["outline", "found", "at", "spot", "turn"] "turns_in" (top 23) fad cdv A outer s H E).A := hr2.mono (by omega)
  have hu := hr.units
  have nd : (["outline", "found", "at", "spot", "turn"] : List Str).Nodup := by decide +kernel
  have tk : L2N.Takes (CxD P w K mg base ["outline", "found", "at", "spot", "turn"] "turns_in" (top 23) fad cdv A outer s H E) (fun cls d _ H => E cls d H) := L2N.takes_of rfl rfl rfl rfl
  have hp := passes_of (X := (CxD P w K mg base ["outline", "found", "at", "spot", "turn"] "turns_in" (top 23) fad cdv A outer s H E)) rfl
  unfold Py.f_turns_in
  exact (ss_cons (ss_new (i := 1) nd rfl (by first | exact Or.inl rfl | exact Or.inr rfl) (so_f (sn_lst (g := (G.mk K fa ca TT)) sa_nil))) (ss_cons (ss_for (ws := [2, 3]) hp rfl (si_enum (g := (G.mk K fa ca TT)) rfl T.z_enumerate (so_var (i := 0) rfl (by first | exact Or.inl rfl | exact Or.inr (Or.inl rfl) | exact Or.inr (Or.inr rfl)))) (sg_tup (g := (G.mk K fa ca TT)) rfl (sg_cons (sg_name (i := 2) (by decide) nd rfl (by first | exact Or.inl rfl | exact Or.inr rfl)) (sg_cons (sg_name (i := 3) (by decide) nd rfl (by first | exact Or.inl rfl | exact Or.inr rfl)) sg_nil)) (gCons_len (gCons_len gNil_len))) (ss_cons (ss_asg (i := 4) nd rfl (by first | exact Or.inl rfl | exact Or.inr rfl) (so_def (g := (G.mk K fa ca TT)) T.d_turn_of hr rfl T.m_turn_of tk (sa_cons (so_item (g := (G.mk K fa ca TT)) (fun _ _ => rfl) (so_var (i := 0) rfl (by first | exact Or.inl rfl | exact Or.inr (Or.inl rfl) | exact Or.inr (Or.inr rfl))) (so_op (g := (G.mk K fa ca TT)) so_sub (so_var (i := 2) rfl (by first | exact Or.inl rfl | exact Or.inr (Or.inl rfl) | exact Or.inr (Or.inr rfl))) so_int)) (sa_cons (so_var (i := 3) rfl (by first | exact Or.inl rfl | exact Or.inr (Or.inl rfl) | exact Or.inr (Or.inr rfl))) (sa_cons (so_item (g := (G.mk K fa ca TT)) (fun _ _ => rfl) (so_var (i := 0) rfl (by first | exact Or.inl rfl | exact Or.inr (Or.inl rfl) | exact Or.inr (Or.inr rfl))) (so_op (g := (G.mk K fa ca TT)) so_mod (so_op (g := (G.mk K fa ca TT)) so_add (so_var (i := 2) rfl (by first | exact Or.inl rfl | exact Or.inr (Or.inl rfl) | exact Or.inr (Or.inr rfl))) so_int) (so_call1 (g := (G.mk K fa ca TT)) (sc_len) rfl T.z_len rfl (so_var (i := 0) rfl (by first | exact Or.inl rfl | exact Or.inr (Or.inl rfl) | exact Or.inr (Or.inr rfl)))))) sa_nil))))) (ss_one (ss_expr (so_upL1 (g := (G.mk K fa ca TT)) (i := 1) PySem.F.plainAttrs_list PySem.F.slot_list_append PySem.F.type_list_append ml_append rfl (by first | exact Or.inl rfl | exact Or.inr (Or.inl rfl) | exact Or.inr (Or.inr rfl)) (so_ife (st_cmp (g := (G.mk K fa ca TT)) (so_gt hu) (so_var (i := 4) rfl (by first | exact Or.inl rfl | exact Or.inr (Or.inl rfl) | exact Or.inr (Or.inr rfl))) so_int (nomark _)) so_int (so_ife (st_cmp (g := (G.mk K fa ca TT)) (so_lt hu) (so_var (i := 4) rfl (by first | exact Or.inl rfl | exact Or.inr (Or.inl rfl) | exact Or.inr (Or.inr rfl))) so_int (nomark _)) (so_un (g := (G.mk K fa ca TT)) so_neg so_int) so_int))))))) (ss_one (ss_ret (so_var (i := 1) rfl (by first | exact Or.inl rfl | exact Or.inr (Or.inl rfl) | exact Or.inr (Or.inr rfl)))))))
theorem b_place_in (cdv : Value) (A : Around) (outer : List Env) (s : Shared) (H : Hp) (E : XK) (fad : Addr) (hr2 : Room (k + 2) (CxD P w K mg base ["outline", "spot", "inside", "one", "other", "turn"] "place_in" (top 24) fad cdv A outer s H E).A) :
    PSs (CxD P w K mg base ["outline", "spot", "inside", "one", "other", "turn"] "place_in" (top 24) fad cdv A outer s H E) (defBody (top 24)) (tS (G.mk K fa ca TT) Fx.none (fun cls d _ H => E cls d H) cf Py.f_place_in) := by
  have hr : Room k (CxD P w K mg base ["outline", "spot", "inside", "one", "other", "turn"] "place_in" (top 24) fad cdv A outer s H E).A := hr2.mono (by omega)
  have hu := hr.units
  have nd : (["outline", "spot", "inside", "one", "other", "turn"] : List Str).Nodup := by decide +kernel
  have tk : L2N.Takes (CxD P w K mg base ["outline", "spot", "inside", "one", "other", "turn"] "place_in" (top 24) fad cdv A outer s H E) (fun cls d _ H => E cls d H) := L2N.takes_of rfl rfl rfl rfl
  have hp := passes_of (X := (CxD P w K mg base ["outline", "spot", "inside", "one", "other", "turn"] "place_in" (top 24) fad cdv A outer s H E)) rfl
  unfold Py.f_place_in
  exact (ss_cons (ss_if (st_val (g := (G.mk K fa ca TT)) (so_call1 (g := (G.mk K fa ca TT)) (sc_any rfl) rfl T.z_any rfl (so_ofN (sn_comp rfl nd (own := [("one", 3), ("other", 4)]) rfl (si_val (g := (G.mk K fa ca TT)) (so_def (g := (G.mk K fa ca TT)) T.d_sides_of hr rfl T.m_sides_of tk (sa_cons (so_var (i := 0) rfl (by first | exact Or.inl rfl | exact Or.inr (Or.inl rfl) | exact Or.inr (Or.inr rfl))) sa_nil))) (blkOk_by (by kernel_rfl)) (fun _ _ _ _ _ => (sg_tup (g := (G.mk K fa ca TT)) rfl (sg_cons (sg_name (i := 3) (by decide) nd rfl (by first | exact Or.inl rfl | exact Or.inr rfl)) (sg_cons (sg_name (i := 4) (by decide) nd rfl (by first | exact Or.inl rfl | exact Or.inr rfl)) sg_nil)) (gCons_len (gCons_len gNil_len)))) (fun _ _ _ _ _ => ts_nil) (fun _ _ _ _ _ => (so_def (g := (G.mk K fa ca TT)) T.d_lies_between hr rfl T.m_lies_between Sd.takes0 (sa_cons (so_var (i := 3) rfl (by first | exact Or.inl rfl | exact Or.inr (Or.inl rfl) | exact Or.inr (Or.inr rfl))) (sa_cons (so_var (i := 4) rfl (by first | exact Or.inl rfl | exact Or.inr (Or.inl rfl) | exact Or.inr (Or.inr rfl))) (sa_cons (so_var (i := 1) rfl (by first | exact Or.inl rfl | exact Or.inr (Or.inl rfl) | exact Or.inr (Or.inr rfl))) sa_nil))))))))) (ss_one (ss_ret (so_str (by first | rfl | decide)))) ss_nil) (ss_cons (ss_asg (i := 2) nd rfl (by first | exact Or.inl rfl | exact Or.inr rfl) so_bl) (ss_cons (ss_for (ws := [3, 4]) hp rfl (si_val (g := (G.mk K fa ca TT)) (so_def (g := (G.mk K fa ca TT)) T.d_sides_of hr rfl T.m_sides_of tk (sa_cons (so_var (i := 0) rfl (by first | exact Or.inl rfl | exact Or.inr (Or.inl rfl) | exact Or.inr (Or.inr rfl))) sa_nil))) (sg_tup (g := (G.mk K fa ca TT)) rfl (sg_cons (sg_name (i := 3) (by decide) nd rfl (by first | exact Or.inl rfl | exact Or.inr rfl)) (sg_cons (sg_name (i := 4) (by decide) nd rfl (by first | exact Or.inl rfl | exact Or.inr rfl)) sg_nil)) (gCons_len (gCons_len gNil_len))) (ss_one (ss_if (st_cmp (g := (G.mk K fa ca TT)) (so_ne hu) (so_cmp (g := (G.mk K fa ca TT)) (so_gt hu) (so_item (g := (G.mk K fa ca TT)) (fun _ _ => rfl) (so_var (i := 3) rfl (by first | exact Or.inl rfl | exact Or.inr (Or.inl rfl) | exact Or.inr (Or.inr rfl))) so_int) (so_item (g := (G.mk K fa ca TT)) (fun _ _ => rfl) (so_var (i := 1) rfl (by first | exact Or.inl rfl | exact Or.inr (Or.inl rfl) | exact Or.inr (Or.inr rfl))) so_int) (nomark _)) (so_cmp (g := (G.mk K fa ca TT)) (so_gt hu) (so_item (g := (G.mk K fa ca TT)) (fun _ _ => rfl) (so_var (i := 4) rfl (by first | exact Or.inl rfl | exact Or.inr (Or.inl rfl) | exact Or.inr (Or.inr rfl))) so_int) (so_item (g := (G.mk K fa ca TT)) (fun _ _ => rfl) (so_var (i := 1) rfl (by first | exact Or.inl rfl | exact Or.inr (Or.inl rfl) | exact Or.inr (Or.inr rfl))) so_int) (nomark _)) (nomark _)) (ss_cons (ss_asg (i := 5) nd rfl (by first | exact Or.inl rfl | exact Or.inr rfl) (so_def (g := (G.mk K fa ca TT)) T.d_turn_of hr rfl T.m_turn_of tk (sa_cons (so_var (i := 3) rfl (by first | exact Or.inl rfl | exact Or.inr (Or.inl rfl) | exact Or.inr (Or.inr rfl))) (sa_cons (so_var (i := 4) rfl (by first | exact Or.inl rfl | exact Or.inr (Or.inl rfl) | exact Or.inr (Or.inr rfl))) (sa_cons (so_var (i := 1) rfl (by first | exact Or.inl rfl | exact Or.inr (Or.inl rfl) | exact Or.inr (Or.inr rfl))) sa_nil))))) (ss_one (ss_if (st_cmp (g := (G.mk K fa ca TT)) (so_eq hu) (so_cmp (g := (G.mk K fa ca TT)) (so_gt hu) (so_var (i := 5) rfl (by first | exact Or.inl rfl | exact Or.inr (Or.inl rfl) | exact Or.inr (Or.inr rfl))) so_int (nomark _)) (so_cmp (g := (G.mk K fa ca TT)) (so_gt hu) (so_item (g := (G.mk K fa ca TT)) (fun _ _ => rfl) (so_var (i := 4) rfl (by first | exact Or.inl rfl | exact Or.inr (Or.inl rfl) | exact Or.inr (Or.inr rfl))) so_int) (so_item (g := (G.mk K fa ca TT)) (fun _ _ => rfl) (so_var (i := 3) rfl (by first | exact Or.inl rfl | exact Or.inr (Or.inl rfl) | exact Or.inr (Or.inr rfl))) so_int) (nomark _)) (nomark _)) (ss_one (ss_asg (i := 2) nd rfl (by first | exact Or.inl rfl | exact Or.inr rfl) (so_not (g := (G.mk K fa ca TT)) (so_var (i := 2) rfl (by first | exact Or.inl rfl | exact Or.inr (Or.inl rfl) | exact Or.inr (Or.inr rfl)))))) ss_nil))) ss_nil))) (ss_one (ss_ret (so_ife (st_val (g := (G.mk K fa ca TT)) (so_var (i := 2) rfl (by first | exact Or.inl rfl | exact Or.inr (Or.inl rfl) | exact Or.inr (Or.inr rfl)))) (so_str (by first | rfl | decide)) (so_str (by first | rfl | decide))))))))
theorem b_halves_in (cdv : Value) (A : Around) (outer : List Env) (s : Shared) (H : Hp) (E : XK) (fad : Addr) (hr2 : Room (k + 2) (CxD P w K mg base ["one", "other", "spots", "side", "step", "rows", "found", "low", "high", "part", "whole", "spot", "way"] "halves_in" (top 25) fad cdv A outer s H E).A) :
    PSs (CxD P w K mg base ["one", "other", "spots", "side", "step", "rows", "found", "low", "high", "part", "whole", "spot", "way"] "halves_in" (top 25) fad cdv A outer s H E) (defBody (top 25)) (tS (G.mk K fa ca TT) Fx.none (fun cls d _ H => E cls d H) cf Py.f_halves_in) := by
  have hr : Room k (CxD P w K mg base ["one", "other", "spots", "side", "step", "rows", "found", "low", "high", "part", "whole", "spot", "way"] "halves_in" (top 25) fad cdv A outer s H E).A := hr2.mono (by omega)
  have hu := hr.units
  have nd : (["one", "other", "spots", "side", "step", "rows", "found", "low", "high", "part", "whole", "spot", "way"] : List Str).Nodup := by decide +kernel
  have tk : L2N.Takes (CxD P w K mg base ["one", "other", "spots", "side", "step", "rows", "found", "low", "high", "part", "whole", "spot", "way"] "halves_in" (top 25) fad cdv A outer s H E) (fun cls d _ H => E cls d H) := L2N.takes_of rfl rfl rfl rfl
  have hp := passes_of (X := (CxD P w K mg base ["one", "other", "spots", "side", "step", "rows", "found", "low", "high", "part", "whole", "spot", "way"] "halves_in" (top 25) fad cdv A outer s H E)) rfl
  unfold Py.f_halves_in
  exact (ss_cons (ss_asg (i := 3) nd rfl (by first | exact Or.inl rfl | exact Or.inr rfl) (so_ife (st_cmp (g := (G.mk K fa ca TT)) (so_ne hu) (so_item (g := (G.mk K fa ca TT)) (fun _ _ => rfl) (so_var (i := 0) rfl (by first | exact Or.inl rfl | exact Or.inr (Or.inl rfl) | exact Or.inr (Or.inr rfl))) so_int) (so_item (g := (G.mk K fa ca TT)) (fun _ _ => rfl) (so_var (i := 1) rfl (by first | exact Or.inl rfl | exact Or.inr (Or.inl rfl) | exact Or.inr (Or.inr rfl))) so_int) (nomark _)) so_int so_int)) (ss_cons (ss_asg (i := 4) nd rfl (by first | exact Or.inl rfl | exact Or.inr rfl) (so_op (g := (G.mk K fa ca TT)) so_sub (so_item (g := (G.mk K fa ca TT)) (fun _ _ => rfl) (so_var (i := 1) rfl (by first | exact Or.inl rfl | exact Or.inr (Or.inl rfl) | exact Or.inr (Or.inr rfl))) (so_var (i := 3) rfl (by first | exact Or.inl rfl | exact Or.inr (Or.inl rfl) | exact Or.inr (Or.inr rfl)))) (so_item (g := (G.mk K fa ca TT)) (fun _ _ => rfl) (so_var (i := 0) rfl (by first | exact Or.inl rfl | exact Or.inr (Or.inl rfl) | exact Or.inr (Or.inr rfl))) (so_var (i := 3) rfl (by first | exact Or.inl rfl | exact Or.inr (Or.inl rfl) | exact Or.inr (Or.inr rfl)))))) (ss_cons (ss_asg (i := 5) nd rfl (by first | exact Or.inl rfl | exact Or.inr rfl) (so_ofN (sn_call1 (g := (G.mk K fa ca TT)) (sc_sorted) rfl T.z_sorted rfl (so_op (g := (G.mk K fa ca TT)) so_add (so_ofN (sn_comp rfl nd (own := [("spot", 11)]) rfl (si_val (g := (G.mk K fa ca TT)) (so_var (i := 2) rfl (by first | exact Or.inl rfl | exact Or.inr (Or.inl rfl) | exact Or.inr (Or.inr rfl)))) (blkOk_by (by kernel_rfl)) (fun _ _ _ _ _ => (sg_name (i := 11) (by decide) nd rfl (by first | exact Or.inl rfl | exact Or.inr rfl))) (fun _ _ _ _ _ => ts_nil) (fun _ _ _ _ _ => (so_call1 (g := (G.mk K fa ca TT)) (sc_abs) rfl T.z_abs rfl (so_op (g := (G.mk K fa ca TT)) so_sub (so_item (g := (G.mk K fa ca TT)) (fun _ _ => rfl) (so_var (i := 11) rfl (by first | exact Or.inl rfl | exact Or.inr (Or.inl rfl) | exact Or.inr (Or.inr rfl))) (so_var (i := 3) rfl (by first | exact Or.inl rfl | exact Or.inr (Or.inl rfl) | exact Or.inr (Or.inr rfl)))) (so_item (g := (G.mk K fa ca TT)) (fun _ _ => rfl) (so_var (i := 0) rfl (by first | exact Or.inl rfl | exact Or.inr (Or.inl rfl) | exact Or.inr (Or.inr rfl))) (so_var (i := 3) rfl (by first | exact Or.inl rfl | exact Or.inr (Or.inl rfl) | exact Or.inr (Or.inr rfl))))))))) (so_ofN (sn_lst (g := (G.mk K fa ca TT)) (sa_cons so_int (sa_cons (so_call1 (g := (G.mk K fa ca TT)) (sc_abs) rfl T.z_abs rfl (so_var (i := 4) rfl (by first | exact Or.inl rfl | exact Or.inr (Or.inl rfl) | exact Or.inr (Or.inr rfl)))) sa_nil)))))))) (ss_cons (ss_new (i := 6) nd rfl (by first | exact Or.inl rfl | exact Or.inr rfl) (so_f (sn_lst (g := (G.mk K fa ca TT)) sa_nil))) (ss_cons (ss_for (ws := [7, 8]) hp rfl (si_zip (g := (G.mk K fa ca TT)) rfl T.z_zip (so_var (i := 5) rfl (by first | exact Or.inl rfl | exact Or.inr (Or.inl rfl) | exact Or.inr (Or.inr rfl))) (so_ofN (sn_cut (g := (G.mk K fa ca TT)) (so_var (i := 5) rfl (by first | exact Or.inl rfl | exact Or.inr (Or.inl rfl) | exact Or.inr (Or.inr rfl))) (sp_some so_int) sp_none))) (sg_tup (g := (G.mk K fa ca TT)) rfl (sg_cons (sg_name (i := 7) (by decide) nd rfl (by first | exact Or.inl rfl | exact Or.inr rfl)) (sg_cons (sg_name (i := 8) (by decide) nd rfl (by first | exact Or.inl rfl | exact Or.inr rfl)) sg_nil)) (gCons_len (gCons_len gNil_len))) (ss_one (ss_if (st_cmp (g := (G.mk K fa ca TT)) (so_lt hu) (so_var (i := 7) rfl (by first | exact Or.inl rfl | exact Or.inr (Or.inl rfl) | exact Or.inr (Or.inr rfl))) (so_var (i := 8) rfl (by first | exact Or.inl rfl | exact Or.inr (Or.inl rfl) | exact Or.inr (Or.inr rfl))) (nomark _)) (ss_cons (by first | exact ss_par2 rfl nd rfl rfl (by decide) rfl rfl rfl rfl (sa_cons (so_op (g := (G.mk K fa ca TT)) so_add (so_var (i := 7) rfl (by first | exact Or.inl rfl | exact Or.inr (Or.inl rfl) | exact Or.inr (Or.inr rfl))) (so_var (i := 8) rfl (by first | exact Or.inl rfl | exact Or.inr (Or.inl rfl) | exact Or.inr (Or.inr rfl)))) (sa_cons (so_op (g := (G.mk K fa ca TT)) so_mul so_int (so_call1 (g := (G.mk K fa ca TT)) (sc_abs) rfl T.z_abs rfl (so_var (i := 4) rfl (by first | exact Or.inl rfl | exact Or.inr (Or.inl rfl) | exact Or.inr (Or.inr rfl))))) sa_nil)) | exact ss_parN rfl (sn_cons nd rfl (by first | exact Or.inl rfl | exact Or.inr rfl) (sn_cons nd rfl (by first | exact Or.inl rfl | exact Or.inr rfl) sn_nil)) rfl rfl rfl rfl rfl (by show _ ≤ sizeLine; decide) (sa_cons (so_op (g := (G.mk K fa ca TT)) so_add (so_var (i := 7) rfl (by first | exact Or.inl rfl | exact Or.inr (Or.inl rfl) | exact Or.inr (Or.inr rfl))) (so_var (i := 8) rfl (by first | exact Or.inl rfl | exact Or.inr (Or.inl rfl) | exact Or.inr (Or.inr rfl)))) (sa_cons (so_op (g := (G.mk K fa ca TT)) so_mul so_int (so_call1 (g := (G.mk K fa ca TT)) (sc_abs) rfl T.z_abs rfl (so_var (i := 4) rfl (by first | exact Or.inl rfl | exact Or.inr (Or.inl rfl) | exact Or.inr (Or.inr rfl))))) sa_nil))) (ss_one (ss_expr (so_upL1 (g := (G.mk K fa ca TT)) (i := 6) PySem.F.plainAttrs_list PySem.F.slot_list_append PySem.F.type_list_append ml_append rfl (by first | exact Or.inl rfl | exact Or.inr (Or.inl rfl) | exact Or.inr (Or.inr rfl)) (so_tup (g := (G.mk K fa ca TT)) (sa_cons (so_var (i := 10) rfl (by first | exact Or.inl rfl | exact Or.inr (Or.inl rfl) | exact Or.inr (Or.inr rfl))) (sa_cons (so_ofN (sn_comp rfl nd (own := [("way", 12)]) rfl (si_val (g := (G.mk K fa ca TT)) (so_tup (g := (G.mk K fa ca TT)) (sa_cons so_int (sa_cons so_int sa_nil)))) (blkOk_by (by kernel_rfl)) (fun _ _ _ _ _ => (sg_name (i := 12) (by decide) nd rfl (by first | exact Or.inl rfl | exact Or.inr rfl))) (fun _ _ _ _ _ => ts_nil) (fun _ _ _ _ _ => (so_op (g := (G.mk K fa ca TT)) so_add (so_op (g := (G.mk K fa ca TT)) so_mul (so_item (g := (G.mk K fa ca TT)) (fun _ _ => rfl) (so_var (i := 0) rfl (by first | exact Or.inl rfl | exact Or.inr (Or.inl rfl) | exact Or.inr (Or.inr rfl))) (so_var (i := 12) rfl (by first | exact Or.inl rfl | exact Or.inr (Or.inl rfl) | exact Or.inr (Or.inr rfl)))) (so_var (i := 10) rfl (by first | exact Or.inl rfl | exact Or.inr (Or.inl rfl) | exact Or.inr (Or.inr rfl)))) (so_op (g := (G.mk K fa ca TT)) so_mul (so_op (g := (G.mk K fa ca TT)) so_sub (so_item (g := (G.mk K fa ca TT)) (fun _ _ => rfl) (so_var (i := 1) rfl (by first | exact Or.inl rfl | exact Or.inr (Or.inl rfl) | exact Or.inr (Or.inr rfl))) (so_var (i := 12) rfl (by first | exact Or.inl rfl | exact Or.inr (Or.inl rfl) | exact Or.inr (Or.inr rfl)))) (so_item (g := (G.mk K fa ca TT)) (fun _ _ => rfl) (so_var (i := 0) rfl (by first | exact Or.inl rfl | exact Or.inr (Or.inl rfl) | exact Or.inr (Or.inr rfl))) (so_var (i := 12) rfl (by first | exact Or.inl rfl | exact Or.inr (Or.inl rfl) | exact Or.inr (Or.inr rfl))))) (so_var (i := 9) rfl (by first | exact Or.inl rfl | exact Or.inr (Or.inl rfl) | exact Or.inr (Or.inr rfl)))))))) sa_nil))))))) ss_nil))) (ss_one (ss_ret (so_var (i := 6) rfl (by first | exact Or.inl rfl | exact Or.inr (Or.inl rfl) | exact Or.inr (Or.inr rfl))))))))))
theorem b_do_see (cdv : Value) (A : Around) (outer : List Env) (s : Shared) (H : Hp) (E : XK) (fad : Addr) (hr2 : Room (k + 2) (CxD P w K mg base ["outline", "one", "other", "some", "third", "fourth", "first", "whole", "middle", "great", "spot"] "do_see" (top 26) fad cdv A outer s H E).A) :
    PSs (CxD P w K mg base ["outline", "one", "other", "some", "third", "fourth", "first", "whole", "middle", "great", "spot"] "do_see" (top 26) fad cdv A outer s H E) (defBody (top 26)) (tS (G.mk K fa ca TT) Fx.none (fun cls d _ H => E cls d H) cf Py.f_do_see) := by
  have hr : Room k (CxD P w K mg base ["outline", "one", "other", "some", "third", "fourth", "first", "whole", "middle", "great", "spot"] "do_see" (top 26) fad cdv A outer s H E).A := hr2.mono (by omega)
  have hu := hr.units
  have nd : (["outline", "one", "other", "some", "third", "fourth", "first", "whole", "middle", "great", "spot"] : List Str).Nodup := by decide +kernel
  have tk : L2N.Takes (CxD P w K mg base ["outline", "one", "other", "some", "third", "fourth", "first", "whole", "middle", "great", "spot"] "do_see" (top 26) fad cdv A outer s H E) (fun cls d _ H => E cls d H) := L2N.takes_of rfl rfl rfl rfl
  have hp := passes_of (X := (CxD P w K mg base ["outline", "one", "other", "some", "third", "fourth", "first", "whole", "middle", "great", "spot"] "do_see" (top 26) fad cdv A outer s H E)) rfl
  unfold Py.f_do_see
  exact (ss_cons (ss_for (ws := [4, 5]) hp rfl (si_val (g := (G.mk K fa ca TT)) (so_def (g := (G.mk K fa ca TT)) T.d_sides_of hr rfl T.m_sides_of tk (sa_cons (so_var (i := 0) rfl (by first | exact Or.inl rfl | exact Or.inr (Or.inl rfl) | exact Or.inr (Or.inr rfl))) sa_nil))) (sg_tup (g := (G.mk K fa ca TT)) rfl (sg_cons (sg_name (i := 4) (by decide) nd rfl (by first | exact Or.inl rfl | exact Or.inr rfl)) (sg_cons (sg_name (i := 5) (by decide) nd rfl (by first | exact Or.inl rfl | exact Or.inr rfl)) sg_nil)) (gCons_len (gCons_len gNil_len))) (ss_cons (ss_asg (i := 6) nd rfl (by first | exact Or.inl rfl | exact Or.inr rfl) (so_cmp (g := (G.mk K fa ca TT)) (so_lt hu) (so_op (g := (G.mk K fa ca TT)) so_mul (so_def (g := (G.mk K fa ca TT)) T.d_turn_of hr rfl T.m_turn_of tk (sa_cons (so_var (i := 1) rfl (by first | exact Or.inl rfl | exact Or.inr (Or.inl rfl) | exact Or.inr (Or.inr rfl))) (sa_cons (so_var (i := 2) rfl (by first | exact Or.inl rfl | exact Or.inr (Or.inl rfl) | exact Or.inr (Or.inr rfl))) (sa_cons (so_var (i := 4) rfl (by first | exact Or.inl rfl | exact Or.inr (Or.inl rfl) | exact Or.inr (Or.inr rfl))) sa_nil)))) (so_def (g := (G.mk K fa ca TT)) T.d_turn_of hr rfl T.m_turn_of tk (sa_cons (so_var (i := 1) rfl (by first | exact Or.inl rfl | exact Or.inr (Or.inl rfl) | exact Or.inr (Or.inr rfl))) (sa_cons (so_var (i := 2) rfl (by first | exact Or.inl rfl | exact Or.inr (Or.inl rfl) | exact Or.inr (Or.inr rfl))) (sa_cons (so_var (i := 5) rfl (by first | exact Or.inl rfl | exact Or.inr (Or.inl rfl) | exact Or.inr (Or.inr rfl))) sa_nil))))) so_int (nomark _))) (ss_one (ss_if (st_bool (sw_and (st_val (g := (G.mk K fa ca TT)) (so_var (i := 6) rfl (by first | exact Or.inl rfl | exact Or.inr (Or.inl rfl) | exact Or.inr (Or.inr rfl)))) (sw_and1 (st_cmp (g := (G.mk K fa ca TT)) (so_lt hu) (so_op (g := (G.mk K fa ca TT)) so_mul (so_def (g := (G.mk K fa ca TT)) T.d_turn_of hr rfl T.m_turn_of tk (sa_cons (so_var (i := 4) rfl (by first | exact Or.inl rfl | exact Or.inr (Or.inl rfl) | exact Or.inr (Or.inr rfl))) (sa_cons (so_var (i := 5) rfl (by first | exact Or.inl rfl | exact Or.inr (Or.inl rfl) | exact Or.inr (Or.inr rfl))) (sa_cons (so_var (i := 1) rfl (by first | exact Or.inl rfl | exact Or.inr (Or.inl rfl) | exact Or.inr (Or.inr rfl))) sa_nil)))) (so_def (g := (G.mk K fa ca TT)) T.d_turn_of hr rfl T.m_turn_of tk (sa_cons (so_var (i := 4) rfl (by first | exact Or.inl rfl | exact Or.inr (Or.inl rfl) | exact Or.inr (Or.inr rfl))) (sa_cons (so_var (i := 5) rfl (by first | exact Or.inl rfl | exact Or.inr (Or.inl rfl) | exact Or.inr (Or.inr rfl))) (sa_cons (so_var (i := 2) rfl (by first | exact Or.inl rfl | exact Or.inr (Or.inl rfl) | exact Or.inr (Or.inr rfl))) sa_nil))))) so_int (nomark _))))) (ss_one (ss_ret so_bl)) ss_nil)))) (ss_cons (by first | exact ss_setLc (k := 3) (own := [("spot", 10)]) rfl nd rfl rfl rfl (sw_true rfl rfl rfl (by decide +kernel)) (si_val (g := (G.mk K fa ca TT)) (so_var (i := 0) rfl (by first | exact Or.inl rfl | exact Or.inr (Or.inl rfl) | exact Or.inr (Or.inr rfl)))) (blkOk_by (by kernel_rfl)) (fun _ _ _ _ _ => (sg_name (i := 10) (by decide) nd rfl (by first | exact Or.inl rfl | exact Or.inr rfl))) (fun _ _ _ _ _ => (ts_one (st_val (g := (G.mk K fa ca TT)) (so_def (g := (G.mk K fa ca TT)) T.d_lies_between hr rfl T.m_lies_between Sd.takes0 (sa_cons (so_var (i := 1) rfl (by first | exact Or.inl rfl | exact Or.inr (Or.inl rfl) | exact Or.inr (Or.inr rfl))) (sa_cons (so_var (i := 2) rfl (by first | exact Or.inl rfl | exact Or.inr (Or.inl rfl) | exact Or.inr (Or.inr rfl))) (sa_cons (so_var (i := 10) rfl (by first | exact Or.inl rfl | exact Or.inr (Or.inl rfl) | exact Or.inr (Or.inr rfl))) sa_nil))))))) (fun _ _ _ _ _ => (so_var (i := 10) rfl (by first | exact Or.inl rfl | exact Or.inr (Or.inl rfl) | exact Or.inr (Or.inr rfl)))) | exact (ss_asg (i := 3) nd rfl (by first | exact Or.inl rfl | exact Or.inr rfl) (so_ofN (sn_comp rfl nd (own := [("spot", 10)]) rfl (si_val (g := (G.mk K fa ca TT)) (so_var (i := 0) rfl (by first | exact Or.inl rfl | exact Or.inr (Or.inl rfl) | exact Or.inr (Or.inr rfl)))) (blkOk_by (by kernel_rfl)) (fun _ _ _ _ _ => (sg_name (i := 10) (by decide) nd rfl (by first | exact Or.inl rfl | exact Or.inr rfl))) (fun _ _ _ _ _ => (ts_one (st_val (g := (G.mk K fa ca TT)) (so_def (g := (G.mk K fa ca TT)) T.d_lies_between hr rfl T.m_lies_between Sd.takes0 (sa_cons (so_var (i := 1) rfl (by first | exact Or.inl rfl | exact Or.inr (Or.inl rfl) | exact Or.inr (Or.inr rfl))) (sa_cons (so_var (i := 2) rfl (by first | exact Or.inl rfl | exact Or.inr (Or.inl rfl) | exact Or.inr (Or.inr rfl))) (sa_cons (so_var (i := 10) rfl (by first | exact Or.inl rfl | exact Or.inr (Or.inl rfl) | exact Or.inr (Or.inr rfl))) sa_nil))))))) (fun _ _ _ _ _ => (so_var (i := 10) rfl (by first | exact Or.inl rfl | exact Or.inr (Or.inl rfl) | exact Or.inr (Or.inr rfl)))))))) (ss_cons (ss_for (ws := [7, 8]) hp rfl (si_val (g := (G.mk K fa ca TT)) (so_def (g := (G.mk K fa ca TT)) T.d_halves_in hr rfl T.m_halves_in tk (sa_cons (so_var (i := 1) rfl (by first | exact Or.inl rfl | exact Or.inr (Or.inl rfl) | exact Or.inr (Or.inr rfl))) (sa_cons (so_var (i := 2) rfl (by first | exact Or.inl rfl | exact Or.inr (Or.inl rfl) | exact Or.inr (Or.inr rfl))) (sa_cons (so_var (i := 3) rfl (by first | exact Or.inl rfl | exact Or.inr (Or.inl rfl) | exact Or.inr (Or.inr rfl))) sa_nil))))) (sg_tup (g := (G.mk K fa ca TT)) rfl (sg_cons (sg_name (i := 7) (by decide) nd rfl (by first | exact Or.inl rfl | exact Or.inr rfl)) (sg_cons (sg_name (i := 8) (by decide) nd rfl (by first | exact Or.inl rfl | exact Or.inr rfl)) sg_nil)) (gCons_len (gCons_len gNil_len))) (ss_cons (ss_asg (i := 9) nd rfl (by first | exact Or.inl rfl | exact Or.inr rfl) (so_call1T (g := (G.mk K fa ca TT)) (sc_tuple) rfl T.z_tuple rfl (so_ofN (sn_comp rfl nd (own := [("spot", 10)]) rfl (si_val (g := (G.mk K fa ca TT)) (so_var (i := 0) rfl (by first | exact Or.inl rfl | exact Or.inr (Or.inl rfl) | exact Or.inr (Or.inr rfl)))) (blkOk_by (by kernel_rfl)) (fun _ _ _ _ _ => (sg_name (i := 10) (by decide) nd rfl (by first | exact Or.inl rfl | exact Or.inr rfl))) (fun _ _ _ _ _ => ts_nil) (fun _ _ _ _ _ => (so_tup (g := (G.mk K fa ca TT)) (sa_cons (so_op (g := (G.mk K fa ca TT)) so_mul (so_item (g := (G.mk K fa ca TT)) (fun _ _ => rfl) (so_var (i := 10) rfl (by first | exact Or.inl rfl | exact Or.inr (Or.inl rfl) | exact Or.inr (Or.inr rfl))) so_int) (so_var (i := 7) rfl (by first | exact Or.inl rfl | exact Or.inr (Or.inl rfl) | exact Or.inr (Or.inr rfl)))) (sa_cons (so_op (g := (G.mk K fa ca TT)) so_mul (so_item (g := (G.mk K fa ca TT)) (fun _ _ => rfl) (so_var (i := 10) rfl (by first | exact Or.inl rfl | exact Or.inr (Or.inl rfl) | exact Or.inr (Or.inr rfl))) so_int) (so_var (i := 7) rfl (by first | exact Or.inl rfl | exact Or.inr (Or.inl rfl) | exact Or.inr (Or.inr rfl)))) sa_nil)))))))) (ss_one (ss_if (st_cmp (g := (G.mk K fa ca TT)) (so_eq hu) (so_def (g := (G.mk K fa ca TT)) T.d_place_in hr rfl T.m_place_in tk (sa_cons (so_var (i := 9) rfl (by first | exact Or.inl rfl | exact Or.inr (Or.inl rfl) | exact Or.inr (Or.inr rfl))) (sa_cons (so_tup (g := (G.mk K fa ca TT)) (sa_cons (so_item (g := (G.mk K fa ca TT)) (fun _ _ => rfl) (so_var (i := 8) rfl (by first | exact Or.inl rfl | exact Or.inr (Or.inl rfl) | exact Or.inr (Or.inr rfl))) so_int) (sa_cons (so_item (g := (G.mk K fa ca TT)) (fun _ _ => rfl) (so_var (i := 8) rfl (by first | exact Or.inl rfl | exact Or.inr (Or.inl rfl) | exact Or.inr (Or.inr rfl))) so_int) sa_nil))) sa_nil))) (so_str (by first | rfl | decide)) (nomark _)) (ss_one (ss_ret so_bl)) ss_nil)))) (ss_one (ss_ret so_bl)))))
theorem b_is_ear (cdv : Value) (A : Around) (outer : List Env) (s : Shared) (H : Hp) (E : XK) (fad : Addr) (hr2 : Room (k + 2) (CxD P w K mg base ["outline", "at", "rest", "one", "other", "spot"] "is_ear" (top 27) fad cdv A outer s H E).A) :
    PSs (CxD P w K mg base ["outline", "at", "rest", "one", "other", "spot"] "is_ear" (top 27) fad cdv A outer s H E) (defBody (top 27)) (tS (G.mk K fa ca TT) Fx.none (fun cls d _ H => E cls d H) cf Py.f_is_ear) := by
  have hr : Room k (CxD P w K mg base ["outline", "at", "rest", "one", "other", "spot"] "is_ear" (top 27) fad cdv A outer s H E).A := hr2.mono (by omega)
  have hu := hr.units
  have nd : (["outline", "at", "rest", "one", "other", "spot"] : List Str).Nodup := by decide +kernel
  have tk : L2N.Takes (CxD P w K mg base ["outline", "at", "rest", "one", "other", "spot"] "is_ear" (top 27) fad cdv A outer s H E) (fun cls d _ H => E cls d H) := L2N.takes_of rfl rfl rfl rfl
  have hp := passes_of (X := (CxD P w K mg base ["outline", "at", "rest", "one", "other", "spot"] "is_ear" (top 27) fad cdv A outer s H E)) rfl
  unfold Py.f_is_ear
  exact (ss_cons (ss_if (st_cmp (g := (G.mk K fa ca TT)) (so_lt hu) (so_call1 (g := (G.mk K fa ca TT)) (sc_len) rfl T.z_len rfl (so_var (i := 0) rfl (by first | exact Or.inl rfl | exact Or.inr (Or.inl rfl) | exact Or.inr (Or.inr rfl)))) so_int (nomark _)) (ss_one (ss_ret so_bl)) ss_nil) (ss_cons (by first | exact ss_par2 rfl nd rfl rfl (by decide) rfl rfl rfl rfl (sa_cons (so_item (g := (G.mk K fa ca TT)) (fun _ _ => rfl) (so_var (i := 0) rfl (by first | exact Or.inl rfl | exact Or.inr (Or.inl rfl) | exact Or.inr (Or.inr rfl))) (so_op (g := (G.mk K fa ca TT)) so_sub (so_var (i := 1) rfl (by first | exact Or.inl rfl | exact Or.inr (Or.inl rfl) | exact Or.inr (Or.inr rfl))) so_int)) (sa_cons (so_item (g := (G.mk K fa ca TT)) (fun _ _ => rfl) (so_var (i := 0) rfl (by first | exact Or.inl rfl | exact Or.inr (Or.inl rfl) | exact Or.inr (Or.inr rfl))) (so_op (g := (G.mk K fa ca TT)) so_mod (so_op (g := (G.mk K fa ca TT)) so_add (so_var (i := 1) rfl (by first | exact Or.inl rfl | exact Or.inr (Or.inl rfl) | exact Or.inr (Or.inr rfl))) so_int) (so_call1 (g := (G.mk K fa ca TT)) (sc_len) rfl T.z_len rfl (so_var (i := 0) rfl (by first | exact Or.inl rfl | exact Or.inr (Or.inl rfl) | exact Or.inr (Or.inr rfl)))))) sa_nil)) | exact ss_parN rfl (sn_cons nd rfl (by first | exact Or.inl rfl | exact Or.inr rfl) (sn_cons nd rfl (by first | exact Or.inl rfl | exact Or.inr rfl) sn_nil)) rfl rfl rfl rfl rfl (by show _ ≤ sizeLine; decide) (sa_cons (so_item (g := (G.mk K fa ca TT)) (fun _ _ => rfl) (so_var (i := 0) rfl (by first | exact Or.inl rfl | exact Or.inr (Or.inl rfl) | exact Or.inr (Or.inr rfl))) (so_op (g := (G.mk K fa ca TT)) so_sub (so_var (i := 1) rfl (by first | exact Or.inl rfl | exact Or.inr (Or.inl rfl) | exact Or.inr (Or.inr rfl))) so_int)) (sa_cons (so_item (g := (G.mk K fa ca TT)) (fun _ _ => rfl) (so_var (i := 0) rfl (by first | exact Or.inl rfl | exact Or.inr (Or.inl rfl) | exact Or.inr (Or.inr rfl))) (so_op (g := (G.mk K fa ca TT)) so_mod (so_op (g := (G.mk K fa ca TT)) so_add (so_var (i := 1) rfl (by first | exact Or.inl rfl | exact Or.inr (Or.inl rfl) | exact Or.inr (Or.inr rfl))) so_int) (so_call1 (g := (G.mk K fa ca TT)) (sc_len) rfl T.z_len rfl (so_var (i := 0) rfl (by first | exact Or.inl rfl | exact Or.inr (Or.inl rfl) | exact Or.inr (Or.inr rfl)))))) sa_nil))) (ss_cons (by first | exact ss_setLc (k := 2) (own := [("spot", 5)]) rfl nd rfl rfl rfl (sw_true rfl rfl rfl (by decide +kernel)) (si_val (g := (G.mk K fa ca TT)) (so_var (i := 0) rfl (by first | exact Or.inl rfl | exact Or.inr (Or.inl rfl) | exact Or.inr (Or.inr rfl)))) (blkOk_by (by kernel_rfl)) (fun _ _ _ _ _ => (sg_name (i := 5) (by decide) nd rfl (by first | exact Or.inl rfl | exact Or.inr rfl))) (fun _ _ _ _ _ => (ts_one (st_cmp (g := (G.mk K fa ca TT)) (so_notin hu) (so_var (i := 5) rfl (by first | exact Or.inl rfl | exact Or.inr (Or.inl rfl) | exact Or.inr (Or.inr rfl))) (so_tup (g := (G.mk K fa ca TT)) (sa_cons (so_var (i := 3) rfl (by first | exact Or.inl rfl | exact Or.inr (Or.inl rfl) | exact Or.inr (Or.inr rfl))) (sa_cons (so_var (i := 4) rfl (by first | exact Or.inl rfl | exact Or.inr (Or.inl rfl) | exact Or.inr (Or.inr rfl))) (sa_cons (so_item (g := (G.mk K fa ca TT)) (fun _ _ => rfl) (so_var (i := 0) rfl (by first | exact Or.inl rfl | exact Or.inr (Or.inl rfl) | exact Or.inr (Or.inr rfl))) (so_var (i := 1) rfl (by first | exact Or.inl rfl | exact Or.inr (Or.inl rfl) | exact Or.inr (Or.inr rfl)))) sa_nil)))) (by with_unfolding_all rfl)))) (fun _ _ _ _ _ => (so_var (i := 5) rfl (by first | exact Or.inl rfl | exact Or.inr (Or.inl rfl) | exact Or.inr (Or.inr rfl)))) | exact (ss_asg (i := 2) nd rfl (by first | exact Or.inl rfl | exact Or.inr rfl) (so_ofN (sn_comp rfl nd (own := [("spot", 5)]) rfl (si_val (g := (G.mk K fa ca TT)) (so_var (i := 0) rfl (by first | exact Or.inl rfl | exact Or.inr (Or.inl rfl) | exact Or.inr (Or.inr rfl)))) (blkOk_by (by kernel_rfl)) (fun _ _ _ _ _ => (sg_name (i := 5) (by decide) nd rfl (by first | exact Or.inl rfl | exact Or.inr rfl))) (fun _ _ _ _ _ => (ts_one (st_cmp (g := (G.mk K fa ca TT)) (so_notin hu) (so_var (i := 5) rfl (by first | exact Or.inl rfl | exact Or.inr (Or.inl rfl) | exact Or.inr (Or.inr rfl))) (so_tup (g := (G.mk K fa ca TT)) (sa_cons (so_var (i := 3) rfl (by first | exact Or.inl rfl | exact Or.inr (Or.inl rfl) | exact Or.inr (Or.inr rfl))) (sa_cons (so_var (i := 4) rfl (by first | exact Or.inl rfl | exact Or.inr (Or.inl rfl) | exact Or.inr (Or.inr rfl))) (sa_cons (so_item (g := (G.mk K fa ca TT)) (fun _ _ => rfl) (so_var (i := 0) rfl (by first | exact Or.inl rfl | exact Or.inr (Or.inl rfl) | exact Or.inr (Or.inr rfl))) (so_var (i := 1) rfl (by first | exact Or.inl rfl | exact Or.inr (Or.inl rfl) | exact Or.inr (Or.inr rfl)))) sa_nil)))) (by with_unfolding_all rfl)))) (fun _ _ _ _ _ => (so_var (i := 5) rfl (by first | exact Or.inl rfl | exact Or.inr (Or.inl rfl) | exact Or.inr (Or.inr rfl)))))))) (ss_cons (ss_if (st_bool (sw_or (st_val (g := (G.mk K fa ca TT)) (so_call1 (g := (G.mk K fa ca TT)) (sc_any rfl) rfl T.z_any rfl (so_ofN (sn_comp rfl nd (own := [("spot", 5)]) rfl (si_val (g := (G.mk K fa ca TT)) (so_var (i := 2) rfl (by first | exact Or.inl rfl | exact Or.inr (Or.inl rfl) | exact Or.inr (Or.inr rfl)))) (blkOk_by (by kernel_rfl)) (fun _ _ _ _ _ => (sg_name (i := 5) (by decide) nd rfl (by first | exact Or.inl rfl | exact Or.inr rfl))) (fun _ _ _ _ _ => ts_nil) (fun _ _ _ _ _ => (so_def (g := (G.mk K fa ca TT)) T.d_lies_between hr rfl T.m_lies_between Sd.takes0 (sa_cons (so_var (i := 3) rfl (by first | exact Or.inl rfl | exact Or.inr (Or.inl rfl) | exact Or.inr (Or.inr rfl))) (sa_cons (so_var (i := 4) rfl (by first | exact Or.inl rfl | exact Or.inr (Or.inl rfl) | exact Or.inr (Or.inr rfl))) (sa_cons (so_var (i := 5) rfl (by first | exact Or.inl rfl | exact Or.inr (Or.inl rfl) | exact Or.inr (Or.inr rfl))) sa_nil))))))))) (sw_or1 (st_not (st_val (g := (G.mk K fa ca TT)) (so_def (g := (G.mk K fa ca TT)) T.d_do_see hr rfl T.m_do_see tk (sa_cons (so_var (i := 0) rfl (by first | exact Or.inl rfl | exact Or.inr (Or.inl rfl) | exact Or.inr (Or.inr rfl))) (sa_cons (so_var (i := 3) rfl (by first | exact Or.inl rfl | exact Or.inr (Or.inl rfl) | exact Or.inr (Or.inr rfl))) (sa_cons (so_var (i := 4) rfl (by first | exact Or.inl rfl | exact Or.inr (Or.inl rfl) | exact Or.inr (Or.inr rfl))) sa_nil))))))))) (ss_one (ss_ret so_bl)) ss_nil) (ss_one (ss_ret (so_def (g := (G.mk K fa ca TT)) T.d_fits_outline hr rfl T.m_fits_outline tk (sa_cons (so_op (g := (G.mk K fa ca TT)) so_add (so_ofN (sn_cut (g := (G.mk K fa ca TT)) (so_var (i := 0) rfl (by first | exact Or.inl rfl | exact Or.inr (Or.inl rfl) | exact Or.inr (Or.inr rfl))) sp_none (sp_some (so_var (i := 1) rfl (by first | exact Or.inl rfl | exact Or.inr (Or.inl rfl) | exact Or.inr (Or.inr rfl)))))) (so_ofN (sn_cut (g := (G.mk K fa ca TT)) (so_var (i := 0) rfl (by first | exact Or.inl rfl | exact Or.inr (Or.inl rfl) | exact Or.inr (Or.inr rfl))) (sp_some (so_op (g := (G.mk K fa ca TT)) so_add (so_var (i := 1) rfl (by first | exact Or.inl rfl | exact Or.inr (Or.inl rfl) | exact Or.inr (Or.inr rfl))) so_int)) sp_none))) sa_nil))))))))
theorem b_is_outline (cdv : Value) (A : Around) (outer : List Env) (s : Shared) (H : Hp) (E : XK) (fad : Addr) (hr2 : Room (k + 2) (CxD P w K mg base ["value"] "is_outline" (top 28) fad cdv A outer s H E).A) :
    PSs (CxD P w K mg base ["value"] "is_outline" (top 28) fad cdv A outer s H E) (defBody (top 28)) (tS (G.mk K fa ca TT) Fx.none (fun cls d _ H => E cls d H) cf Py.f_is_outline) := by
  have hr : Room k (CxD P w K mg base ["value"] "is_outline" (top 28) fad cdv A outer s H E).A := hr2.mono (by omega)
  have hu := hr.units
  have nd : (["value"] : List Str).Nodup := by decide +kernel
  have tk : L2N.Takes (CxD P w K mg base ["value"] "is_outline" (top 28) fad cdv A outer s H E) (fun cls d _ H => E cls d H) := L2N.takes_of rfl rfl rfl rfl
  have hp := passes_of (X := (CxD P w K mg base ["value"] "is_outline" (top 28) fad cdv A outer s H E)) rfl
  unfold Py.f_is_outline
  exact (ss_one (ss_ret (so_def (g := (G.mk K fa ca TT)) T.d_fits_outline hr rfl T.m_fits_outline tk (sa_cons (so_var (i := 0) rfl (by first | exact Or.inl rfl | exact Or.inr (Or.inl rfl) | exact Or.inr (Or.inr rfl))) sa_nil))))
theorem b_twice_area_of (cdv : Value) (A : Around) (outer : List Env) (s : Shared) (H : Hp) (E : XK) (fad : Addr) (hr2 : Room (k + 2) (CxD P w K mg base ["outline"] "twice_area_of" (top 29) fad cdv A outer s H E).A) :
    PSs (CxD P w K mg base ["outline"] "twice_area_of" (top 29) fad cdv A outer s H E) (defBody (top 29)) (tS (G.mk K fa ca TT) Fx.none (fun cls d _ H => E cls d H) cf Py.f_twice_area_of) := by
  have hr : Room k (CxD P w K mg base ["outline"] "twice_area_of" (top 29) fad cdv A outer s H E).A := hr2.mono (by omega)
  have hu := hr.units
  have nd : (["outline"] : List Str).Nodup := by decide +kernel
  have tk : L2N.Takes (CxD P w K mg base ["outline"] "twice_area_of" (top 29) fad cdv A outer s H E) (fun cls d _ H => E cls d H) := L2N.takes_of rfl rfl rfl rfl
  have hp := passes_of (X := (CxD P w K mg base ["outline"] "twice_area_of" (top 29) fad cdv A outer s H E)) rfl
  unfold Py.f_twice_area_of
  exact (ss_cons (ss_expr (so_def (g := (G.mk K fa ca TT)) T.d_need_outline hr rfl T.m_need_outline tk (sa_cons (so_var (i := 0) rfl (by first | exact Or.inl rfl | exact Or.inr (Or.inl rfl) | exact Or.inr (Or.inr rfl))) sa_nil))) (ss_one (ss_ret (so_def (g := (G.mk K fa ca TT)) T.d_area_in hr rfl T.m_area_in tk (sa_cons (so_var (i := 0) rfl (by first | exact Or.inl rfl | exact Or.inr (Or.inl rfl) | exact Or.inr (Or.inr rfl))) sa_nil)))))
theorem b_corner_turns (cdv : Value) (A : Around) (outer : List Env) (s : Shared) (H : Hp) (E : XK) (fad : Addr) (hr2 : Room (k + 2) (CxD P w K mg base ["outline"] "corner_turns" (top 30) fad cdv A outer s H E).A) :
    PSs (CxD P w K mg base ["outline"] "corner_turns" (top 30) fad cdv A outer s H E) (defBody (top 30)) (tS (G.mk K fa ca TT) Fx.none (fun cls d _ H => E cls d H) cf Py.f_corner_turns) := by
  have hr : Room k (CxD P w K mg base ["outline"] "corner_turns" (top 30) fad cdv A outer s H E).A := hr2.mono (by omega)
  have hu := hr.units
  have nd : (["outline"] : List Str).Nodup := by decide +kernel
  have tk : L2N.Takes (CxD P w K mg base ["outline"] "corner_turns" (top 30) fad cdv A outer s H E) (fun cls d _ H => E cls d H) := L2N.takes_of rfl rfl rfl rfl
  have hp := passes_of (X := (CxD P w K mg base ["outline"] "corner_turns" (top 30) fad cdv A outer s H E)) rfl
  unfold Py.f_corner_turns
  exact (ss_cons (ss_expr (so_def (g := (G.mk K fa ca TT)) T.d_need_outline hr rfl T.m_need_outline tk (sa_cons (so_var (i := 0) rfl (by first | exact Or.inl rfl | exact Or.inr (Or.inl rfl) | exact Or.inr (Or.inr rfl))) sa_nil))) (ss_one (ss_ret (so_call1T (g := (G.mk K fa ca TT)) (sc_tuple) rfl T.z_tuple rfl (so_def (g := (G.mk K fa ca TT)) T.d_turns_in hr rfl T.m_turns_in tk (sa_cons (so_var (i := 0) rfl (by first | exact Or.inl rfl | exact Or.inr (Or.inl rfl) | exact Or.inr (Or.inr rfl))) sa_nil))))))
theorem b_is_bulging (cdv : Value) (A : Around) (outer : List Env) (s : Shared) (H : Hp) (E : XK) (fad : Addr) (hr2 : Room (k + 2) (CxD P w K mg base ["outline", "turns"] "is_bulging" (top 31) fad cdv A outer s H E).A) :
    PSs (CxD P w K mg base ["outline", "turns"] "is_bulging" (top 31) fad cdv A outer s H E) (defBody (top 31)) (tS (G.mk K fa ca TT) Fx.none (fun cls d _ H => E cls d H) cf Py.f_is_bulging) := by
  have hr : Room k (CxD P w K mg base ["outline", "turns"] "is_bulging" (top 31) fad cdv A outer s H E).A := hr2.mono (by omega)
  have hu := hr.units
  have nd : (["outline", "turns"] : List Str).Nodup := by decide +kernel
  have tk : L2N.Takes (CxD P w K mg base ["outline", "turns"] "is_bulging" (top 31) fad cdv A outer s H E) (fun cls d _ H => E cls d H) := L2N.takes_of rfl rfl rfl rfl
  have hp := passes_of (X := (CxD P w K mg base ["outline", "turns"] "is_bulging" (top 31) fad cdv A outer s H E)) rfl
  unfold Py.f_is_bulging
  exact (ss_cons (ss_expr (so_def (g := (G.mk K fa ca TT)) T.d_need_outline hr rfl T.m_need_outline tk (sa_cons (so_var (i := 0) rfl (by first | exact Or.inl rfl | exact Or.inr (Or.inl rfl) | exact Or.inr (Or.inr rfl))) sa_nil))) (ss_cons (ss_asg (i := 1) nd rfl (by first | exact Or.inl rfl | exact Or.inr rfl) (so_def (g := (G.mk K fa ca TT)) T.d_turns_in hr rfl T.m_turns_in tk (sa_cons (so_var (i := 0) rfl (by first | exact Or.inl rfl | exact Or.inr (Or.inl rfl) | exact Or.inr (Or.inr rfl))) sa_nil))) (ss_one (ss_ret (so_not (g := (G.mk K fa ca TT)) (so_and (g := (G.mk K fa ca TT)) (so_cmp (g := (G.mk K fa ca TT)) (so_in hu) so_int (so_var (i := 1) rfl (by first | exact Or.inl rfl | exact Or.inr (Or.inl rfl) | exact Or.inr (Or.inr rfl))) (by with_unfolding_all rfl)) (so_one (so_cmp (g := (G.mk K fa ca TT)) (so_in hu) (so_un (g := (G.mk K fa ca TT)) so_neg so_int) (so_var (i := 1) rfl (by first | exact Or.inl rfl | exact Or.inr (Or.inl rfl) | exact Or.inr (Or.inr rfl))) (by with_unfolding_all rfl)))))))))
theorem b_place_of (cdv : Value) (A : Around) (outer : List Env) (s : Shared) (H : Hp) (E : XK) (fad : Addr) (hr2 : Room (k + 2) (CxD P w K mg base ["outline", "spot"] "place_of" (top 32) fad cdv A outer s H E).A) :
    PSs (CxD P w K mg base ["outline", "spot"] "place_of" (top 32) fad cdv A outer s H E) (defBody (top 32)) (tS (G.mk K fa ca TT) Fx.none (fun cls d _ H => E cls d H) cf Py.f_place_of) := by
  have hr : Room k (CxD P w K mg base ["outline", "spot"] "place_of" (top 32) fad cdv A outer s H E).A := hr2.mono (by omega)
  have hu := hr.units
  have nd : (["outline", "spot"] : List Str).Nodup := by decide +kernel
  have tk : L2N.Takes (CxD P w K mg base ["outline", "spot"] "place_of" (top 32) fad cdv A outer s H E) (fun cls d _ H => E cls d H) := L2N.takes_of rfl rfl rfl rfl
  have hp := passes_of (X := (CxD P w K mg base ["outline", "spot"] "place_of" (top 32) fad cdv A outer s H E)) rfl
  unfold Py.f_place_of
  exact (ss_cons (ss_expr (so_def (g := (G.mk K fa ca TT)) T.d_need_outline hr rfl T.m_need_outline tk (sa_cons (so_var (i := 0) rfl (by first | exact Or.inl rfl | exact Or.inr (Or.inl rfl) | exact Or.inr (Or.inr rfl))) sa_nil))) (ss_cons (ss_expr (so_def (g := (G.mk K fa ca TT)) T.d_need_spot hr rfl T.m_need_spot tk (sa_cons (so_var (i := 1) rfl (by first | exact Or.inl rfl | exact Or.inr (Or.inl rfl) | exact Or.inr (Or.inr rfl))) sa_nil))) (ss_one (ss_ret (so_def (g := (G.mk K fa ca TT)) T.d_place_in hr rfl T.m_place_in tk (sa_cons (so_var (i := 0) rfl (by first | exact Or.inl rfl | exact Or.inr (Or.inl rfl) | exact Or.inr (Or.inr rfl))) (sa_cons (so_var (i := 1) rfl (by first | exact Or.inl rfl | exact Or.inr (Or.inl rfl) | exact Or.inr (Or.inr rfl))) sa_nil)))))))
theorem b_need_within (cdv : Value) (A : Around) (outer : List Env) (s : Shared) (H : Hp) (E : XK) (fad : Addr) (hr2 : Room (k + 2) (CxD P w K mg base ["outline", "spot"] "need_within" (top 33) fad cdv A outer s H E).A) :
    PSs (CxD P w K mg base ["outline", "spot"] "need_within" (top 33) fad cdv A outer s H E) (defBody (top 33)) (tS (G.mk K fa ca TT) Fx.none (fun cls d _ H => E cls d H) cf Py.f_need_within) := by
  have hr : Room k (CxD P w K mg base ["outline", "spot"] "need_within" (top 33) fad cdv A outer s H E).A := hr2.mono (by omega)
  have hu := hr.units
  have nd : (["outline", "spot"] : List Str).Nodup := by decide +kernel
  have tk : L2N.Takes (CxD P w K mg base ["outline", "spot"] "need_within" (top 33) fad cdv A outer s H E) (fun cls d _ H => E cls d H) := L2N.takes_of rfl rfl rfl rfl
  have hp := passes_of (X := (CxD P w K mg base ["outline", "spot"] "need_within" (top 33) fad cdv A outer s H E)) rfl
  unfold Py.f_need_within
  exact (ss_cons (ss_expr (so_def (g := (G.mk K fa ca TT)) T.d_need_spot hr rfl T.m_need_spot tk (sa_cons (so_var (i := 1) rfl (by first | exact Or.inl rfl | exact Or.inr (Or.inl rfl) | exact Or.inr (Or.inr rfl))) sa_nil))) (ss_one (ss_if (st_cmp (g := (G.mk K fa ca TT)) (so_eq hu) (so_def (g := (G.mk K fa ca TT)) T.d_place_in hr rfl T.m_place_in tk (sa_cons (so_var (i := 0) rfl (by first | exact Or.inl rfl | exact Or.inr (Or.inl rfl) | exact Or.inr (Or.inr rfl))) (sa_cons (so_var (i := 1) rfl (by first | exact Or.inl rfl | exact Or.inr (Or.inl rfl) | exact Or.inr (Or.inr rfl))) sa_nil))) (so_str (by first | rfl | decide)) (nomark _)) (ss_one (ss_raise (g := (G.mk K fa ca TT)) (cn := 3) rfl tk T.x_InvalidPlan.1 T.n_InvalidPlan T.x_InvalidPlan.2.1 T.x_InvalidPlan.2.2.1 T.x_InvalidPlan.2.2.2 rfl)) ss_nil)))
theorem b_sees (cdv : Value) (A : Around) (outer : List Env) (s : Shared) (H : Hp) (E : XK) (fad : Addr) (hr2 : Room (k + 2) (CxD P w K mg base ["outline", "one", "other"] "sees" (top 34) fad cdv A outer s H E).A) :
    PSs (CxD P w K mg base ["outline", "one", "other"] "sees" (top 34) fad cdv A outer s H E) (defBody (top 34)) (tS (G.mk K fa ca TT) Fx.none (fun cls d _ H => E cls d H) cf Py.f_sees) := by
  have hr : Room k (CxD P w K mg base ["outline", "one", "other"] "sees" (top 34) fad cdv A outer s H E).A := hr2.mono (by omega)
  have hu := hr.units
  have nd : (["outline", "one", "other"] : List Str).Nodup := by decide +kernel
  have tk : L2N.Takes (CxD P w K mg base ["outline", "one", "other"] "sees" (top 34) fad cdv A outer s H E) (fun cls d _ H => E cls d H) := L2N.takes_of rfl rfl rfl rfl
  have hp := passes_of (X := (CxD P w K mg base ["outline", "one", "other"] "sees" (top 34) fad cdv A outer s H E)) rfl
  unfold Py.f_sees
  exact (ss_cons (ss_expr (so_def (g := (G.mk K fa ca TT)) T.d_need_outline hr rfl T.m_need_outline tk (sa_cons (so_var (i := 0) rfl (by first | exact Or.inl rfl | exact Or.inr (Or.inl rfl) | exact Or.inr (Or.inr rfl))) sa_nil))) (ss_cons (ss_expr (so_def (g := (G.mk K fa ca TT)) T.d_need_within hr rfl T.m_need_within tk (sa_cons (so_var (i := 0) rfl (by first | exact Or.inl rfl | exact Or.inr (Or.inl rfl) | exact Or.inr (Or.inr rfl))) (sa_cons (so_var (i := 1) rfl (by first | exact Or.inl rfl | exact Or.inr (Or.inl rfl) | exact Or.inr (Or.inr rfl))) sa_nil)))) (ss_cons (ss_expr (so_def (g := (G.mk K fa ca TT)) T.d_need_within hr rfl T.m_need_within tk (sa_cons (so_var (i := 0) rfl (by first | exact Or.inl rfl | exact Or.inr (Or.inl rfl) | exact Or.inr (Or.inr rfl))) (sa_cons (so_var (i := 2) rfl (by first | exact Or.inl rfl | exact Or.inr (Or.inl rfl) | exact Or.inr (Or.inr rfl))) sa_nil)))) (ss_one (ss_ret (so_def (g := (G.mk K fa ca TT)) T.d_do_see hr rfl T.m_do_see tk (sa_cons (so_var (i := 0) rfl (by first | exact Or.inl rfl | exact Or.inr (Or.inl rfl) | exact Or.inr (Or.inr rfl))) (sa_cons (so_var (i := 1) rfl (by first | exact Or.inl rfl | exact Or.inr (Or.inl rfl) | exact Or.inr (Or.inr rfl))) (sa_cons (so_var (i := 2) rfl (by first | exact Or.inl rfl | exact Or.inr (Or.inl rfl) | exact Or.inr (Or.inr rfl))) sa_nil)))))))))
theorem b_corners_seen (cdv : Value) (A : Around) (outer : List Env) (s : Shared) (H : Hp) (E : XK) (fad : Addr) (hr2 : Room (k + 2) (CxD P w K mg base ["outline", "spot", "at", "corner"] "corners_seen" (top 35) fad cdv A outer s H E).A) :
    PSs (CxD P w K mg base ["outline", "spot", "at", "corner"] "corners_seen" (top 35) fad cdv A outer s H E) (defBody (top 35)) (tS (G.mk K fa ca TT) Fx.none (fun cls d _ H => E cls d H) cf Py.f_corners_seen) := by
  have hr : Room k (CxD P w K mg base ["outline", "spot", "at", "corner"] "corners_seen" (top 35) fad cdv A outer s H E).A := hr2.mono (by omega)
  have hu := hr.units
  have nd : (["outline", "spot", "at", "corner"] : List Str).Nodup := by decide +kernel
  have tk : L2N.Takes (CxD P w K mg base ["outline", "spot", "at", "corner"] "corners_seen" (top 35) fad cdv A outer s H E) (fun cls d _ H => E cls d H) := L2N.takes_of rfl rfl rfl rfl
  have hp := passes_of (X := (CxD P w K mg base ["outline", "spot", "at", "corner"] "corners_seen" (top 35) fad cdv A outer s H E)) rfl
  unfold Py.f_corners_seen
  exact (ss_cons (ss_expr (so_def (g := (G.mk K fa ca TT)) T.d_need_outline hr rfl T.m_need_outline tk (sa_cons (so_var (i := 0) rfl (by first | exact Or.inl rfl | exact Or.inr (Or.inl rfl) | exact Or.inr (Or.inr rfl))) sa_nil))) (ss_cons (ss_expr (so_def (g := (G.mk K fa ca TT)) T.d_need_within hr rfl T.m_need_within tk (sa_cons (so_var (i := 0) rfl (by first | exact Or.inl rfl | exact Or.inr (Or.inl rfl) | exact Or.inr (Or.inr rfl))) (sa_cons (so_var (i := 1) rfl (by first | exact Or.inl rfl | exact Or.inr (Or.inl rfl) | exact Or.inr (Or.inr rfl))) sa_nil)))) (ss_one (ss_ret (so_call1T (g := (G.mk K fa ca TT)) (sc_tuple) rfl T.z_tuple rfl (so_ofN (sn_comp rfl nd (own := [("at", 2), ("corner", 3)]) rfl (si_enum (g := (G.mk K fa ca TT)) rfl T.z_enumerate (so_var (i := 0) rfl (by first | exact Or.inl rfl | exact Or.inr (Or.inl rfl) | exact Or.inr (Or.inr rfl)))) (blkOk_by (by kernel_rfl)) (fun _ _ _ _ _ => (sg_tup (g := (G.mk K fa ca TT)) rfl (sg_cons (sg_name (i := 2) (by decide) nd rfl (by first | exact Or.inl rfl | exact Or.inr rfl)) (sg_cons (sg_name (i := 3) (by decide) nd rfl (by first | exact Or.inl rfl | exact Or.inr rfl)) sg_nil)) (gCons_len (gCons_len gNil_len)))) (fun _ _ _ _ _ => (ts_one (st_val (g := (G.mk K fa ca TT)) (so_def (g := (G.mk K fa ca TT)) T.d_do_see hr rfl T.m_do_see Sd.takes0 (sa_cons (so_var (i := 0) rfl (by first | exact Or.inl rfl | exact Or.inr (Or.inl rfl) | exact Or.inr (Or.inr rfl))) (sa_cons (so_var (i := 1) rfl (by first | exact Or.inl rfl | exact Or.inr (Or.inl rfl) | exact Or.inr (Or.inr rfl))) (sa_cons (so_var (i := 3) rfl (by first | exact Or.inl rfl | exact Or.inr (Or.inl rfl) | exact Or.inr (Or.inr rfl))) sa_nil))))))) (fun _ _ _ _ _ => (so_var (i := 2) rfl (by first | exact Or.inl rfl | exact Or.inr (Or.inl rfl) | exact Or.inr (Or.inr rfl)))))))))))
theorem b_sees_all (cdv : Value) (A : Around) (outer : List Env) (s : Shared) (H : Hp) (E : XK) (fad : Addr) (hr2 : Room (k + 2) (CxD P w K mg base ["outline", "spot", "side", "one", "other"] "sees_all" (top 36) fad cdv A outer s H E).A) :
    PSs (CxD P w K mg base ["outline", "spot", "side", "one", "other"] "sees_all" (top 36) fad cdv A outer s H E) (defBody (top 36)) (tS (G.mk K fa ca TT) Fx.none (fun cls d _ H => E cls d H) cf Py.f_sees_all) := by
  have hr : Room k (CxD P w K mg base ["outline", "spot", "side", "one", "other"] "sees_all" (top 36) fad cdv A outer s H E).A := hr2.mono (by omega)
  have hu := hr.units
  have nd : (["outline", "spot", "side", "one", "other"] : List Str).Nodup := by decide +kernel
  have tk : L2N.Takes (CxD P w K mg base ["outline", "spot", "side", "one", "other"] "sees_all" (top 36) fad cdv A outer s H E) (fun cls d _ H => E cls d H) := L2N.takes_of rfl rfl rfl rfl
  have hp := passes_of (X := (CxD P w K mg base ["outline", "spot", "side", "one", "other"] "sees_all" (top 36) fad cdv A outer s H E)) rfl
  unfold Py.f_sees_all
  exact (ss_cons (ss_expr (so_def (g := (G.mk K fa ca TT)) T.d_need_outline hr rfl T.m_need_outline tk (sa_cons (so_var (i := 0) rfl (by first | exact Or.inl rfl | exact Or.inr (Or.inl rfl) | exact Or.inr (Or.inr rfl))) sa_nil))) (ss_cons (ss_expr (so_def (g := (G.mk K fa ca TT)) T.d_need_within hr rfl T.m_need_within tk (sa_cons (so_var (i := 0) rfl (by first | exact Or.inl rfl | exact Or.inr (Or.inl rfl) | exact Or.inr (Or.inr rfl))) (sa_cons (so_var (i := 1) rfl (by first | exact Or.inl rfl | exact Or.inr (Or.inl rfl) | exact Or.inr (Or.inr rfl))) sa_nil)))) (ss_cons (ss_asg (i := 2) nd rfl (by first | exact Or.inl rfl | exact Or.inr rfl) (so_ife (st_cmp (g := (G.mk K fa ca TT)) (so_gt hu) (so_def (g := (G.mk K fa ca TT)) T.d_area_in hr rfl T.m_area_in tk (sa_cons (so_var (i := 0) rfl (by first | exact Or.inl rfl | exact Or.inr (Or.inl rfl) | exact Or.inr (Or.inr rfl))) sa_nil)) so_int (nomark _)) so_int (so_un (g := (G.mk K fa ca TT)) so_neg so_int))) (ss_one (ss_ret (so_call1 (g := (G.mk K fa ca TT)) (sc_all rfl) rfl T.z_all rfl (so_ofN (sn_comp rfl nd (own := [("one", 3), ("other", 4)]) rfl (si_val (g := (G.mk K fa ca TT)) (so_def (g := (G.mk K fa ca TT)) T.d_sides_of hr rfl T.m_sides_of tk (sa_cons (so_var (i := 0) rfl (by first | exact Or.inl rfl | exact Or.inr (Or.inl rfl) | exact Or.inr (Or.inr rfl))) sa_nil))) (blkOk_by (by kernel_rfl)) (fun _ _ _ _ _ => (sg_tup (g := (G.mk K fa ca TT)) rfl (sg_cons (sg_name (i := 3) (by decide) nd rfl (by first | exact Or.inl rfl | exact Or.inr rfl)) (sg_cons (sg_name (i := 4) (by decide) nd rfl (by first | exact Or.inl rfl | exact Or.inr rfl)) sg_nil)) (gCons_len (gCons_len gNil_len)))) (fun _ _ _ _ _ => ts_nil) (fun _ _ _ _ _ => (so_cmp (g := (G.mk K fa ca TT)) (so_ge hu) (so_op (g := (G.mk K fa ca TT)) so_mul (so_def (g := (G.mk K fa ca TT)) T.d_turn_of hr rfl T.m_turn_of Sd.takes0 (sa_cons (so_var (i := 3) rfl (by first | exact Or.inl rfl | exact Or.inr (Or.inl rfl) | exact Or.inr (Or.inr rfl))) (sa_cons (so_var (i := 4) rfl (by first | exact Or.inl rfl | exact Or.inr (Or.inl rfl) | exact Or.inr (Or.inr rfl))) (sa_cons (so_var (i := 1) rfl (by first | exact Or.inl rfl | exact Or.inr (Or.inl rfl) | exact Or.inr (Or.inr rfl))) sa_nil)))) (so_var (i := 2) rfl (by first | exact Or.inl rfl | exact Or.inr (Or.inl rfl) | exact Or.inr (Or.inr rfl)))) so_int (nomark _)))))))))))
theorem b_corners_that_see (cdv : Value) (A : Around) (outer : List Env) (s : Shared) (H : Hp) (E : XK) (fad : Addr) (hr2 : Room (k + 2) (CxD P w K mg base ["outline", "side", "sides", "rows", "spot", "one", "other", "at", "row"] "corners_that_see" (top 37) fad cdv A outer s H E).A) :
    PSs (CxD P w K mg base ["outline", "side", "sides", "rows", "spot", "one", "other", "at", "row"] "corners_that_see" (top 37) fad cdv A outer s H E) (defBody (top 37)) (tS (G.mk K fa ca TT) Fx.none (fun cls d _ H => E cls d H) cf Py.f_corners_that_see) := by
  have hr : Room k (CxD P w K mg base ["outline", "side", "sides", "rows", "spot", "one", "other", "at", "row"] "corners_that_see" (top 37) fad cdv A outer s H E).A := hr2.mono (by omega)
  have hu := hr.units
  have nd : (["outline", "side", "sides", "rows", "spot", "one", "other", "at", "row"] : List Str).Nodup := by decide +kernel
  have tk : L2N.Takes (CxD P w K mg base ["outline", "side", "sides", "rows", "spot", "one", "other", "at", "row"] "corners_that_see" (top 37) fad cdv A outer s H E) (fun cls d _ H => E cls d H) := L2N.takes_of rfl rfl rfl rfl
  have hp := passes_of (X := (CxD P w K mg base ["outline", "side", "sides", "rows", "spot", "one", "other", "at", "row"] "corners_that_see" (top 37) fad cdv A outer s H E)) rfl
  unfold Py.f_corners_that_see
  exact (ss_cons (ss_expr (so_def (g := (G.mk K fa ca TT)) T.d_need_outline hr rfl T.m_need_outline tk (sa_cons (so_var (i := 0) rfl (by first | exact Or.inl rfl | exact Or.inr (Or.inl rfl) | exact Or.inr (Or.inr rfl))) sa_nil))) (ss_cons (ss_asg (i := 1) nd rfl (by first | exact Or.inl rfl | exact Or.inr rfl) (so_ife (st_cmp (g := (G.mk K fa ca TT)) (so_gt hu) (so_def (g := (G.mk K fa ca TT)) T.d_area_in hr rfl T.m_area_in tk (sa_cons (so_var (i := 0) rfl (by first | exact Or.inl rfl | exact Or.inr (Or.inl rfl) | exact Or.inr (Or.inr rfl))) sa_nil)) so_int (nomark _)) so_int (so_un (g := (G.mk K fa ca TT)) so_neg so_int))) (ss_cons (ss_asg (i := 2) nd rfl (by first | exact Or.inl rfl | exact Or.inr rfl) (so_def (g := (G.mk K fa ca TT)) T.d_sides_of hr rfl T.m_sides_of tk (sa_cons (so_var (i := 0) rfl (by first | exact Or.inl rfl | exact Or.inr (Or.inl rfl) | exact Or.inr (Or.inr rfl))) sa_nil))) (ss_cons (by first | exact ss_setLc (k := 3) (own := [("spot", 4)]) rfl nd rfl rfl rfl (sw_true rfl rfl rfl (by decide +kernel)) (si_val (g := (G.mk K fa ca TT)) (so_var (i := 0) rfl (by first | exact Or.inl rfl | exact Or.inr (Or.inl rfl) | exact Or.inr (Or.inr rfl)))) (blkOk_by (by kernel_rfl)) (fun _ _ _ _ _ => (sg_name (i := 4) (by decide) nd rfl (by first | exact Or.inl rfl | exact Or.inr rfl))) (fun _ _ _ _ _ => ts_nil) (fun _ _ _ _ _ => (so_ofN (sn_comp rfl nd (own := [("one", 5), ("other", 6)]) rfl (si_val (g := (G.mk K fa ca TT)) (so_var (i := 2) rfl (by first | exact Or.inl rfl | exact Or.inr (Or.inl rfl) | exact Or.inr (Or.inr rfl)))) (blkOk_by (by kernel_rfl)) (fun _ _ _ _ _ => (sg_tup (g := (G.mk K fa ca TT)) rfl (sg_cons (sg_name (i := 5) (by decide) nd rfl (by first | exact Or.inl rfl | exact Or.inr rfl)) (sg_cons (sg_name (i := 6) (by decide) nd rfl (by first | exact Or.inl rfl | exact Or.inr rfl)) sg_nil)) (gCons_len (gCons_len gNil_len)))) (fun _ _ _ _ _ => ts_nil) (fun _ _ _ _ _ => (so_cmp (g := (G.mk K fa ca TT)) (so_ge hu) (so_op (g := (G.mk K fa ca TT)) so_mul (so_def (g := (G.mk K fa ca TT)) T.d_turn_of hr rfl T.m_turn_of Sd.takes0 (sa_cons (so_var (i := 5) rfl (by first | exact Or.inl rfl | exact Or.inr (Or.inl rfl) | exact Or.inr (Or.inr rfl))) (sa_cons (so_var (i := 6) rfl (by first | exact Or.inl rfl | exact Or.inr (Or.inl rfl) | exact Or.inr (Or.inr rfl))) (sa_cons (so_var (i := 4) rfl (by first | exact Or.inl rfl | exact Or.inr (Or.inl rfl) | exact Or.inr (Or.inr rfl))) sa_nil)))) (so_var (i := 1) rfl (by first | exact Or.inl rfl | exact Or.inr (Or.inl rfl) | exact Or.inr (Or.inr rfl)))) so_int (nomark _)))))) | exact (ss_asg (i := 3) nd rfl (by first | exact Or.inl rfl | exact Or.inr rfl) (so_ofN (sn_comp rfl nd (own := [("spot", 4)]) rfl (si_val (g := (G.mk K fa ca TT)) (so_var (i := 0) rfl (by first | exact Or.inl rfl | exact Or.inr (Or.inl rfl) | exact Or.inr (Or.inr rfl)))) (blkOk_by (by kernel_rfl)) (fun _ _ _ _ _ => (sg_name (i := 4) (by decide) nd rfl (by first | exact Or.inl rfl | exact Or.inr rfl))) (fun _ _ _ _ _ => ts_nil) (fun _ _ _ _ _ => (so_ofN (sn_comp rfl nd (own := [("one", 5), ("other", 6)]) rfl (si_val (g := (G.mk K fa ca TT)) (so_var (i := 2) rfl (by first | exact Or.inl rfl | exact Or.inr (Or.inl rfl) | exact Or.inr (Or.inr rfl)))) (blkOk_by (by kernel_rfl)) (fun _ _ _ _ _ => (sg_tup (g := (G.mk K fa ca TT)) rfl (sg_cons (sg_name (i := 5) (by decide) nd rfl (by first | exact Or.inl rfl | exact Or.inr rfl)) (sg_cons (sg_name (i := 6) (by decide) nd rfl (by first | exact Or.inl rfl | exact Or.inr rfl)) sg_nil)) (gCons_len (gCons_len gNil_len)))) (fun _ _ _ _ _ => ts_nil) (fun _ _ _ _ _ => (so_cmp (g := (G.mk K fa ca TT)) (so_ge hu) (so_op (g := (G.mk K fa ca TT)) so_mul (so_def (g := (G.mk K fa ca TT)) T.d_turn_of hr rfl T.m_turn_of Sd.takes0 (sa_cons (so_var (i := 5) rfl (by first | exact Or.inl rfl | exact Or.inr (Or.inl rfl) | exact Or.inr (Or.inr rfl))) (sa_cons (so_var (i := 6) rfl (by first | exact Or.inl rfl | exact Or.inr (Or.inl rfl) | exact Or.inr (Or.inr rfl))) (sa_cons (so_var (i := 4) rfl (by first | exact Or.inl rfl | exact Or.inr (Or.inl rfl) | exact Or.inr (Or.inr rfl))) sa_nil)))) (so_var (i := 1) rfl (by first | exact Or.inl rfl | exact Or.inr (Or.inl rfl) | exact Or.inr (Or.inr rfl)))) so_int (nomark _)))))))))) (ss_one (ss_ret (so_call1T (g := (G.mk K fa ca TT)) (sc_tuple) rfl T.z_tuple rfl (so_ofN (sn_comp rfl nd (own := [("at", 7), ("row", 8)]) rfl (si_enum (g := (G.mk K fa ca TT)) rfl T.z_enumerate (so_var (i := 3) rfl (by first | exact Or.inl rfl | exact Or.inr (Or.inl rfl) | exact Or.inr (Or.inr rfl)))) (blkOk_by (by kernel_rfl)) (fun _ _ _ _ _ => (sg_tup (g := (G.mk K fa ca TT)) rfl (sg_cons (sg_name (i := 7) (by decide) nd rfl (by first | exact Or.inl rfl | exact Or.inr rfl)) (sg_cons (sg_name (i := 8) (by decide) nd rfl (by first | exact Or.inl rfl | exact Or.inr rfl)) sg_nil)) (gCons_len (gCons_len gNil_len)))) (fun _ _ _ _ _ => (ts_one (st_val (g := (G.mk K fa ca TT)) (so_call1 (g := (G.mk K fa ca TT)) (sc_all rfl) rfl T.z_all rfl (so_var (i := 8) rfl (by first | exact Or.inl rfl | exact Or.inr (Or.inl rfl) | exact Or.inr (Or.inr rfl))))))) (fun _ _ _ _ _ => (so_var (i := 7) rfl (by first | exact Or.inl rfl | exact Or.inr (Or.inl rfl) | exact Or.inr (Or.inr rfl)))))))))))))
theorem b_ears (cdv : Value) (A : Around) (outer : List Env) (s : Shared) (H : Hp) (E : XK) (fad : Addr) (hr2 : Room (k + 2) (CxD P w K mg base ["outline", "at"] "ears" (top 38) fad cdv A outer s H E).A) :
    PSs (CxD P w K mg base ["outline", "at"] "ears" (top 38) fad cdv A outer s H E) (defBody (top 38)) (tS (G.mk K fa ca TT) Fx.none (fun cls d _ H => E cls d H) cf Py.f_ears) := by
  have hr : Room k (CxD P w K mg base ["outline", "at"] "ears" (top 38) fad cdv A outer s H E).A := hr2.mono (by omega)
  have hu := hr.units
  have nd : (["outline", "at"] : List Str).Nodup := by decide +kernel
  have tk : L2N.Takes (CxD P w K mg base ["outline", "at"] "ears" (top 38) fad cdv A outer s H E) (fun cls d _ H => E cls d H) := L2N.takes_of rfl rfl rfl rfl
  have hp := passes_of (X := (CxD P w K mg base ["outline", "at"] "ears" (top 38) fad cdv A outer s H E)) rfl
  unfold Py.f_ears
  exact (ss_cons (ss_expr (so_def (g := (G.mk K fa ca TT)) T.d_need_outline hr rfl T.m_need_outline tk (sa_cons (so_var (i := 0) rfl (by first | exact Or.inl rfl | exact Or.inr (Or.inl rfl) | exact Or.inr (Or.inr rfl))) sa_nil))) (ss_one (ss_ret (so_call1T (g := (G.mk K fa ca TT)) (sc_tuple) rfl T.z_tuple rfl (so_ofN (sn_comp rfl nd (own := [("at", 1)]) rfl (si_rng1 rfl T.z_range (so_call1 (g := (G.mk K fa ca TT)) (sc_len) rfl T.z_len rfl (so_var (i := 0) rfl (by first | exact Or.inl rfl | exact Or.inr (Or.inl rfl) | exact Or.inr (Or.inr rfl))))) (blkOk_by (by kernel_rfl)) (fun _ _ _ _ _ => (sg_name (i := 1) (by decide) nd rfl (by first | exact Or.inl rfl | exact Or.inr rfl))) (fun _ _ _ _ _ => (ts_one (st_val (g := (G.mk K fa ca TT)) (so_def (g := (G.mk K fa ca TT)) T.d_is_ear hr rfl T.m_is_ear Sd.takes0 (sa_cons (so_var (i := 0) rfl (by first | exact Or.inl rfl | exact Or.inr (Or.inl rfl) | exact Or.inr (Or.inr rfl))) (sa_cons (so_var (i := 1) rfl (by first | exact Or.inl rfl | exact Or.inr (Or.inl rfl) | exact Or.inr (Or.inr rfl))) sa_nil)))))) (fun _ _ _ _ _ => (so_var (i := 1) rfl (by first | exact Or.inl rfl | exact Or.inr (Or.inl rfl) | exact Or.inr (Or.inr rfl))))))))))
theorem b_cut_off (cdv : Value) (A : Around) (outer : List Env) (s : Shared) (H : Hp) (E : XK) (fad : Addr) (hr2 : Room (k + 2) (CxD P w K mg base ["outline", "at"] "cut_off" (top 39) fad cdv A outer s H E).A) :
    PSs (CxD P w K mg base ["outline", "at"] "cut_off" (top 39) fad cdv A outer s H E) (defBody (top 39)) (tS (G.mk K fa ca TT) Fx.none (fun cls d _ H => E cls d H) cf Py.f_cut_off) := by
  have hr : Room k (CxD P w K mg base ["outline", "at"] "cut_off" (top 39) fad cdv A outer s H E).A := hr2.mono (by omega)
  have hu := hr.units
  have nd : (["outline", "at"] : List Str).Nodup := by decide +kernel
  have tk : L2N.Takes (CxD P w K mg base ["outline", "at"] "cut_off" (top 39) fad cdv A outer s H E) (fun cls d _ H => E cls d H) := L2N.takes_of rfl rfl rfl rfl
  have hp := passes_of (X := (CxD P w K mg base ["outline", "at"] "cut_off" (top 39) fad cdv A outer s H E)) rfl
  unfold Py.f_cut_off
  exact (ss_cons (ss_expr (so_def (g := (G.mk K fa ca TT)) T.d_need_outline hr rfl T.m_need_outline tk (sa_cons (so_var (i := 0) rfl (by first | exact Or.inl rfl | exact Or.inr (Or.inl rfl) | exact Or.inr (Or.inr rfl))) sa_nil))) (ss_cons (ss_if (st_not (st_val (g := (G.mk K fa ca TT)) (so_def (g := (G.mk K fa ca TT)) T.d_fits_whole hr rfl T.m_fits_whole tk (sa_cons (so_var (i := 1) rfl (by first | exact Or.inl rfl | exact Or.inr (Or.inl rfl) | exact Or.inr (Or.inr rfl))) (sa_cons so_int (sa_cons (so_op (g := (G.mk K fa ca TT)) so_sub (so_call1 (g := (G.mk K fa ca TT)) (sc_len) rfl T.z_len rfl (so_var (i := 0) rfl (by first | exact Or.inl rfl | exact Or.inr (Or.inl rfl) | exact Or.inr (Or.inr rfl)))) so_int) sa_nil)))))) (ss_one (ss_raise (g := (G.mk K fa ca TT)) (cn := 4) rfl tk T.x_InvalidNumber.1 T.n_InvalidNumber T.x_InvalidNumber.2.1 T.x_InvalidNumber.2.2.1 T.x_InvalidNumber.2.2.2 rfl)) ss_nil) (ss_cons (ss_if (st_not (st_val (g := (G.mk K fa ca TT)) (so_def (g := (G.mk K fa ca TT)) T.d_is_ear hr rfl T.m_is_ear tk (sa_cons (so_var (i := 0) rfl (by first | exact Or.inl rfl | exact Or.inr (Or.inl rfl) | exact Or.inr (Or.inr rfl))) (sa_cons (so_var (i := 1) rfl (by first | exact Or.inl rfl | exact Or.inr (Or.inl rfl) | exact Or.inr (Or.inr rfl))) sa_nil))))) (ss_one (ss_raise (g := (G.mk K fa ca TT)) (cn := 3) rfl tk T.x_InvalidPlan.1 T.n_InvalidPlan T.x_InvalidPlan.2.1 T.x_InvalidPlan.2.2.1 T.x_InvalidPlan.2.2.2 rfl)) ss_nil) (ss_one (ss_ret (so_op (g := (G.mk K fa ca TT)) so_add (so_ofN (sn_cut (g := (G.mk K fa ca TT)) (so_var (i := 0) rfl (by first | exact Or.inl rfl | exact Or.inr (Or.inl rfl) | exact Or.inr (Or.inr rfl))) sp_none (sp_some (so_var (i := 1) rfl (by first | exact Or.inl rfl | exact Or.inr (Or.inl rfl) | exact Or.inr (Or.inr rfl)))))) (so_ofN (sn_cut (g := (G.mk K fa ca TT)) (so_var (i := 0) rfl (by first | exact Or.inl rfl | exact Or.inr (Or.inl rfl) | exact Or.inr (Or.inr rfl))) (sp_some (so_op (g := (G.mk K fa ca TT)) so_add (so_var (i := 1) rfl (by first | exact Or.inl rfl | exact Or.inr (Or.inl rfl) | exact Or.inr (Or.inr rfl))) so_int)) sp_none))))))))
theorem b__law_cup (cdv : Value) (A : Around) (outer : List Env) (s : Shared) (H : Hp) (E : XK) (fad : Addr) (hr2 : Room (k + 2) (CxD P w K mg base ["script", "cell"] "_law_cup" (top 41) fad cdv A outer s H E).A) :
    PSs (CxD P w K mg base ["script", "cell"] "_law_cup" (top 41) fad cdv A outer s H E) (defBody (top 41)) (tS (G.mk K fa ca TT) Fx.none (fun cls d _ H => E cls d H) cf Py.f__law_cup) := by
  have hr : Room k (CxD P w K mg base ["script", "cell"] "_law_cup" (top 41) fad cdv A outer s H E).A := hr2.mono (by omega)
  have hu := hr.units
  have nd : (["script", "cell"] : List Str).Nodup := by decide +kernel
  have tk : L2N.Takes (CxD P w K mg base ["script", "cell"] "_law_cup" (top 41) fad cdv A outer s H E) (fun cls d _ H => E cls d H) := L2N.takes_of rfl rfl rfl rfl
  have hp := passes_of (X := (CxD P w K mg base ["script", "cell"] "_law_cup" (top 41) fad cdv A outer s H E)) rfl
  unfold Py.f__law_cup
  exact (ss_cons (ss_asg (i := 1) nd rfl (by first | exact Or.inl rfl | exact Or.inr rfl) (so_call1 (g := (G.mk K fa ca TT)) (sc_abs) rfl T.z_abs rfl (so_item (g := (G.mk K fa ca TT)) (fun _ _ => rfl) (so_op (g := (G.mk K fa ca TT)) so_add (so_ofN (sn_listZ (g := (G.mk K fa ca TT)) rfl T.z_list rfl (by first | exact Or.inl rfl | exact Or.inr (Or.inl rfl) | exact Or.inr (Or.inr rfl)))) (so_ofN (sn_lst (g := (G.mk K fa ca TT)) (sa_cons so_int sa_nil)))) so_int))) (ss_one (ss_ret (so_f (sn_lst (g := (G.mk K fa ca TT)) (sa_cons (so_ife (st_cmp (g := (G.mk K fa ca TT)) (so_ge hu) (so_var (i := 1) rfl (by first | exact Or.inl rfl | exact Or.inr (Or.inl rfl) | exact Or.inr (Or.inr rfl))) (so_op (g := (G.mk K fa ca TT)) so_pow so_int so_int) (nomark _)) (so_op (g := (G.mk K fa ca TT)) so_fdiv (so_var (i := 1) rfl (by first | exact Or.inl rfl | exact Or.inr (Or.inl rfl) | exact Or.inr (Or.inr rfl))) so_int) so_int) (sa_cons (so_op (g := (G.mk K fa ca TT)) so_add (so_op (g := (G.mk K fa ca TT)) so_mod (so_call1T (g := (G.mk K fa ca TT)) (sc_int) rfl T.z_int rfl (so_op (g := (G.mk K fa ca TT)) so_add (so_op (g := (G.mk K fa ca TT)) so_mul (so_var (i := 1) rfl (by first | exact Or.inl rfl | exact Or.inr (Or.inl rfl) | exact Or.inr (Or.inr rfl))) so_int) so_int)) so_int) so_int) sa_nil)))))))
theorem b__law_roll (cdv : Value) (A : Around) (outer : List Env) (s : Shared) (H : Hp) (E : XK) (fad : Addr) (hr2 : Room (k + 2) (CxD P w K mg base ["cup", "many", "deep", "found"] "_law_roll" (top 42) fad cdv A outer s H E).A) :
    PSs (CxD P w K mg base ["cup", "many", "deep", "found"] "_law_roll" (top 42) fad cdv A outer s H E) (defBody (top 42)) (tS (G.mk K fa ca TT) Fx.none (fun cls d _ H => E cls d H) cf Py.f__law_roll) := by
  have hr : Room k (CxD P w K mg base ["cup", "many", "deep", "found"] "_law_roll" (top 42) fad cdv A outer s H E).A := hr2.mono (by omega)
  have hu := hr.units
  have nd : (["cup", "many", "deep", "found"] : List Str).Nodup := by decide +kernel
  have tk : L2N.Takes (CxD P w K mg base ["cup", "many", "deep", "found"] "_law_roll" (top 42) fad cdv A outer s H E) (fun cls d _ H => E cls d H) := L2N.takes_of rfl rfl rfl rfl
  have hp := passes_of (X := (CxD P w K mg base ["cup", "many", "deep", "found"] "_law_roll" (top 42) fad cdv A outer s H E)) rfl
  unfold Py.f__law_roll
  exact (ss_cons (ss_if (st_cmp (g := (G.mk K fa ca TT)) (so_gt hu) (so_item (g := (G.mk K fa ca TT)) (fun _ _ => rfl) (so_var (i := 0) rfl (by first | exact Or.inl rfl | exact Or.inr (Or.inl rfl) | exact Or.inr (Or.inr rfl))) so_int) so_int (nomark _)) (ss_cons (ss_asg (i := 3) nd rfl (by first | exact Or.inl rfl | exact Or.inr rfl) (so_op (g := (G.mk K fa ca TT)) so_mod (so_call1T (g := (G.mk K fa ca TT)) (sc_int) rfl T.z_int rfl (so_item (g := (G.mk K fa ca TT)) (fun _ _ => rfl) (so_var (i := 0) rfl (by first | exact Or.inl rfl | exact Or.inr (Or.inl rfl) | exact Or.inr (Or.inr rfl))) so_int)) (so_var (i := 1) rfl (by first | exact Or.inl rfl | exact Or.inr (Or.inl rfl) | exact Or.inr (Or.inr rfl))))) (ss_cons (ss_setI (g := (G.mk K fa ca TT)) (i := 0) rfl (by first | exact Or.inl rfl | exact Or.inr (Or.inl rfl) | exact Or.inr (Or.inr rfl)) so_int (so_op (g := (G.mk K fa ca TT)) so_fdiv (so_item (g := (G.mk K fa ca TT)) (fun _ _ => rfl) (so_var (i := 0) rfl (by first | exact Or.inl rfl | exact Or.inr (Or.inl rfl) | exact Or.inr (Or.inr rfl))) so_int) (so_var (i := 1) rfl (by first | exact Or.inl rfl | exact Or.inr (Or.inl rfl) | exact Or.inr (Or.inr rfl))))) (ss_one (ss_ret (so_var (i := 3) rfl (by first | exact Or.inl rfl | exact Or.inr (Or.inl rfl) | exact Or.inr (Or.inr rfl))))))) ss_nil) (ss_cons (ss_setI (g := (G.mk K fa ca TT)) (i := 0) rfl (by first | exact Or.inl rfl | exact Or.inr (Or.inl rfl) | exact Or.inr (Or.inr rfl)) so_int (so_op (g := (G.mk K fa ca TT)) so_mod (so_call1T (g := (G.mk K fa ca TT)) (sc_int) rfl T.z_int rfl (so_op (g := (G.mk K fa ca TT)) so_add (so_op (g := (G.mk K fa ca TT)) so_mul (so_item (g := (G.mk K fa ca TT)) (fun _ _ => rfl) (so_var (i := 0) rfl (by first | exact Or.inl rfl | exact Or.inr (Or.inl rfl) | exact Or.inr (Or.inr rfl))) so_int) so_int) so_int)) so_int)) (ss_cons (ss_asg (i := 2) nd rfl (by first | exact Or.inl rfl | exact Or.inr rfl) (so_op (g := (G.mk K fa ca TT)) so_mod (so_call1T (g := (G.mk K fa ca TT)) (sc_int) rfl T.z_int rfl (so_op (g := (G.mk K fa ca TT)) so_mul (so_item (g := (G.mk K fa ca TT)) (fun _ _ => rfl) (so_var (i := 0) rfl (by first | exact Or.inl rfl | exact Or.inr (Or.inl rfl) | exact Or.inr (Or.inr rfl))) so_int) (so_op (g := (G.mk K fa ca TT)) so_add (so_item (g := (G.mk K fa ca TT)) (fun _ _ => rfl) (so_var (i := 0) rfl (by first | exact Or.inl rfl | exact Or.inr (Or.inl rfl) | exact Or.inr (Or.inr rfl))) so_int) so_int))) so_int)) (ss_one (ss_ret (so_op (g := (G.mk K fa ca TT)) so_mod (so_call1T (g := (G.mk K fa ca TT)) (sc_int) rfl T.z_int rfl (so_op (g := (G.mk K fa ca TT)) so_fdiv (so_var (i := 2) rfl (by first | exact Or.inl rfl | exact Or.inr (Or.inl rfl) | exact Or.inr (Or.inr rfl))) so_int)) (so_var (i := 1) rfl (by first | exact Or.inl rfl | exact Or.inr (Or.inl rfl) | exact Or.inr (Or.inr rfl)))))))))
theorem b__law_some (cdv : Value) (A : Around) (outer : List Env) (s : Shared) (H : Hp) (E : XK) (fad : Addr) (hr2 : Room (k + 2) (CxD P w K mg base ["cup", "things"] "_law_some" (top 43) fad cdv A outer s H E).A) :
    PSs (CxD P w K mg base ["cup", "things"] "_law_some" (top 43) fad cdv A outer s H E) (defBody (top 43)) (tS (G.mk K fa ca TT) Fx.none (fun cls d _ H => E cls d H) cf Py.f__law_some) := by
  have hr : Room k (CxD P w K mg base ["cup", "things"] "_law_some" (top 43) fad cdv A outer s H E).A := hr2.mono (by omega)
  have hu := hr.units
  have nd : (["cup", "things"] : List Str).Nodup := by decide +kernel
  have tk : L2N.Takes (CxD P w K mg base ["cup", "things"] "_law_some" (top 43) fad cdv A outer s H E) (fun cls d _ H => E cls d H) := L2N.takes_of rfl rfl rfl rfl
  have hp := passes_of (X := (CxD P w K mg base ["cup", "things"] "_law_some" (top 43) fad cdv A outer s H E)) rfl
  unfold Py.f__law_some
  exact (ss_one (ss_ret (so_item (g := (G.mk K fa ca TT)) (fun _ _ => rfl) (so_var (i := 1) rfl (by first | exact Or.inl rfl | exact Or.inr (Or.inl rfl) | exact Or.inr (Or.inr rfl))) (so_def (g := (G.mk K fa ca TT)) T.d__law_roll hr rfl T.m__law_roll tk (sa_cons (so_var (i := 0) rfl (by first | exact Or.inl rfl | exact Or.inr (Or.inl rfl) | exact Or.inr (Or.inr rfl))) (sa_cons (so_call1 (g := (G.mk K fa ca TT)) (sc_len) rfl T.z_len rfl (so_var (i := 1) rfl (by first | exact Or.inl rfl | exact Or.inr (Or.inl rfl) | exact Or.inr (Or.inr rfl)))) sa_nil))))))
theorem b__law_same (cdv : Value) (A : Around) (outer : List Env) (s : Shared) (H : Hp) (E : XK) (fad : Addr) (hr2 : Room (k + 2) (CxD P w K mg base ["told", "due", "at"] "_law_same" (top 44) fad cdv A outer s H E).A) :
    PSs (CxD P w K mg base ["told", "due", "at"] "_law_same" (top 44) fad cdv A outer s H E) (defBody (top 44)) (tS (G.mk K fa ca TT) Fx.none (fun cls d _ H => E cls d H) cf Py.f__law_same) := by
  have hr : Room k (CxD P w K mg base ["told", "due", "at"] "_law_same" (top 44) fad cdv A outer s H E).A := hr2.mono (by omega)
  have hu := hr.units
  have nd : (["told", "due", "at"] : List Str).Nodup := by decide +kernel
  have tk : L2N.Takes (CxD P w K mg base ["told", "due", "at"] "_law_same" (top 44) fad cdv A outer s H E) (fun cls d _ H => E cls d H) := L2N.takes_of rfl rfl rfl rfl
  have hp := passes_of (X := (CxD P w K mg base ["told", "due", "at"] "_law_same" (top 44) fad cdv A outer s H E)) rfl
  unfold Py.f__law_same
  exact (ss_cons (ss_if (st_val (g := (G.mk K fa ca TT)) (so_isi (g := (G.mk K fa ca TT)) rfl T.z_isinstance rfl T.z_tuple rfl (by decide) (by decide) (so_var (i := 1) rfl (by first | exact Or.inl rfl | exact Or.inr (Or.inl rfl) | exact Or.inr (Or.inr rfl))))) (ss_cons (ss_if (st_bool (sw_or (st_not (st_val (g := (G.mk K fa ca TT)) (so_isi (g := (G.mk K fa ca TT)) rfl T.z_isinstance rfl T.z_tuple rfl (by decide) (by decide) (so_var (i := 0) rfl (by first | exact Or.inl rfl | exact Or.inr (Or.inl rfl) | exact Or.inr (Or.inr rfl)))))) (sw_or1 (st_cmp (g := (G.mk K fa ca TT)) (so_ne hu) (so_call1 (g := (G.mk K fa ca TT)) (sc_len) rfl T.z_len rfl (so_var (i := 0) rfl (by first | exact Or.inl rfl | exact Or.inr (Or.inl rfl) | exact Or.inr (Or.inr rfl)))) (so_call1 (g := (G.mk K fa ca TT)) (sc_len) rfl T.z_len rfl (so_var (i := 1) rfl (by first | exact Or.inl rfl | exact Or.inr (Or.inl rfl) | exact Or.inr (Or.inr rfl)))) (nomark _))))) (ss_one (ss_ret so_bl)) ss_nil) (ss_one (ss_ret (so_call1 (g := (G.mk K fa ca TT)) (sc_all rfl) rfl T.z_all rfl (so_ofN (sn_comp rfl nd (own := [("at", 2)]) rfl (si_rng1 rfl T.z_range (so_call1 (g := (G.mk K fa ca TT)) (sc_len) rfl T.z_len rfl (so_var (i := 1) rfl (by first | exact Or.inl rfl | exact Or.inr (Or.inl rfl) | exact Or.inr (Or.inr rfl))))) (blkOk_by (by kernel_rfl)) (fun _ _ _ _ _ => (sg_name (i := 2) (by decide) nd rfl (by first | exact Or.inl rfl | exact Or.inr rfl))) (fun _ _ _ _ _ => ts_nil) (fun _ _ _ _ _ => (so_def (g := (G.mk K fa ca TT)) T.d__law_same hr rfl T.m__law_same Sd.takes0 (sa_cons (so_item (g := (G.mk K fa ca TT)) (fun _ _ => rfl) (so_var (i := 0) rfl (by first | exact Or.inl rfl | exact Or.inr (Or.inl rfl) | exact Or.inr (Or.inr rfl))) (so_var (i := 2) rfl (by first | exact Or.inl rfl | exact Or.inr (Or.inl rfl) | exact Or.inr (Or.inr rfl)))) (sa_cons (so_item (g := (G.mk K fa ca TT)) (fun _ _ => rfl) (so_var (i := 1) rfl (by first | exact Or.inl rfl | exact Or.inr (Or.inl rfl) | exact Or.inr (Or.inr rfl))) (so_var (i := 2) rfl (by first | exact Or.inl rfl | exact Or.inr (Or.inl rfl) | exact Or.inr (Or.inr rfl)))) sa_nil)))))))))) ss_nil) (ss_cons (ss_if (st_cmp (g := (G.mk K fa ca TT)) so_is (so_var (i := 1) rfl (by first | exact Or.inl rfl | exact Or.inr (Or.inl rfl) | exact Or.inr (Or.inr rfl))) so_non (nomark _)) (ss_one (ss_ret (so_cmp (g := (G.mk K fa ca TT)) so_is (so_var (i := 0) rfl (by first | exact Or.inl rfl | exact Or.inr (Or.inl rfl) | exact Or.inr (Or.inr rfl))) so_non (nomark _)))) ss_nil) (ss_cons (ss_if (st_val (g := (G.mk K fa ca TT)) (so_isi (g := (G.mk K fa ca TT)) rfl T.z_isinstance rfl T.z_bool rfl (by decide) (by decide) (so_var (i := 1) rfl (by first | exact Or.inl rfl | exact Or.inr (Or.inl rfl) | exact Or.inr (Or.inr rfl))))) (ss_one (ss_ret (so_ife (st_val (g := (G.mk K fa ca TT)) (so_var (i := 1) rfl (by first | exact Or.inl rfl | exact Or.inr (Or.inl rfl) | exact Or.inr (Or.inr rfl)))) (so_cmp (g := (G.mk K fa ca TT)) so_is (so_var (i := 0) rfl (by first | exact Or.inl rfl | exact Or.inr (Or.inl rfl) | exact Or.inr (Or.inr rfl))) so_bl (nomark _)) (so_cmp (g := (G.mk K fa ca TT)) so_is (so_var (i := 0) rfl (by first | exact Or.inl rfl | exact Or.inr (Or.inl rfl) | exact Or.inr (Or.inr rfl))) so_bl (nomark _))))) ss_nil) (ss_cons (ss_if (st_val (g := (G.mk K fa ca TT)) (so_isi (g := (G.mk K fa ca TT)) rfl T.z_isinstance rfl T.z_int rfl (by decide) (by decide) (so_var (i := 1) rfl (by first | exact Or.inl rfl | exact Or.inr (Or.inl rfl) | exact Or.inr (Or.inr rfl))))) (ss_one (ss_ret (so_and (g := (G.mk K fa ca TT)) (so_isi (g := (G.mk K fa ca TT)) rfl T.z_isinstance rfl T.z_int rfl (by decide) (by decide) (so_var (i := 0) rfl (by first | exact Or.inl rfl | exact Or.inr (Or.inl rfl) | exact Or.inr (Or.inr rfl)))) (so_and (g := (G.mk K fa ca TT)) (so_not (g := (G.mk K fa ca TT)) (so_isi (g := (G.mk K fa ca TT)) rfl T.z_isinstance rfl T.z_bool rfl (by decide) (by decide) (so_var (i := 0) rfl (by first | exact Or.inl rfl | exact Or.inr (Or.inl rfl) | exact Or.inr (Or.inr rfl))))) (so_one (so_cmp (g := (G.mk K fa ca TT)) (so_eq hu) (so_call1T (g := (G.mk K fa ca TT)) (sc_int) rfl T.z_int rfl (so_var (i := 0) rfl (by first | exact Or.inl rfl | exact Or.inr (Or.inl rfl) | exact Or.inr (Or.inr rfl)))) (so_var (i := 1) rfl (by first | exact Or.inl rfl | exact Or.inr (Or.inl rfl) | exact Or.inr (Or.inr rfl))) (nomark _))))))) ss_nil) (ss_one (ss_ret (so_and (g := (G.mk K fa ca TT)) (so_isi (g := (G.mk K fa ca TT)) rfl T.z_isinstance rfl T.z_str rfl (by decide) (by decide) (so_var (i := 0) rfl (by first | exact Or.inl rfl | exact Or.inr (Or.inl rfl) | exact Or.inr (Or.inr rfl)))) (so_one (so_cmp (g := (G.mk K fa ca TT)) (so_eq hu) (so_call1T (g := (G.mk K fa ca TT)) (sc_str) rfl T.z_str rfl (so_var (i := 0) rfl (by first | exact Or.inl rfl | exact Or.inr (Or.inl rfl) | exact Or.inr (Or.inr rfl)))) (so_var (i := 1) rfl (by first | exact Or.inl rfl | exact Or.inr (Or.inl rfl) | exact Or.inr (Or.inr rfl))) (nomark _))))))))))
theorem b__law_word (c : Fx) (hnx : ∀ M x v H, ¬ c.C M (.ex x) v H) (cdv : Value) (A : Around) (outer : List Env) (s : Shared) (H : Hp) (E : XK) (fad : Addr) (hr2 : Room (k + 2) (CxD P w K mg base ["call", "error", "kinds", "words", "word", "good"] "_law_word" (top 45) fad cdv A outer s H E).A) (act : ∀ (W : WX) (pn : List (Addr × Obj)) (xe : Value → Shared → Prop) (p1 p2 : Pos), L2N.Takes ((CxD P w K mg base ["call", "error", "kinds", "words", "word", "good"] "_law_word" (top 45) fad cdv A outer s H E).tr pn xe) W → PE ((CxD P w K mg base ["call", "error", "kinds", "words", "word", "good"] "_law_word" (top 45) fad cdv A outer s H E).tr pn xe) (.Call (.Name "call" p1) [] [] p2) (tD (G.mk K fa ca TT) c W cf (Py.eCallC 0))) :
    PSs (CxD P w K mg base ["call", "error", "kinds", "words", "word", "good"] "_law_word" (top 45) fad cdv A outer s H E) (defBody (top 45)) (tS (G.mk K fa ca TT) c (fun cls d _ H => E cls d H) cf Py.f__law_word) := by
  have hr : Room k (CxD P w K mg base ["call", "error", "kinds", "words", "word", "good"] "_law_word" (top 45) fad cdv A outer s H E).A := hr2.mono (by omega)
  have hu := hr.units
  have nd : (["call", "error", "kinds", "words", "word", "good"] : List Str).Nodup := by decide +kernel
  have tk : L2N.Takes (CxD P w K mg base ["call", "error", "kinds", "words", "word", "good"] "_law_word" (top 45) fad cdv A outer s H E) (fun cls d _ H => E cls d H) := L2N.takes_of rfl rfl rfl rfl
  have hp := passes_of (X := (CxD P w K mg base ["call", "error", "kinds", "words", "word", "good"] "_law_word" (top 45) fad cdv A outer s H E)) rfl
  unfold Py.f__law_word
  exact (ss_cons (ss_try1 (X := (CxD P w K mg base ["call", "error", "kinds", "words", "word", "good"] "_law_word" (top 45) fad cdv A outer s H E)) (nc := 5) (cs := [0, 1, 2, 3, 4]) rfl rfl nd rfl rfl ⟨rfl, by decide, .inl T.n_LeadError⟩ tk T.e_LeadError (fun W pn xe tk hp => (ss_one (ss_expr (act _ _ _ _ _ tk)))) (fun a oe x0 d pn h0 hd hz hv => have hot := hot_suite (X := (CxD P w K mg base ["call", "error", "kinds", "words", "word", "good"] "_law_word" (top 45) fad cdv A outer s H E)) (pn := pn) hz hv; have tk : L2N.Takes ((CxD P w K mg base ["call", "error", "kinds", "words", "word", "good"] "_law_word" (top 45) fad cdv A outer s H E).suite a ((a, oe) :: pn)) WNo := takes0; (ss_cons (ss_new (i := 2) nd rfl (by first | exact Or.inl rfl | exact Or.inr rfl) (so_f (sn_lst (g := (G.mk K fa ca TT)) (sa_cons (so_isx (X := (CxD P w K mg base ["call", "error", "kinds", "words", "word", "good"] "_law_word" (top 45) fad cdv A outer s H E)) (nc := 5) (cs := [2]) (i := 1) (cv := .ref (ca 2)) hnx h0 hd hz hv T.exc T.k_InvalidRound (fun _ h => h) rfl T.z_isinstance rfl (by first | exact Or.inl rfl | exact Or.inr (Or.inl rfl) | exact Or.inr (Or.inr rfl)) (pe_glob rfl T.n_InvalidRound rfl)) (sa_cons (so_isx (X := (CxD P w K mg base ["call", "error", "kinds", "words", "word", "good"] "_law_word" (top 45) fad cdv A outer s H E)) (nc := 5) (cs := [1]) (i := 1) (cv := .ref (ca 1)) hnx h0 hd hz hv T.exc T.k_InvalidSpot (fun _ h => h) rfl T.z_isinstance rfl (by first | exact Or.inl rfl | exact Or.inr (Or.inl rfl) | exact Or.inr (Or.inr rfl)) (pe_glob rfl T.n_InvalidSpot rfl)) (sa_cons (so_isx (X := (CxD P w K mg base ["call", "error", "kinds", "words", "word", "good"] "_law_word" (top 45) fad cdv A outer s H E)) (nc := 5) (cs := [3]) (i := 1) (cv := .ref (ca 3)) hnx h0 hd hz hv T.exc T.k_InvalidPlan (fun _ h => h) rfl T.z_isinstance rfl (by first | exact Or.inl rfl | exact Or.inr (Or.inl rfl) | exact Or.inr (Or.inr rfl)) (pe_glob rfl T.n_InvalidPlan rfl)) sa_nil)))))) (ss_cons (ss_expr (so_upL1 (g := (G.mk K fa ca TT)) (i := 2) PySem.F.plainAttrs_list PySem.F.slot_list_append PySem.F.type_list_append ml_append rfl (by first | exact Or.inl rfl | exact Or.inr (Or.inl rfl) | exact Or.inr (Or.inr rfl)) (so_isx (X := (CxD P w K mg base ["call", "error", "kinds", "words", "word", "good"] "_law_word" (top 45) fad cdv A outer s H E)) (nc := 5) (cs := [4]) (i := 1) (cv := .ref (ca 4)) hnx h0 hd hz hv T.exc T.k_InvalidNumber (fun _ h => h) rfl T.z_isinstance rfl (by first | exact Or.inl rfl | exact Or.inr (Or.inl rfl) | exact Or.inr (Or.inr rfl)) (pe_glob rfl T.n_InvalidNumber rfl)))) (ss_cons (ss_setLcH (k := 3) (own := [("word", 4), ("good", 5)]) hot nd rfl rfl rfl (sw_true rfl rfl rfl (by decide +kernel)) (si_zipH (g := (G.mk K fa ca TT)) rfl T.z_zip (so_tup (g := (G.mk K fa ca TT)) (sa_cons (so_str (by first | rfl | decide)) (sa_cons (so_str (by first | rfl | decide)) (sa_cons (so_str (by first | rfl | decide)) (sa_cons (so_str (by first | rfl | decide)) sa_nil))))) (so_var (i := 2) rfl (by first | exact Or.inl rfl | exact Or.inr (Or.inl rfl) | exact Or.inr (Or.inr rfl)))) (blkOk_by (by kernel_rfl)) (fun _ _ _ _ _ => (sg_tupH (g := (G.mk K fa ca TT)) hot (sg_cons (sg_name (i := 4) (by decide) nd rfl (by first | exact Or.inl rfl | exact Or.inr rfl)) (sg_cons (sg_name (i := 5) (by decide) nd rfl (by first | exact Or.inl rfl | exact Or.inr rfl)) sg_nil)) (gCons_len (gCons_len gNil_len)))) (fun _ _ _ _ _ => (ts_one (st_val (g := (G.mk K fa ca TT)) (so_var (i := 5) rfl (by first | exact Or.inl rfl | exact Or.inr (Or.inl rfl) | exact Or.inr (Or.inr rfl)))))) (fun _ _ _ _ _ => (so_var (i := 4) rfl (by first | exact Or.inl rfl | exact Or.inr (Or.inl rfl) | exact Or.inr (Or.inr rfl))))) (ss_one (ss_ret (so_ife (st_val (g := (G.mk K fa ca TT)) (so_isx (X := (CxD P w K mg base ["call", "error", "kinds", "words", "word", "good"] "_law_word" (top 45) fad cdv A outer s H E)) (nc := 5) (cs := [0, 1, 2, 3, 4]) (i := 1) (cv := .ty "ValueError") hnx h0 hd hz hv T.exc T.k_ValueError (fun _ h => h) rfl T.z_isinstance rfl (by first | exact Or.inl rfl | exact Or.inr (Or.inl rfl) | exact Or.inr (Or.inr rfl)) (pe_bltn (v := .ty "ValueError") rfl T.z_ValueError rfl rfl (by decide) (by decide)))) (so_join (g := (G.mk K fa ca TT)) (so_str (by first | rfl | decide)) (so_var (i := 3) rfl (by first | exact Or.inl rfl | exact Or.inr (Or.inl rfl) | exact Or.inr (Or.inr rfl)))) (so_str (by first | rfl | decide)))))))))) (ss_one (ss_ret (so_str (by first | rfl | decide)))))
theorem b__law_asked (cm Pm : Addr) (TB : LamX.TabB base mg cm Pm) (hmT : (Pm, (envOfC "_law_asked" (defScope (top 46)) 0 0 (.ref cm)).qual ++ "<lambda>") ∈ TT) (hqu : ∀ p ∈ TT, p.1 = Pm → p.2 = (envOfC "_law_asked" (defScope (top 46)) 0 0 (.ref cm)).qual ++ "<lambda>") (A : Around) (outer : List Env) (s : Shared) (H : Hp) (E : XK) (fad : Addr) (hr2 : Room (k + 2) (CxD P w K mg base ["outline", "one", "other", "at", "words", "call"] "_law_asked" (top 46) fad (.ref cm) A outer s H E).A) :
    PSs (CxD P w K mg base ["outline", "one", "other", "at", "words", "call"] "_law_asked" (top 46) fad (.ref cm) A outer s H E) (defBody (top 46)) (tS (G.mk K fa ca TT) Fx.none (fun cls d _ H => E cls d H) cf Py.f__law_asked) := by
  have hr : Room k (CxD P w K mg base ["outline", "one", "other", "at", "words", "call"] "_law_asked" (top 46) fad (.ref cm) A outer s H E).A := hr2.mono (by omega)
  have hu := hr.units
  have nd : (["outline", "one", "other", "at", "words", "call"] : List Str).Nodup := by decide +kernel
  have tk : L2N.Takes (CxD P w K mg base ["outline", "one", "other", "at", "words", "call"] "_law_asked" (top 46) fad (.ref cm) A outer s H E) (fun cls d _ H => E cls d H) := L2N.takes_of rfl rfl rfl rfl
  have hp := passes_of (X := (CxD P w K mg base ["outline", "one", "other", "at", "words", "call"] "_law_asked" (top 46) fad (.ref cm) A outer s H E)) rfl
  unfold Py.f__law_asked
  exact (ss_cons (by first | exact ss_newLc (k := 4) (own := [("call", 5)]) rfl nd rfl rfl rfl (sw_true rfl rfl rfl (by decide +kernel)) (si_val (g := (G.mk K fa ca TT)) (so_tup (g := (G.mk K fa ca TT)) (sa_cons (so_glob (v := .ref (fa 19)) rfl T.m_twice_area_of rfl (fun _ _ => .fn 19)) (sa_cons (so_glob (v := .ref (fa 20)) rfl T.m_corner_turns rfl (fun _ _ => .fn 20)) (sa_cons (so_glob (v := .ref (fa 21)) rfl T.m_is_bulging rfl (fun _ _ => .fn 21)) (sa_cons (so_glob (v := .ref (fa 27)) rfl T.m_corners_that_see rfl (fun _ _ => .fn 27)) (sa_cons (so_glob (v := .ref (fa 28)) rfl T.m_ears rfl (fun _ _ => .fn 28)) sa_nil))))))) (blkOk_by (by kernel_rfl)) (fun _ _ _ _ _ => (sg_name (i := 5) (by decide) nd rfl (by first | exact Or.inl rfl | exact Or.inr rfl))) (fun _ _ _ _ _ => ts_nil) (fun _ _ _ _ _ => (so_lamcall (g := (G.mk K fa ca TT)) T.l__law_word rfl T.m__law_word Sd.takes0 TB rfl hmT hqu hr2 (LamX.lamS_by (by kernel_rfl)) rfl (fun _ _ _ _ _ => rfl) (fun A outer s H E fl c1 hr => have hu := hr.units; have tk : L2N.Takes (lamN _ A outer s H E _ fl c1) (fun cls d _ H => E cls d H) := L2N.takes_of rfl rfl rfl rfl; (so_callV (g := (G.mk K fa ca TT)) T.fam hr rfl (by first | exact Or.inl rfl | exact Or.inr (Or.inl rfl) | exact Or.inr (Or.inr rfl)) tk (sa_cons (so_var (i := 0) rfl (by first | exact Or.inl rfl | exact Or.inr (Or.inl rfl) | exact Or.inr (Or.inr rfl))) sa_nil))))) | exact (ss_new (i := 4) nd rfl (by first | exact Or.inl rfl | exact Or.inr rfl) (so_f (sn_comp rfl nd (own := [("call", 5)]) rfl (si_val (g := (G.mk K fa ca TT)) (so_tup (g := (G.mk K fa ca TT)) (sa_cons (so_glob (v := .ref (fa 19)) rfl T.m_twice_area_of rfl (fun _ _ => .fn 19)) (sa_cons (so_glob (v := .ref (fa 20)) rfl T.m_corner_turns rfl (fun _ _ => .fn 20)) (sa_cons (so_glob (v := .ref (fa 21)) rfl T.m_is_bulging rfl (fun _ _ => .fn 21)) (sa_cons (so_glob (v := .ref (fa 27)) rfl T.m_corners_that_see rfl (fun _ _ => .fn 27)) (sa_cons (so_glob (v := .ref (fa 28)) rfl T.m_ears rfl (fun _ _ => .fn 28)) sa_nil))))))) (blkOk_by (by kernel_rfl)) (fun _ _ _ _ _ => (sg_name (i := 5) (by decide) nd rfl (by first | exact Or.inl rfl | exact Or.inr rfl))) (fun _ _ _ _ _ => ts_nil) (fun _ _ _ _ _ => (so_lamcall (g := (G.mk K fa ca TT)) T.l__law_word rfl T.m__law_word Sd.takes0 TB rfl hmT hqu hr2 (LamX.lamS_by (by kernel_rfl)) rfl (fun _ _ _ _ _ => rfl) (fun A outer s H E fl c1 hr => have hu := hr.units; have tk : L2N.Takes (lamN _ A outer s H E _ fl c1) (fun cls d _ H => E cls d H) := L2N.takes_of rfl rfl rfl rfl; (so_callV (g := (G.mk K fa ca TT)) T.fam hr rfl (by first | exact Or.inl rfl | exact Or.inr (Or.inl rfl) | exact Or.inr (Or.inr rfl)) tk (sa_cons (so_var (i := 0) rfl (by first | exact Or.inl rfl | exact Or.inr (Or.inl rfl) | exact Or.inr (Or.inr rfl))) sa_nil))))))))) (ss_cons (ss_new (i := 4) nd rfl (by first | exact Or.inl rfl | exact Or.inr rfl) (so_f (so_addF (g := (G.mk K fa ca TT)) (so_var (i := 4) rfl (by first | exact Or.inl rfl | exact Or.inr (Or.inl rfl) | exact Or.inr (Or.inr rfl))) (so_ofN (sn_comp rfl nd (own := [("call", 5)]) rfl (si_val (g := (G.mk K fa ca TT)) (so_tup (g := (G.mk K fa ca TT)) (sa_cons (so_glob (v := .ref (fa 22)) rfl T.m_place_of rfl (fun _ _ => .fn 22)) (sa_cons (so_glob (v := .ref (fa 25)) rfl T.m_corners_seen rfl (fun _ _ => .fn 25)) (sa_cons (so_glob (v := .ref (fa 26)) rfl T.m_sees_all rfl (fun _ _ => .fn 26)) sa_nil))))) (blkOk_by (by kernel_rfl)) (fun _ _ _ _ _ => (sg_name (i := 5) (by decide) nd rfl (by first | exact Or.inl rfl | exact Or.inr rfl))) (fun _ _ _ _ _ => ts_nil) (fun _ _ _ _ _ => (so_lamcall (g := (G.mk K fa ca TT)) T.l__law_word rfl T.m__law_word Sd.takes0 TB rfl hmT hqu hr2 (LamX.lamS_by (by kernel_rfl)) rfl (fun _ _ _ _ _ => rfl) (fun A outer s H E fl c1 hr => have hu := hr.units; have tk : L2N.Takes (lamN _ A outer s H E _ fl c1) (fun cls d _ H => E cls d H) := L2N.takes_of rfl rfl rfl rfl; (so_callV (g := (G.mk K fa ca TT)) T.fam hr rfl (by first | exact Or.inl rfl | exact Or.inr (Or.inl rfl) | exact Or.inr (Or.inr rfl)) tk (sa_cons (so_var (i := 0) rfl (by first | exact Or.inl rfl | exact Or.inr (Or.inl rfl) | exact Or.inr (Or.inr rfl))) (sa_cons (so_var (i := 1) rfl (by first | exact Or.inl rfl | exact Or.inr (Or.inl rfl) | exact Or.inr (Or.inr rfl))) sa_nil))))))))))) (ss_cons (ss_expr (so_upL1 (g := (G.mk K fa ca TT)) (i := 4) PySem.F.plainAttrs_list PySem.F.slot_list_append PySem.F.type_list_append ml_append rfl (by first | exact Or.inl rfl | exact Or.inr (Or.inl rfl) | exact Or.inr (Or.inr rfl)) (so_lamcall (g := (G.mk K fa ca TT)) T.l__law_word rfl T.m__law_word tk TB rfl hmT hqu hr2 (LamX.lamS_by (by kernel_rfl)) rfl (fun _ _ _ _ _ => rfl) (fun A outer s H E fl c1 hr => have hu := hr.units; have tk : L2N.Takes (lamN _ A outer s H E _ fl c1) (fun cls d _ H => E cls d H) := L2N.takes_of rfl rfl rfl rfl; (so_def (g := (G.mk K fa ca TT)) T.d_sees hr rfl T.m_sees tk (sa_cons (so_var (i := 0) rfl (by first | exact Or.inl rfl | exact Or.inr (Or.inl rfl) | exact Or.inr (Or.inr rfl))) (sa_cons (so_var (i := 1) rfl (by first | exact Or.inl rfl | exact Or.inr (Or.inl rfl) | exact Or.inr (Or.inr rfl))) (sa_cons (so_var (i := 2) rfl (by first | exact Or.inl rfl | exact Or.inr (Or.inl rfl) | exact Or.inr (Or.inr rfl))) sa_nil)))))))) (ss_one (ss_ret (so_op (g := (G.mk K fa ca TT)) so_add (so_var (i := 4) rfl (by first | exact Or.inl rfl | exact Or.inr (Or.inl rfl) | exact Or.inr (Or.inr rfl))) (so_ofN (sn_lst (g := (G.mk K fa ca TT)) (sa_cons (so_lamcall (g := (G.mk K fa ca TT)) T.l__law_word rfl T.m__law_word tk TB rfl hmT hqu hr2 (LamX.lamS_by (by kernel_rfl)) rfl (fun _ _ _ _ _ => rfl) (fun A outer s H E fl c1 hr => have hu := hr.units; have tk : L2N.Takes (lamN _ A outer s H E _ fl c1) (fun cls d _ H => E cls d H) := L2N.takes_of rfl rfl rfl rfl; (so_def (g := (G.mk K fa ca TT)) T.d_cut_off hr rfl T.m_cut_off tk (sa_cons (so_var (i := 0) rfl (by first | exact Or.inl rfl | exact Or.inr (Or.inl rfl) | exact Or.inr (Or.inr rfl))) (sa_cons (so_var (i := 3) rfl (by first | exact Or.inl rfl | exact Or.inr (Or.inl rfl) | exact Or.inr (Or.inr rfl))) sa_nil))))) sa_nil)))))))))
theorem b_law (cm Pm : Addr) (TB : LamX.TabB base mg cm Pm) (hmT : (Pm, (envOfC "law" (defScope (top 47)) 0 0 (.ref cm)).qual ++ "<lambda>") ∈ TT) (hqu : ∀ p ∈ TT, p.1 = Pm → p.2 = (envOfC "law" (defScope (top 47)) 0 0 (.ref cm)).qual ++ "<lambda>") (A : Around) (outer : List Env) (s : Shared) (H : Hp) (E : XK) (fad : Addr) (hr2 : Room (k + 2) (CxD P w K mg base ["script", "cup", "four", "bads", "odd", "far", "five", "words", "at"] "law" (top 47) fad (.ref cm) A outer s H E).A) :
    PSs (CxD P w K mg base ["script", "cup", "four", "bads", "odd", "far", "five", "words", "at"] "law" (top 47) fad (.ref cm) A outer s H E) (defBody (top 47)) (tS (G.mk K fa ca TT) Fx.none (fun cls d _ H => E cls d H) cf Py.f_law) := by
  have hr : Room k (CxD P w K mg base ["script", "cup", "four", "bads", "odd", "far", "five", "words", "at"] "law" (top 47) fad (.ref cm) A outer s H E).A := hr2.mono (by omega)
  have hu := hr.units
  have nd : (["script", "cup", "four", "bads", "odd", "far", "five", "words", "at"] : List Str).Nodup := by decide +kernel
  have tk : L2N.Takes (CxD P w K mg base ["script", "cup", "four", "bads", "odd", "far", "five", "words", "at"] "law" (top 47) fad (.ref cm) A outer s H E) (fun cls d _ H => E cls d H) := L2N.takes_of rfl rfl rfl rfl
  have hp := passes_of (X := (CxD P w K mg base ["script", "cup", "four", "bads", "odd", "far", "five", "words", "at"] "law" (top 47) fad (.ref cm) A outer s H E)) rfl
  unfold Py.f_law
  exact (ss_cons (ss_new (i := 1) nd rfl (by first | exact Or.inl rfl | exact Or.inr rfl) (so_defN (g := (G.mk K fa ca TT)) T.d__law_cup hr rfl T.m__law_cup tk (sa_cons (so_var (i := 0) rfl (by first | exact Or.inl rfl | exact Or.inr (Or.inl rfl) | exact Or.inr (Or.inr rfl))) sa_nil))) (ss_cons (ss_asg (i := 2) nd rfl (by first | exact Or.inl rfl | exact Or.inr rfl) (so_tup (g := (G.mk K fa ca TT)) (sa_cons (so_tup (g := (G.mk K fa ca TT)) (sa_cons so_int (sa_cons so_int sa_nil))) (sa_cons (so_tup (g := (G.mk K fa ca TT)) (sa_cons so_int (sa_cons so_int sa_nil))) (sa_cons (so_tup (g := (G.mk K fa ca TT)) (sa_cons so_int (sa_cons so_int sa_nil))) (sa_cons (so_tup (g := (G.mk K fa ca TT)) (sa_cons so_int (sa_cons so_int sa_nil))) sa_nil)))))) (ss_cons (ss_if (st_bool (sw_or (st_cmp (g := (G.mk K fa ca TT)) (so_ne hu) (so_def (g := (G.mk K fa ca TT)) T.d__law_asked hr rfl T.m__law_asked tk (sa_cons (so_var (i := 2) rfl (by first | exact Or.inl rfl | exact Or.inr (Or.inl rfl) | exact Or.inr (Or.inr rfl))) (sa_cons (so_tup (g := (G.mk K fa ca TT)) (sa_cons so_int (sa_cons so_int sa_nil))) (sa_cons (so_tup (g := (G.mk K fa ca TT)) (sa_cons so_int (sa_cons so_int sa_nil))) (sa_cons so_int sa_nil))))) (so_op (g := (G.mk K fa ca TT)) so_mul (so_ofN (sn_lst (g := (G.mk K fa ca TT)) (sa_cons (so_str (by first | rfl | decide)) sa_nil))) so_int) (nomark _)) (sw_or1 (st_cmp (g := (G.mk K fa ca TT)) (so_ne hu) (so_def (g := (G.mk K fa ca TT)) T.d__law_asked hr rfl T.m__law_asked tk (sa_cons (so_ofN (sn_cut (g := (G.mk K fa ca TT)) (so_var (i := 2) rfl (by first | exact Or.inl rfl | exact Or.inr (Or.inl rfl) | exact Or.inr (Or.inr rfl))) sp_none (sp_some so_int))) (sa_cons (so_tup (g := (G.mk K fa ca TT)) (sa_cons so_int (sa_cons so_int sa_nil))) (sa_cons (so_tup (g := (G.mk K fa ca TT)) (sa_cons so_int (sa_cons so_int sa_nil))) (sa_cons so_int sa_nil))))) (so_op (g := (G.mk K fa ca TT)) so_add (so_op (g := (G.mk K fa ca TT)) so_mul (so_ofN (sn_lst (g := (G.mk K fa ca TT)) (sa_cons (so_str (by first | rfl | decide)) sa_nil))) so_int) (so_ofN (sn_lst (g := (G.mk K fa ca TT)) (sa_cons (so_str (by first | rfl | decide)) sa_nil)))) (nomark _))))) (ss_one (ss_ret so_bl)) ss_nil) (ss_cons (ss_asg (i := 3) nd rfl (by first | exact Or.inl rfl | exact Or.inr rfl) (so_ofN (sn_lst (g := (G.mk K fa ca TT)) (sa_cons so_non (sa_cons (so_tup (g := (G.mk K fa ca TT)) sa_nil) (sa_cons (so_ofN (sn_cut (g := (G.mk K fa ca TT)) (so_var (i := 2) rfl (by first | exact Or.inl rfl | exact Or.inr (Or.inl rfl) | exact Or.inr (Or.inr rfl))) sp_none (sp_some so_int))) (sa_cons (so_ofN (sn_call1T (g := (G.mk K fa ca TT)) (sc_list) rfl T.z_list rfl (so_var (i := 2) rfl (by first | exact Or.inl rfl | exact Or.inr (Or.inl rfl) | exact Or.inr (Or.inr rfl))))) (sa_cons (so_str (by first | rfl | decide)) (sa_cons so_int (sa_cons (so_op (g := (G.mk K fa ca TT)) so_add (so_var (i := 2) rfl (by first | exact Or.inl rfl | exact Or.inr (Or.inl rfl) | exact Or.inr (Or.inr rfl))) (so_ofN (sn_cut (g := (G.mk K fa ca TT)) (so_var (i := 2) rfl (by first | exact Or.inl rfl | exact Or.inr (Or.inl rfl) | exact Or.inr (Or.inr rfl))) sp_none (sp_some so_int)))) (sa_cons (so_tup (g := (G.mk K fa ca TT)) (sa_cons (so_tup (g := (G.mk K fa ca TT)) (sa_cons so_int (sa_cons so_int sa_nil))) (sa_cons (so_tup (g := (G.mk K fa ca TT)) (sa_cons so_int (sa_cons so_int sa_nil))) (sa_cons (so_tup (g := (G.mk K fa ca TT)) (sa_cons so_int (sa_cons so_int sa_nil))) (sa_cons (so_tup (g := (G.mk K fa ca TT)) (sa_cons so_int (sa_cons so_int sa_nil))) sa_nil))))) (sa_cons (so_tup (g := (G.mk K fa ca TT)) (sa_cons (so_tup (g := (G.mk K fa ca TT)) (sa_cons so_int (sa_cons so_int sa_nil))) (sa_cons (so_tup (g := (G.mk K fa ca TT)) (sa_cons so_int (sa_cons so_int sa_nil))) (sa_cons (so_tup (g := (G.mk K fa ca TT)) (sa_cons so_int (sa_cons so_int sa_nil))) sa_nil)))) sa_nil)))))))))))) (ss_cons (ss_asg (i := 3) nd rfl (by first | exact Or.inl rfl | exact Or.inr rfl) (so_op (g := (G.mk K fa ca TT)) so_add (so_var (i := 3) rfl (by first | exact Or.inl rfl | exact Or.inr (Or.inl rfl) | exact Or.inr (Or.inr rfl))) (so_ofN (sn_lst (g := (G.mk K fa ca TT)) (sa_cons (so_tup (g := (G.mk K fa ca TT)) (sa_cons (so_tup (g := (G.mk K fa ca TT)) (sa_cons so_int (sa_cons so_int sa_nil))) (sa_cons (so_tup (g := (G.mk K fa ca TT)) (sa_cons so_int (sa_cons so_int sa_nil))) (sa_cons (so_tup (g := (G.mk K fa ca TT)) (sa_cons so_int (sa_cons so_int sa_nil))) sa_nil)))) (sa_cons (so_tup (g := (G.mk K fa ca TT)) (sa_cons (so_tup (g := (G.mk K fa ca TT)) (sa_cons so_int (sa_cons so_int sa_nil))) (sa_cons (so_tup (g := (G.mk K fa ca TT)) (sa_cons so_int (sa_cons so_int sa_nil))) (sa_cons (so_tup (g := (G.mk K fa ca TT)) (sa_cons so_bl (sa_cons so_int sa_nil))) sa_nil)))) (sa_cons (so_tup (g := (G.mk K fa ca TT)) (sa_cons (so_tup (g := (G.mk K fa ca TT)) (sa_cons so_int (sa_cons so_int sa_nil))) (sa_cons (so_tup (g := (G.mk K fa ca TT)) (sa_cons so_int (sa_cons so_int sa_nil))) (sa_cons (so_ofN (sn_lst (g := (G.mk K fa ca TT)) (sa_cons so_int (sa_cons so_int sa_nil)))) sa_nil)))) (sa_cons (so_tup (g := (G.mk K fa ca TT)) (sa_cons (so_tup (g := (G.mk K fa ca TT)) (sa_cons so_int (sa_cons so_int sa_nil))) (sa_cons (so_tup (g := (G.mk K fa ca TT)) (sa_cons so_int (sa_cons so_int sa_nil))) (sa_cons so_non sa_nil)))) (sa_cons (so_op (g := (G.mk K fa ca TT)) so_mul (so_tup (g := (G.mk K fa ca TT)) (sa_cons (so_tup (g := (G.mk K fa ca TT)) (sa_cons so_int (sa_cons so_int sa_nil))) sa_nil)) so_int) sa_nil))))))))) (ss_cons (ss_asg (i := 3) nd rfl (by first | exact Or.inl rfl | exact Or.inr rfl) (so_op (g := (G.mk K fa ca TT)) so_add (so_var (i := 3) rfl (by first | exact Or.inl rfl | exact Or.inr (Or.inl rfl) | exact Or.inr (Or.inr rfl))) (so_ofN (sn_lst (g := (G.mk K fa ca TT)) (sa_cons (so_tup (g := (G.mk K fa ca TT)) (sa_cons (so_tup (g := (G.mk K fa ca TT)) (sa_cons so_int (sa_cons so_int sa_nil))) (sa_cons (so_tup (g := (G.mk K fa ca TT)) (sa_cons so_int (sa_cons so_int sa_nil))) (sa_cons (so_tup (g := (G.mk K fa ca TT)) (sa_cons so_int (sa_cons so_int sa_nil))) (sa_cons (so_tup (g := (G.mk K fa ca TT)) (sa_cons so_int (sa_cons so_int sa_nil))) sa_nil))))) (sa_cons (so_tup (g := (G.mk K fa ca TT)) (sa_cons (so_tup (g := (G.mk K fa ca TT)) (sa_cons so_int (sa_cons so_int sa_nil))) (sa_cons (so_tup (g := (G.mk K fa ca TT)) (sa_cons so_int (sa_cons so_int sa_nil))) (sa_cons (so_tup (g := (G.mk K fa ca TT)) (sa_cons so_int (sa_cons so_int sa_nil))) (sa_cons (so_tup (g := (G.mk K fa ca TT)) (sa_cons so_int (sa_cons so_int sa_nil))) (sa_cons (so_tup (g := (G.mk K fa ca TT)) (sa_cons so_int (sa_cons so_int sa_nil))) sa_nil)))))) (sa_cons (so_call1T (g := (G.mk K fa ca TT)) (sc_tuple) rfl T.z_tuple rfl (so_ofN (sn_comp rfl nd (own := [("at", 8)]) rfl (si_rng1 rfl T.z_range so_int) (blkOk_by (by kernel_rfl)) (fun _ _ _ _ _ => (sg_name (i := 8) (by decide) nd rfl (by first | exact Or.inl rfl | exact Or.inr rfl))) (fun _ _ _ _ _ => ts_nil) (fun _ _ _ _ _ => (so_tup (g := (G.mk K fa ca TT)) (sa_cons (so_var (i := 8) rfl (by first | exact Or.inl rfl | exact Or.inr (Or.inl rfl) | exact Or.inr (Or.inr rfl))) (sa_cons (so_op (g := (G.mk K fa ca TT)) so_mul (so_var (i := 8) rfl (by first | exact Or.inl rfl | exact Or.inr (Or.inl rfl) | exact Or.inr (Or.inr rfl))) (so_var (i := 8) rfl (by first | exact Or.inl rfl | exact Or.inr (Or.inl rfl) | exact Or.inr (Or.inr rfl)))) sa_nil))))))) sa_nil))))))) (ss_cons (ss_for (ws := [4]) hp rfl (si_val (g := (G.mk K fa ca TT)) (so_var (i := 3) rfl (by first | exact Or.inl rfl | exact Or.inr (Or.inl rfl) | exact Or.inr (Or.inr rfl)))) (sg_name (i := 4) (by decide) nd rfl (by first | exact Or.inl rfl | exact Or.inr rfl)) (ss_one (ss_if (st_bool (sw_or (st_cmp (g := (G.mk K fa ca TT)) (so_ne hu) (so_def (g := (G.mk K fa ca TT)) T.d__law_asked hr rfl T.m__law_asked tk (sa_cons (so_var (i := 4) rfl (by first | exact Or.inl rfl | exact Or.inr (Or.inl rfl) | exact Or.inr (Or.inr rfl))) (sa_cons so_non (sa_cons so_non (sa_cons so_non sa_nil))))) (so_op (g := (G.mk K fa ca TT)) so_mul (so_ofN (sn_lst (g := (G.mk K fa ca TT)) (sa_cons (so_str (by first | rfl | decide)) sa_nil))) so_int) (nomark _)) (sw_or1 (st_cmp (g := (G.mk K fa ca TT)) so_isnot (so_def (g := (G.mk K fa ca TT)) T.d_is_outline hr rfl T.m_is_outline tk (sa_cons (so_var (i := 4) rfl (by first | exact Or.inl rfl | exact Or.inr (Or.inl rfl) | exact Or.inr (Or.inr rfl))) sa_nil)) so_bl (nomark _))))) (ss_one (ss_ret so_bl)) ss_nil))) (ss_cons (ss_for (ws := [4]) hp rfl (si_val (g := (G.mk K fa ca TT)) (so_tup (g := (G.mk K fa ca TT)) (sa_cons so_non (sa_cons (so_tup (g := (G.mk K fa ca TT)) sa_nil) (sa_cons (so_tup (g := (G.mk K fa ca TT)) (sa_cons so_int sa_nil)) (sa_cons (so_ofN (sn_lst (g := (G.mk K fa ca TT)) (sa_cons so_int (sa_cons so_int sa_nil)))) (sa_cons (so_tup (g := (G.mk K fa ca TT)) (sa_cons so_int (sa_cons so_int sa_nil))) (sa_cons (so_tup (g := (G.mk K fa ca TT)) (sa_cons so_int (sa_cons (so_un (g := (G.mk K fa ca TT)) so_neg so_int) sa_nil))) (sa_cons (so_tup (g := (G.mk K fa ca TT)) (sa_cons so_bl (sa_cons so_int sa_nil))) (sa_cons (so_tup (g := (G.mk K fa ca TT)) (sa_cons so_int (sa_cons so_non sa_nil))) (sa_cons (so_str (by first | rfl | decide)) (sa_cons (so_tup (g := (G.mk K fa ca TT)) (sa_cons so_int (sa_cons so_int (sa_cons so_int sa_nil)))) sa_nil)))))))))))) (sg_name (i := 4) (by decide) nd rfl (by first | exact Or.inl rfl | exact Or.inr rfl)) (ss_cons (ss_if (st_cmp (g := (G.mk K fa ca TT)) (so_ne hu) (so_def (g := (G.mk K fa ca TT)) T.d__law_asked hr rfl T.m__law_asked tk (sa_cons (so_var (i := 2) rfl (by first | exact Or.inl rfl | exact Or.inr (Or.inl rfl) | exact Or.inr (Or.inr rfl))) (sa_cons (so_var (i := 4) rfl (by first | exact Or.inl rfl | exact Or.inr (Or.inl rfl) | exact Or.inr (Or.inr rfl))) (sa_cons so_non (sa_cons so_int sa_nil))))) (so_op (g := (G.mk K fa ca TT)) so_add (so_op (g := (G.mk K fa ca TT)) so_add (so_op (g := (G.mk K fa ca TT)) so_mul (so_ofN (sn_lst (g := (G.mk K fa ca TT)) (sa_cons (so_str (by first | rfl | decide)) sa_nil))) so_int) (so_op (g := (G.mk K fa ca TT)) so_mul (so_ofN (sn_lst (g := (G.mk K fa ca TT)) (sa_cons (so_str (by first | rfl | decide)) sa_nil))) so_int)) (so_ofN (sn_lst (g := (G.mk K fa ca TT)) (sa_cons (so_str (by first | rfl | decide)) sa_nil)))) (nomark _)) (ss_one (ss_ret so_bl)) ss_nil) (ss_one (ss_if (st_cmp (g := (G.mk K fa ca TT)) (so_ne hu) (so_lamcall (g := (G.mk K fa ca TT)) T.l__law_word rfl T.m__law_word tk TB rfl hmT hqu hr2 (LamX.lamS_by (by kernel_rfl)) rfl (fun _ _ _ _ _ => rfl) (fun A outer s H E fl c1 hr => have hu := hr.units; have tk : L2N.Takes (lamN _ A outer s H E _ fl c1) (fun cls d _ H => E cls d H) := L2N.takes_of rfl rfl rfl rfl; (so_def (g := (G.mk K fa ca TT)) T.d_sees hr rfl T.m_sees tk (sa_cons (so_var (i := 2) rfl (by first | exact Or.inl rfl | exact Or.inr (Or.inl rfl) | exact Or.inr (Or.inr rfl))) (sa_cons (so_tup (g := (G.mk K fa ca TT)) (sa_cons so_int (sa_cons so_int sa_nil))) (sa_cons (so_var (i := 4) rfl (by first | exact Or.inl rfl | exact Or.inr (Or.inl rfl) | exact Or.inr (Or.inr rfl))) sa_nil)))))) (so_str (by first | rfl | decide)) (nomark _)) (ss_one (ss_ret so_bl)) ss_nil)))) (ss_cons (ss_asg (i := 5) nd rfl (by first | exact Or.inl rfl | exact Or.inr rfl) (so_def (g := (G.mk K fa ca TT)) T.d__law_some hr rfl T.m__law_some tk (sa_cons (so_var (i := 1) rfl (by first | exact Or.inl rfl | exact Or.inr (Or.inl rfl) | exact Or.inr (Or.inr rfl))) (sa_cons (so_ofN (sn_lst (g := (G.mk K fa ca TT)) (sa_cons (so_tup (g := (G.mk K fa ca TT)) (sa_cons so_int (sa_cons so_int sa_nil))) (sa_cons (so_tup (g := (G.mk K fa ca TT)) (sa_cons (so_un (g := (G.mk K fa ca TT)) so_neg so_int) (sa_cons so_int sa_nil))) (sa_cons (so_tup (g := (G.mk K fa ca TT)) (sa_cons so_int (sa_cons (so_un (g := (G.mk K fa ca TT)) so_neg so_int) sa_nil))) (sa_cons (so_tup (g := (G.mk K fa ca TT)) (sa_cons so_int (sa_cons so_int sa_nil))) sa_nil)))))) sa_nil)))) (ss_cons (ss_if (st_bool (sw_or (st_cmp (g := (G.mk K fa ca TT)) (so_ne hu) (so_def (g := (G.mk K fa ca TT)) T.d__law_asked hr rfl T.m__law_asked tk (sa_cons (so_var (i := 2) rfl (by first | exact Or.inl rfl | exact Or.inr (Or.inl rfl) | exact Or.inr (Or.inr rfl))) (sa_cons (so_var (i := 5) rfl (by first | exact Or.inl rfl | exact Or.inr (Or.inl rfl) | exact Or.inr (Or.inr rfl))) (sa_cons so_non (sa_cons so_int sa_nil))))) (so_op (g := (G.mk K fa ca TT)) so_add (so_op (g := (G.mk K fa ca TT)) so_add (so_op (g := (G.mk K fa ca TT)) so_mul (so_ofN (sn_lst (g := (G.mk K fa ca TT)) (sa_cons (so_str (by first | rfl | decide)) sa_nil))) so_int) (so_op (g := (G.mk K fa ca TT)) so_mul (so_ofN (sn_lst (g := (G.mk K fa ca TT)) (sa_cons (so_str (by first | rfl | decide)) sa_nil))) so_int)) (so_ofN (sn_lst (g := (G.mk K fa ca TT)) (sa_cons (so_str (by first | rfl | decide)) sa_nil)))) (nomark _)) (sw_or1 (st_cmp (g := (G.mk K fa ca TT)) (so_ne hu) (so_lamcall (g := (G.mk K fa ca TT)) T.l__law_word rfl T.m__law_word tk TB rfl hmT hqu hr2 (LamX.lamS_by (by kernel_rfl)) rfl (fun _ _ _ _ _ => rfl) (fun A outer s H E fl c1 hr => have hu := hr.units; have tk : L2N.Takes (lamN _ A outer s H E _ fl c1) (fun cls d _ H => E cls d H) := L2N.takes_of rfl rfl rfl rfl; (so_def (g := (G.mk K fa ca TT)) T.d_sees hr rfl T.m_sees tk (sa_cons (so_var (i := 2) rfl (by first | exact Or.inl rfl | exact Or.inr (Or.inl rfl) | exact Or.inr (Or.inr rfl))) (sa_cons (so_tup (g := (G.mk K fa ca TT)) (sa_cons so_int (sa_cons so_int sa_nil))) (sa_cons (so_var (i := 5) rfl (by first | exact Or.inl rfl | exact Or.inr (Or.inl rfl) | exact Or.inr (Or.inr rfl))) sa_nil)))))) (so_str (by first | rfl | decide)) (nomark _))))) (ss_one (ss_ret so_bl)) ss_nil) (ss_cons (ss_for (ws := [4]) hp rfl (si_val (g := (G.mk K fa ca TT)) (so_tup (g := (G.mk K fa ca TT)) (sa_cons so_non (sa_cons (so_un (g := (G.mk K fa ca TT)) so_neg so_int) (sa_cons so_int (sa_cons so_bl (sa_cons (so_str (by first | rfl | decide)) (sa_cons (so_tup (g := (G.mk K fa ca TT)) (sa_cons so_int sa_nil)) sa_nil)))))))) (sg_name (i := 4) (by decide) nd rfl (by first | exact Or.inl rfl | exact Or.inr rfl)) (ss_one (ss_if (st_cmp (g := (G.mk K fa ca TT)) (so_ne hu) (so_def (g := (G.mk K fa ca TT)) T.d__law_asked hr rfl T.m__law_asked tk (sa_cons (so_var (i := 2) rfl (by first | exact Or.inl rfl | exact Or.inr (Or.inl rfl) | exact Or.inr (Or.inr rfl))) (sa_cons (so_tup (g := (G.mk K fa ca TT)) (sa_cons so_int (sa_cons so_int sa_nil))) (sa_cons (so_tup (g := (G.mk K fa ca TT)) (sa_cons so_int (sa_cons so_int sa_nil))) (sa_cons (so_var (i := 4) rfl (by first | exact Or.inl rfl | exact Or.inr (Or.inl rfl) | exact Or.inr (Or.inr rfl))) sa_nil))))) (so_op (g := (G.mk K fa ca TT)) so_add (so_op (g := (G.mk K fa ca TT)) so_mul (so_ofN (sn_lst (g := (G.mk K fa ca TT)) (sa_cons (so_str (by first | rfl | decide)) sa_nil))) so_int) (so_ofN (sn_lst (g := (G.mk K fa ca TT)) (sa_cons (so_str (by first | rfl | decide)) sa_nil)))) (nomark _)) (ss_one (ss_ret so_bl)) ss_nil))) (ss_cons (ss_asg (i := 6) nd rfl (by first | exact Or.inl rfl | exact Or.inr rfl) (so_tup (g := (G.mk K fa ca TT)) (sa_cons (so_tup (g := (G.mk K fa ca TT)) (sa_cons so_int (sa_cons so_int sa_nil))) (sa_cons (so_tup (g := (G.mk K fa ca TT)) (sa_cons so_int (sa_cons so_int sa_nil))) (sa_cons (so_tup (g := (G.mk K fa ca TT)) (sa_cons so_int (sa_cons so_int sa_nil))) (sa_cons (so_tup (g := (G.mk K fa ca TT)) (sa_cons so_int (sa_cons so_int sa_nil))) (sa_cons (so_tup (g := (G.mk K fa ca TT)) (sa_cons so_int (sa_cons so_int sa_nil))) sa_nil))))))) (ss_cons (by first | exact ss_newLc (k := 7) (own := [("at", 8)]) rfl nd rfl rfl rfl (sw_true rfl rfl rfl (by decide +kernel)) (si_val (g := (G.mk K fa ca TT)) (so_tup (g := (G.mk K fa ca TT)) (sa_cons so_int (sa_cons so_int (sa_cons so_int sa_nil))))) (blkOk_by (by kernel_rfl)) (fun _ _ _ _ _ => (sg_name (i := 8) (by decide) nd rfl (by first | exact Or.inl rfl | exact Or.inr rfl))) (fun _ _ _ _ _ => ts_nil) (fun _ _ _ _ _ => (so_lamcall (g := (G.mk K fa ca TT)) T.l__law_word rfl T.m__law_word Sd.takes0 TB rfl hmT hqu hr2 (LamX.lamS_by (by kernel_rfl)) rfl (fun _ _ _ _ _ => rfl) (fun A outer s H E fl c1 hr => have hu := hr.units; have tk : L2N.Takes (lamN _ A outer s H E _ fl c1) (fun cls d _ H => E cls d H) := L2N.takes_of rfl rfl rfl rfl; (so_def (g := (G.mk K fa ca TT)) T.d_cut_off hr rfl T.m_cut_off tk (sa_cons (so_var (i := 6) rfl (by first | exact Or.inl rfl | exact Or.inr (Or.inl rfl) | exact Or.inr (Or.inr rfl))) (sa_cons (so_var (i := 8) rfl (by first | exact Or.inl rfl | exact Or.inr (Or.inl rfl) | exact Or.inr (Or.inr rfl))) sa_nil)))))) | exact (ss_new (i := 7) nd rfl (by first | exact Or.inl rfl | exact Or.inr rfl) (so_f (sn_comp rfl nd (own := [("at", 8)]) rfl (si_val (g := (G.mk K fa ca TT)) (so_tup (g := (G.mk K fa ca TT)) (sa_cons so_int (sa_cons so_int (sa_cons so_int sa_nil))))) (blkOk_by (by kernel_rfl)) (fun _ _ _ _ _ => (sg_name (i := 8) (by decide) nd rfl (by first | exact Or.inl rfl | exact Or.inr rfl))) (fun _ _ _ _ _ => ts_nil) (fun _ _ _ _ _ => (so_lamcall (g := (G.mk K fa ca TT)) T.l__law_word rfl T.m__law_word Sd.takes0 TB rfl hmT hqu hr2 (LamX.lamS_by (by kernel_rfl)) rfl (fun _ _ _ _ _ => rfl) (fun A outer s H E fl c1 hr => have hu := hr.units; have tk : L2N.Takes (lamN _ A outer s H E _ fl c1) (fun cls d _ H => E cls d H) := L2N.takes_of rfl rfl rfl rfl; (so_def (g := (G.mk K fa ca TT)) T.d_cut_off hr rfl T.m_cut_off tk (sa_cons (so_var (i := 6) rfl (by first | exact Or.inl rfl | exact Or.inr (Or.inl rfl) | exact Or.inr (Or.inr rfl))) (sa_cons (so_var (i := 8) rfl (by first | exact Or.inl rfl | exact Or.inr (Or.inl rfl) | exact Or.inr (Or.inr rfl))) sa_nil)))))))))) (ss_cons (ss_expr (so_upL1 (g := (G.mk K fa ca TT)) (i := 7) PySem.F.plainAttrs_list PySem.F.slot_list_append PySem.F.type_list_append ml_append rfl (by first | exact Or.inl rfl | exact Or.inr (Or.inl rfl) | exact Or.inr (Or.inr rfl)) (so_lamcall (g := (G.mk K fa ca TT)) T.l__law_word rfl T.m__law_word tk TB rfl hmT hqu hr2 (LamX.lamS_by (by kernel_rfl)) rfl (fun _ _ _ _ _ => rfl) (fun A outer s H E fl c1 hr => have hu := hr.units; have tk : L2N.Takes (lamN _ A outer s H E _ fl c1) (fun cls d _ H => E cls d H) := L2N.takes_of rfl rfl rfl rfl; (so_def (g := (G.mk K fa ca TT)) T.d_cut_off hr rfl T.m_cut_off tk (sa_cons (so_var (i := 6) rfl (by first | exact Or.inl rfl | exact Or.inr (Or.inl rfl) | exact Or.inr (Or.inr rfl))) (sa_cons so_int sa_nil))))))) (ss_one (ss_ret (so_and (g := (G.mk K fa ca TT)) (so_cmp (g := (G.mk K fa ca TT)) (so_eq hu) (so_var (i := 7) rfl (by first | exact Or.inl rfl | exact Or.inr (Or.inl rfl) | exact Or.inr (Or.inr rfl))) (so_op (g := (G.mk K fa ca TT)) so_add (so_op (g := (G.mk K fa ca TT)) so_mul (so_ofN (sn_lst (g := (G.mk K fa ca TT)) (sa_cons (so_str (by first | rfl | decide)) sa_nil))) so_int) (so_ofN (sn_lst (g := (G.mk K fa ca TT)) (sa_cons (so_str (by first | rfl | decide)) sa_nil)))) (nomark _)) (so_one (so_def (g := (G.mk K fa ca TT)) T.d__law_same hr rfl T.m__law_same tk (sa_cons (so_tup (g := (G.mk K fa ca TT)) (sa_cons (so_def (g := (G.mk K fa ca TT)) T.d_place_of hr rfl T.m_place_of tk (sa_cons (so_var (i := 2) rfl (by first | exact Or.inl rfl | exact Or.inr (Or.inl rfl) | exact Or.inr (Or.inr rfl))) (sa_cons (so_var (i := 5) rfl (by first | exact Or.inl rfl | exact Or.inr (Or.inl rfl) | exact Or.inr (Or.inr rfl))) sa_nil))) (sa_cons (so_def (g := (G.mk K fa ca TT)) T.d_ears hr rfl T.m_ears tk (sa_cons (so_ofN (sn_cut (g := (G.mk K fa ca TT)) (so_var (i := 2) rfl (by first | exact Or.inl rfl | exact Or.inr (Or.inl rfl) | exact Or.inr (Or.inr rfl))) sp_none (sp_some so_int))) sa_nil)) (sa_cons (so_def (g := (G.mk K fa ca TT)) T.d_ears hr rfl T.m_ears tk (sa_cons (so_var (i := 2) rfl (by first | exact Or.inl rfl | exact Or.inr (Or.inl rfl) | exact Or.inr (Or.inr rfl))) sa_nil)) sa_nil)))) (sa_cons (so_tup (g := (G.mk K fa ca TT)) (sa_cons (so_str (by first | rfl | decide)) (sa_cons (so_tup (g := (G.mk K fa ca TT)) sa_nil) (sa_cons (so_tup (g := (G.mk K fa ca TT)) (sa_cons so_int (sa_cons so_int (sa_cons so_int (sa_cons so_int sa_nil))))) sa_nil)))) sa_nil)))))))))))))))))))))
end
end Hd

set_option autoImplicit false
set_option linter.all false
set_option maxRecDepth 100000
set_option maxHeartbeats 0
set_option Elab.async false
namespace Hd
open PySem PySem.Spec PyProof.Rows L2 Sd
section
variable {P : Program} {w : World} {K : PySem.W.Frag} {mg : Str → Option Value} {base : Heap} {fa ca : Nat → Addr} {TT : List (Addr × Str)} {cp : Nat → Addr × Addr}
theorem sc_is_whole : FnScope (["value"] : List Str) (["value"] : List Str) (defScope (top 8)) := ⟨rfl, rfl, rfl, by decide +kernel, rfl, by decide +kernel, by decide +kernel⟩
theorem bn_is_whole (fd : FuncData) (F : FunD K "is_whole" "is_whole" (defArgs (top 8)) (defBody (top 8)) (defScope (top 8)) [] [] (fa 0) fd) : Binds K fd (["value"] : List Str) [] := F.bindsN (ps := ["value"]) fun _ _ _ _ _ _ us hl => match us, hl with | [_], _ => rfl
theorem sc_fits_whole : FnScope (["value", "low", "high"] : List Str) (["value", "low", "high"] : List Str) (defScope (top 9)) := ⟨rfl, rfl, rfl, by decide +kernel, rfl, by decide +kernel, by decide +kernel⟩
theorem bn_fits_whole (fd : FuncData) (F : FunD K "fits_whole" "fits_whole" (defArgs (top 9)) (defBody (top 9)) (defScope (top 9)) [] [] (fa 1) fd) : Binds K fd (["value", "low", "high"] : List Str) [] := F.bindsN (ps := ["value", "low", "high"]) fun _ _ _ _ _ _ us hl => match us, hl with | [_, _, _], _ => rfl
theorem sc_is_tuple_of : FnScope (["value", "least", "most"] : List Str) (["value", "least", "most"] : List Str) (defScope (top 10)) := ⟨rfl, rfl, rfl, by decide +kernel, rfl, by decide +kernel, by decide +kernel⟩
theorem bn_is_tuple_of (fd : FuncData) (F : FunD K "is_tuple_of" "is_tuple_of" (defArgs (top 10)) (defBody (top 10)) (defScope (top 10)) [] [] (fa 2) fd) : Binds K fd (["value", "least", "most"] : List Str) [] := F.bindsN (ps := ["value", "least", "most"]) fun _ _ _ _ _ _ us hl => match us, hl with | [_, _, _], _ => rfl
theorem sc_fits_spot : FnScope (["value", "one"] : List Str) (["value"] : List Str) (defScope (top 11)) := ⟨rfl, rfl, rfl, by decide +kernel, rfl, by decide +kernel, by decide +kernel⟩
theorem bn_fits_spot (fd : FuncData) (F : FunD K "fits_spot" "fits_spot" (defArgs (top 11)) (defBody (top 11)) (defScope (top 11)) [] [] (fa 3) fd) : Binds K fd (["value"] : List Str) [] := F.bindsN (ps := ["value"]) fun _ _ _ _ _ _ us hl => match us, hl with | [_], _ => rfl
theorem sc_turn_of : FnScope (["one", "other", "third", "right", "up"] : List Str) (["one", "other", "third"] : List Str) (defScope (top 12)) := ⟨rfl, rfl, rfl, by decide +kernel, rfl, by decide +kernel, by decide +kernel⟩
theorem bn_turn_of (fd : FuncData) (F : FunD K "turn_of" "turn_of" (defArgs (top 12)) (defBody (top 12)) (defScope (top 12)) [] [] (fa 4) fd) : Binds K fd (["one", "other", "third"] : List Str) [] := F.bindsN (ps := ["one", "other", "third"]) fun _ _ _ _ _ _ us hl => match us, hl with | [_, _, _], _ => rfl
theorem sc_lies_between : FnScope (["one", "other", "spot"] : List Str) (["one", "other", "spot"] : List Str) (defScope (top 13)) := ⟨rfl, rfl, rfl, by decide +kernel, rfl, by decide +kernel, by decide +kernel⟩
theorem bn_lies_between (fd : FuncData) (F : FunD K "lies_between" "lies_between" (defArgs (top 13)) (defBody (top 13)) (defScope (top 13)) [] [] (fa 5) fd) : Binds K fd (["one", "other", "spot"] : List Str) [] := F.bindsN (ps := ["one", "other", "spot"]) fun _ _ _ _ _ _ us hl => match us, hl with | [_, _, _], _ => rfl
theorem sc_do_cross : FnScope (["one", "other", "third", "fourth", "first", "spot"] : List Str) (["one", "other", "third", "fourth"] : List Str) (defScope (top 14)) := ⟨rfl, rfl, rfl, by decide +kernel, rfl, by decide +kernel, by decide +kernel⟩
theorem bn_do_cross (fd : FuncData) (F : FunD K "do_cross" "do_cross" (defArgs (top 14)) (defBody (top 14)) (defScope (top 14)) [] [] (fa 6) fd) : Binds K fd (["one", "other", "third", "fourth"] : List Str) [] := F.bindsN (ps := ["one", "other", "third", "fourth"]) fun _ _ _ _ _ _ us hl => match us, hl with | [_, _, _, _], _ => rfl
theorem sc_sides_of : FnScope (["outline"] : List Str) (["outline"] : List Str) (defScope (top 17)) := ⟨rfl, rfl, rfl, by decide +kernel, rfl, by decide +kernel, by decide +kernel⟩
theorem bn_sides_of (fd : FuncData) (F : FunD K "sides_of" "sides_of" (defArgs (top 17)) (defBody (top 17)) (defScope (top 17)) [] [] (fa 7) fd) : Binds K fd (["outline"] : List Str) [] := F.bindsN (ps := ["outline"]) fun _ _ _ _ _ _ us hl => match us, hl with | [_], _ => rfl
theorem sc_do_fold : FnScope (["one", "corner", "other"] : List Str) (["one", "corner", "other"] : List Str) (defScope (top 18)) := ⟨rfl, rfl, rfl, by decide +kernel, rfl, by decide +kernel, by decide +kernel⟩
theorem bn_do_fold (fd : FuncData) (F : FunD K "do_fold" "do_fold" (defArgs (top 18)) (defBody (top 18)) (defScope (top 18)) [] [] (fa 8) fd) : Binds K fd (["one", "corner", "other"] : List Str) [] := F.bindsN (ps := ["one", "corner", "other"]) fun _ _ _ _ _ _ us hl => match us, hl with | [_, _, _], _ => rfl
theorem sc_fits_outline : FnScope (["value", "sides", "at", "one", "other", "third", "fourth", "spot"] : List Str) (["value"] : List Str) (defScope (top 19)) := ⟨rfl, rfl, rfl, by decide +kernel, rfl, by decide +kernel, by decide +kernel⟩
theorem bn_fits_outline (fd : FuncData) (F : FunD K "fits_outline" "fits_outline" (defArgs (top 19)) (defBody (top 19)) (defScope (top 19)) [] [] (fa 9) fd) : Binds K fd (["value"] : List Str) [] := F.bindsN (ps := ["value"]) fun _ _ _ _ _ _ us hl => match us, hl with | [_], _ => rfl
theorem sc_need_outline : FnScope (["value"] : List Str) (["value"] : List Str) (defScope (top 20)) := ⟨rfl, rfl, rfl, by decide +kernel, rfl, by decide +kernel, by decide +kernel⟩
theorem bn_need_outline (fd : FuncData) (F : FunD K "need_outline" "need_outline" (defArgs (top 20)) (defBody (top 20)) (defScope (top 20)) [] [] (fa 10) fd) : Binds K fd (["value"] : List Str) [] := F.bindsN (ps := ["value"]) fun _ _ _ _ _ _ us hl => match us, hl with | [_], _ => rfl
theorem sc_need_spot : FnScope (["value"] : List Str) (["value"] : List Str) (defScope (top 21)) := ⟨rfl, rfl, rfl, by decide +kernel, rfl, by decide +kernel, by decide +kernel⟩
theorem bn_need_spot (fd : FuncData) (F : FunD K "need_spot" "need_spot" (defArgs (top 21)) (defBody (top 21)) (defScope (top 21)) [] [] (fa 11) fd) : Binds K fd (["value"] : List Str) [] := F.bindsN (ps := ["value"]) fun _ _ _ _ _ _ us hl => match us, hl with | [_], _ => rfl
theorem sc_area_in : FnScope (["outline", "one", "other"] : List Str) (["outline"] : List Str) (defScope (top 22)) := ⟨rfl, rfl, rfl, by decide +kernel, rfl, by decide +kernel, by decide +kernel⟩
theorem bn_area_in (fd : FuncData) (F : FunD K "area_in" "area_in" (defArgs (top 22)) (defBody (top 22)) (defScope (top 22)) [] [] (fa 12) fd) : Binds K fd (["outline"] : List Str) [] := F.bindsN (ps := ["outline"]) fun _ _ _ _ _ _ us hl => match us, hl with | [_], _ => rfl
theorem sc_turns_in : FnScope (["outline", "found", "at", "spot", "turn"] : List Str) (["outline"] : List Str) (defScope (top 23)) := ⟨rfl, rfl, rfl, by decide +kernel, rfl, by decide +kernel, by decide +kernel⟩
theorem bn_turns_in (fd : FuncData) (F : FunD K "turns_in" "turns_in" (defArgs (top 23)) (defBody (top 23)) (defScope (top 23)) [] [] (fa 13) fd) : Binds K fd (["outline"] : List Str) [] := F.bindsN (ps := ["outline"]) fun _ _ _ _ _ _ us hl => match us, hl with | [_], _ => rfl
theorem sc_place_in : FnScope (["outline", "spot", "inside", "one", "other", "turn"] : List Str) (["outline", "spot"] : List Str) (defScope (top 24)) := ⟨rfl, rfl, rfl, by decide +kernel, rfl, by decide +kernel, by decide +kernel⟩
theorem bn_place_in (fd : FuncData) (F : FunD K "place_in" "place_in" (defArgs (top 24)) (defBody (top 24)) (defScope (top 24)) [] [] (fa 14) fd) : Binds K fd (["outline", "spot"] : List Str) [] := F.bindsN (ps := ["outline", "spot"]) fun _ _ _ _ _ _ us hl => match us, hl with | [_, _], _ => rfl
theorem sc_halves_in : FnScope (["one", "other", "spots", "side", "step", "rows", "found", "low", "high", "part", "whole", "spot", "way"] : List Str) (["one", "other", "spots"] : List Str) (defScope (top 25)) := ⟨rfl, rfl, rfl, by decide +kernel, rfl, by decide +kernel, by decide +kernel⟩
theorem bn_halves_in (fd : FuncData) (F : FunD K "halves_in" "halves_in" (defArgs (top 25)) (defBody (top 25)) (defScope (top 25)) [] [] (fa 15) fd) : Binds K fd (["one", "other", "spots"] : List Str) [] := F.bindsN (ps := ["one", "other", "spots"]) fun _ _ _ _ _ _ us hl => match us, hl with | [_, _, _], _ => rfl
theorem sc_do_see : FnScope (["outline", "one", "other", "some", "third", "fourth", "first", "whole", "middle", "great", "spot"] : List Str) (["outline", "one", "other"] : List Str) (defScope (top 26)) := ⟨rfl, rfl, rfl, by decide +kernel, rfl, by decide +kernel, by decide +kernel⟩
theorem bn_do_see (fd : FuncData) (F : FunD K "do_see" "do_see" (defArgs (top 26)) (defBody (top 26)) (defScope (top 26)) [] [] (fa 16) fd) : Binds K fd (["outline", "one", "other"] : List Str) [] := F.bindsN (ps := ["outline", "one", "other"]) fun _ _ _ _ _ _ us hl => match us, hl with | [_, _, _], _ => rfl
theorem sc_is_ear : FnScope (["outline", "at", "rest", "one", "other", "spot"] : List Str) (["outline", "at"] : List Str) (defScope (top 27)) := ⟨rfl, rfl, rfl, by decide +kernel, rfl, by decide +kernel, by decide +kernel⟩
theorem bn_is_ear (fd : FuncData) (F : FunD K "is_ear" "is_ear" (defArgs (top 27)) (defBody (top 27)) (defScope (top 27)) [] [] (fa 17) fd) : Binds K fd (["outline", "at"] : List Str) [] := F.bindsN (ps := ["outline", "at"]) fun _ _ _ _ _ _ us hl => match us, hl with | [_, _], _ => rfl
theorem sc_is_outline : FnScope (["value"] : List Str) (["value"] : List Str) (defScope (top 28)) := ⟨rfl, rfl, rfl, by decide +kernel, rfl, by decide +kernel, by decide +kernel⟩
theorem bn_is_outline (fd : FuncData) (F : FunD K "is_outline" "is_outline" (defArgs (top 28)) (defBody (top 28)) (defScope (top 28)) [] [] (fa 18) fd) : Binds K fd (["value"] : List Str) [] := F.bindsN (ps := ["value"]) fun _ _ _ _ _ _ us hl => match us, hl with | [_], _ => rfl
theorem sc_twice_area_of : FnScope (["outline"] : List Str) (["outline"] : List Str) (defScope (top 29)) := ⟨rfl, rfl, rfl, by decide +kernel, rfl, by decide +kernel, by decide +kernel⟩
theorem bn_twice_area_of (fd : FuncData) (F : FunD K "twice_area_of" "twice_area_of" (defArgs (top 29)) (defBody (top 29)) (defScope (top 29)) [] [] (fa 19) fd) : Binds K fd (["outline"] : List Str) [] := F.bindsN (ps := ["outline"]) fun _ _ _ _ _ _ us hl => match us, hl with | [_], _ => rfl
theorem sc_corner_turns : FnScope (["outline"] : List Str) (["outline"] : List Str) (defScope (top 30)) := ⟨rfl, rfl, rfl, by decide +kernel, rfl, by decide +kernel, by decide +kernel⟩
theorem bn_corner_turns (fd : FuncData) (F : FunD K "corner_turns" "corner_turns" (defArgs (top 30)) (defBody (top 30)) (defScope (top 30)) [] [] (fa 20) fd) : Binds K fd (["outline"] : List Str) [] := F.bindsN (ps := ["outline"]) fun _ _ _ _ _ _ us hl => match us, hl with | [_], _ => rfl
theorem sc_is_bulging : FnScope (["outline", "turns"] : List Str) (["outline"] : List Str) (defScope (top 31)) := ⟨rfl, rfl, rfl, by decide +kernel, rfl, by decide +kernel, by decide +kernel⟩
theorem bn_is_bulging (fd : FuncData) (F : FunD K "is_bulging" "is_bulging" (defArgs (top 31)) (defBody (top 31)) (defScope (top 31)) [] [] (fa 21) fd) : Binds K fd (["outline"] : List Str) [] := F.bindsN (ps := ["outline"]) fun _ _ _ _ _ _ us hl => match us, hl with | [_], _ => rfl
theorem sc_place_of : FnScope (["outline", "spot"] : List Str) (["outline", "spot"] : List Str) (defScope (top 32)) := ⟨rfl, rfl, rfl, by decide +kernel, rfl, by decide +kernel, by decide +kernel⟩
theorem bn_place_of (fd : FuncData) (F : FunD K "place_of" "place_of" (defArgs (top 32)) (defBody (top 32)) (defScope (top 32)) [] [] (fa 22) fd) : Binds K fd (["outline", "spot"] : List Str) [] := F.bindsN (ps := ["outline", "spot"]) fun _ _ _ _ _ _ us hl => match us, hl with | [_, _], _ => rfl
theorem sc_need_within : FnScope (["outline", "spot"] : List Str) (["outline", "spot"] : List Str) (defScope (top 33)) := ⟨rfl, rfl, rfl, by decide +kernel, rfl, by decide +kernel, by decide +kernel⟩
theorem bn_need_within (fd : FuncData) (F : FunD K "need_within" "need_within" (defArgs (top 33)) (defBody (top 33)) (defScope (top 33)) [] [] (fa 23) fd) : Binds K fd (["outline", "spot"] : List Str) [] := F.bindsN (ps := ["outline", "spot"]) fun _ _ _ _ _ _ us hl => match us, hl with | [_, _], _ => rfl
theorem sc_sees : FnScope (["outline", "one", "other"] : List Str) (["outline", "one", "other"] : List Str) (defScope (top 34)) := ⟨rfl, rfl, rfl, by decide +kernel, rfl, by decide +kernel, by decide +kernel⟩
theorem bn_sees (fd : FuncData) (F : FunD K "sees" "sees" (defArgs (top 34)) (defBody (top 34)) (defScope (top 34)) [] [] (fa 24) fd) : Binds K fd (["outline", "one", "other"] : List Str) [] := F.bindsN (ps := ["outline", "one", "other"]) fun _ _ _ _ _ _ us hl => match us, hl with | [_, _, _], _ => rfl
theorem sc_corners_seen : FnScope (["outline", "spot", "at", "corner"] : List Str) (["outline", "spot"] : List Str) (defScope (top 35)) := ⟨rfl, rfl, rfl, by decide +kernel, rfl, by decide +kernel, by decide +kernel⟩
theorem bn_corners_seen (fd : FuncData) (F : FunD K "corners_seen" "corners_seen" (defArgs (top 35)) (defBody (top 35)) (defScope (top 35)) [] [] (fa 25) fd) : Binds K fd (["outline", "spot"] : List Str) [] := F.bindsN (ps := ["outline", "spot"]) fun _ _ _ _ _ _ us hl => match us, hl with | [_, _], _ => rfl
theorem sc_sees_all : FnScope (["outline", "spot", "side", "one", "other"] : List Str) (["outline", "spot"] : List Str) (defScope (top 36)) := ⟨rfl, rfl, rfl, by decide +kernel, rfl, by decide +kernel, by decide +kernel⟩
theorem bn_sees_all (fd : FuncData) (F : FunD K "sees_all" "sees_all" (defArgs (top 36)) (defBody (top 36)) (defScope (top 36)) [] [] (fa 26) fd) : Binds K fd (["outline", "spot"] : List Str) [] := F.bindsN (ps := ["outline", "spot"]) fun _ _ _ _ _ _ us hl => match us, hl with | [_, _], _ => rfl
theorem sc_corners_that_see : FnScope (["outline", "side", "sides", "rows", "spot", "one", "other", "at", "row"] : List Str) (["outline"] : List Str) (defScope (top 37)) := ⟨rfl, rfl, rfl, by decide +kernel, rfl, by decide +kernel, by decide +kernel⟩
theorem bn_corners_that_see (fd : FuncData) (F : FunD K "corners_that_see" "corners_that_see" (defArgs (top 37)) (defBody (top 37)) (defScope (top 37)) [] [] (fa 27) fd) : Binds K fd (["outline"] : List Str) [] := F.bindsN (ps := ["outline"]) fun _ _ _ _ _ _ us hl => match us, hl with | [_], _ => rfl
theorem sc_ears : FnScope (["outline", "at"] : List Str) (["outline"] : List Str) (defScope (top 38)) := ⟨rfl, rfl, rfl, by decide +kernel, rfl, by decide +kernel, by decide +kernel⟩
theorem bn_ears (fd : FuncData) (F : FunD K "ears" "ears" (defArgs (top 38)) (defBody (top 38)) (defScope (top 38)) [] [] (fa 28) fd) : Binds K fd (["outline"] : List Str) [] := F.bindsN (ps := ["outline"]) fun _ _ _ _ _ _ us hl => match us, hl with | [_], _ => rfl
theorem sc_cut_off : FnScope (["outline", "at"] : List Str) (["outline", "at"] : List Str) (defScope (top 39)) := ⟨rfl, rfl, rfl, by decide +kernel, rfl, by decide +kernel, by decide +kernel⟩
theorem bn_cut_off (fd : FuncData) (F : FunD K "cut_off" "cut_off" (defArgs (top 39)) (defBody (top 39)) (defScope (top 39)) [] [] (fa 29) fd) : Binds K fd (["outline", "at"] : List Str) [] := F.bindsN (ps := ["outline", "at"]) fun _ _ _ _ _ _ us hl => match us, hl with | [_, _], _ => rfl
theorem sc__law_cup : FnScope (["script", "cell"] : List Str) (["script"] : List Str) (defScope (top 41)) := ⟨rfl, rfl, rfl, by decide +kernel, rfl, by decide +kernel, by decide +kernel⟩
theorem bn__law_cup (fd : FuncData) (F : FunD K "_law_cup" "_law_cup" (defArgs (top 41)) (defBody (top 41)) (defScope (top 41)) [] [] (fa 30) fd) : Binds K fd (["script"] : List Str) [] := F.bindsN (ps := ["script"]) fun _ _ _ _ _ _ us hl => match us, hl with | [_], _ => rfl
theorem sc__law_roll : FnScope (["cup", "many", "deep", "found"] : List Str) (["cup", "many"] : List Str) (defScope (top 42)) := ⟨rfl, rfl, rfl, by decide +kernel, rfl, by decide +kernel, by decide +kernel⟩
theorem bn__law_roll (fd : FuncData) (F : FunD K "_law_roll" "_law_roll" (defArgs (top 42)) (defBody (top 42)) (defScope (top 42)) [] [] (fa 31) fd) : Binds K fd (["cup", "many"] : List Str) [] := F.bindsN (ps := ["cup", "many"]) fun _ _ _ _ _ _ us hl => match us, hl with | [_, _], _ => rfl
theorem sc__law_some : FnScope (["cup", "things"] : List Str) (["cup", "things"] : List Str) (defScope (top 43)) := ⟨rfl, rfl, rfl, by decide +kernel, rfl, by decide +kernel, by decide +kernel⟩
theorem bn__law_some (fd : FuncData) (F : FunD K "_law_some" "_law_some" (defArgs (top 43)) (defBody (top 43)) (defScope (top 43)) [] [] (fa 32) fd) : Binds K fd (["cup", "things"] : List Str) [] := F.bindsN (ps := ["cup", "things"]) fun _ _ _ _ _ _ us hl => match us, hl with | [_, _], _ => rfl
theorem sc__law_same : FnScope (["told", "due", "at"] : List Str) (["told", "due"] : List Str) (defScope (top 44)) := ⟨rfl, rfl, rfl, by decide +kernel, rfl, by decide +kernel, by decide +kernel⟩
theorem bn__law_same (fd : FuncData) (F : FunD K "_law_same" "_law_same" (defArgs (top 44)) (defBody (top 44)) (defScope (top 44)) [] [] (fa 33) fd) : Binds K fd (["told", "due"] : List Str) [] := F.bindsN (ps := ["told", "due"]) fun _ _ _ _ _ _ us hl => match us, hl with | [_, _], _ => rfl
theorem sc__law_word : FnScope (["call", "error", "kinds", "words", "word", "good"] : List Str) (["call"] : List Str) (defScope (top 45)) := ⟨rfl, rfl, rfl, by decide +kernel, rfl, by decide +kernel, by decide +kernel⟩
theorem bn__law_word (fd : FuncData) (F : FunD K "_law_word" "_law_word" (defArgs (top 45)) (defBody (top 45)) (defScope (top 45)) [] [] (fa 34) fd) : Binds K fd (["call"] : List Str) [] := F.bindsN (ps := ["call"]) fun _ _ _ _ _ _ us hl => match us, hl with | [_], _ => rfl
theorem sc__law_asked : FnScope (["outline", "one", "other", "at", "words", "call"] : List Str) (["outline", "one", "other", "at"] : List Str) (defScope (top 46)) := ⟨rfl, rfl, rfl, by decide +kernel, rfl, by decide +kernel, by decide +kernel⟩
theorem bn__law_asked (fd : FuncData) (F : FunD K "_law_asked" "_law_asked" (defArgs (top 46)) (defBody (top 46)) (defScope (top 46)) [] [] (fa 35) fd) : Binds K fd (["outline", "one", "other", "at"] : List Str) [] := F.bindsN (ps := ["outline", "one", "other", "at"]) fun _ _ _ _ _ _ us hl => match us, hl with | [_, _, _, _], _ => rfl
theorem sc_law : FnScope (["script", "cup", "four", "bads", "odd", "far", "five", "words", "at"] : List Str) (["script"] : List Str) (defScope (top 47)) := ⟨rfl, rfl, rfl, by decide +kernel, rfl, by decide +kernel, by decide +kernel⟩
theorem bn_law (fd : FuncData) (F : FunD K "law" "law" (defArgs (top 47)) (defBody (top 47)) (defScope (top 47)) [] [] (fa 36) fd) : Binds K fd (["script"] : List Str) [] := F.bindsN (ps := ["script"]) fun _ _ _ _ _ _ us hl => match us, hl with | [_], _ => rfl
theorem tx0 (S : Sx P w K mg base fa ca TT cp) : Tx P w K mg base fa ca TT cp (Py.callF Py.fns 0) 0 := by
  have d_is_whole : DefOk P w K mg base ⟨K, fa, ca, TT⟩ (Py.callF Py.fns 0) 0 0 1 := def_zero S.F_is_whole (ps := ["value"]) rfl bn_is_whole
  have d_fits_whole : DefOk P w K mg base ⟨K, fa, ca, TT⟩ (Py.callF Py.fns 0) 0 1 3 := def_zero S.F_fits_whole (ps := ["value", "low", "high"]) rfl bn_fits_whole
  have d_is_tuple_of : DefOk P w K mg base ⟨K, fa, ca, TT⟩ (Py.callF Py.fns 0) 0 2 3 := def_zero S.F_is_tuple_of (ps := ["value", "least", "most"]) rfl bn_is_tuple_of
  have d_fits_spot : DefOk P w K mg base ⟨K, fa, ca, TT⟩ (Py.callF Py.fns 0) 0 3 1 := def_zero S.F_fits_spot (ps := ["value"]) rfl bn_fits_spot
  have d_turn_of : DefOk P w K mg base ⟨K, fa, ca, TT⟩ (Py.callF Py.fns 0) 0 4 3 := def_zero S.F_turn_of (ps := ["one", "other", "third"]) rfl bn_turn_of
  have d_lies_between : DefOk P w K mg base ⟨K, fa, ca, TT⟩ (Py.callF Py.fns 0) 0 5 3 := def_zero S.F_lies_between (ps := ["one", "other", "spot"]) rfl bn_lies_between
  have d_do_cross : DefOk P w K mg base ⟨K, fa, ca, TT⟩ (Py.callF Py.fns 0) 0 6 4 := def_zero S.F_do_cross (ps := ["one", "other", "third", "fourth"]) rfl bn_do_cross
  have d_sides_of : DefOk P w K mg base ⟨K, fa, ca, TT⟩ (Py.callF Py.fns 0) 0 7 1 := def_zero S.F_sides_of (ps := ["outline"]) rfl bn_sides_of
  have d_do_fold : DefOk P w K mg base ⟨K, fa, ca, TT⟩ (Py.callF Py.fns 0) 0 8 3 := def_zero S.F_do_fold (ps := ["one", "corner", "other"]) rfl bn_do_fold
  have d_fits_outline : DefOk P w K mg base ⟨K, fa, ca, TT⟩ (Py.callF Py.fns 0) 0 9 1 := def_zero S.F_fits_outline (ps := ["value"]) rfl bn_fits_outline
  have d_need_outline : DefOk P w K mg base ⟨K, fa, ca, TT⟩ (Py.callF Py.fns 0) 0 10 1 := def_zero S.F_need_outline (ps := ["value"]) rfl bn_need_outline
  have d_need_spot : DefOk P w K mg base ⟨K, fa, ca, TT⟩ (Py.callF Py.fns 0) 0 11 1 := def_zero S.F_need_spot (ps := ["value"]) rfl bn_need_spot
  have d_area_in : DefOk P w K mg base ⟨K, fa, ca, TT⟩ (Py.callF Py.fns 0) 0 12 1 := def_zero S.F_area_in (ps := ["outline"]) rfl bn_area_in
  have d_turns_in : DefOk P w K mg base ⟨K, fa, ca, TT⟩ (Py.callF Py.fns 0) 0 13 1 := def_zero S.F_turns_in (ps := ["outline"]) rfl bn_turns_in
  have d_place_in : DefOk P w K mg base ⟨K, fa, ca, TT⟩ (Py.callF Py.fns 0) 0 14 2 := def_zero S.F_place_in (ps := ["outline", "spot"]) rfl bn_place_in
  have d_halves_in : DefOk P w K mg base ⟨K, fa, ca, TT⟩ (Py.callF Py.fns 0) 0 15 3 := def_zero S.F_halves_in (ps := ["one", "other", "spots"]) rfl bn_halves_in
  have d_do_see : DefOk P w K mg base ⟨K, fa, ca, TT⟩ (Py.callF Py.fns 0) 0 16 3 := def_zero S.F_do_see (ps := ["outline", "one", "other"]) rfl bn_do_see
  have d_is_ear : DefOk P w K mg base ⟨K, fa, ca, TT⟩ (Py.callF Py.fns 0) 0 17 2 := def_zero S.F_is_ear (ps := ["outline", "at"]) rfl bn_is_ear
  have d_is_outline : DefOk P w K mg base ⟨K, fa, ca, TT⟩ (Py.callF Py.fns 0) 0 18 1 := def_zero S.F_is_outline (ps := ["value"]) rfl bn_is_outline
  have d_twice_area_of : DefOk P w K mg base ⟨K, fa, ca, TT⟩ (Py.callF Py.fns 0) 0 19 1 := def_zero S.F_twice_area_of (ps := ["outline"]) rfl bn_twice_area_of
  have d_corner_turns : DefOk P w K mg base ⟨K, fa, ca, TT⟩ (Py.callF Py.fns 0) 0 20 1 := def_zero S.F_corner_turns (ps := ["outline"]) rfl bn_corner_turns
  have d_is_bulging : DefOk P w K mg base ⟨K, fa, ca, TT⟩ (Py.callF Py.fns 0) 0 21 1 := def_zero S.F_is_bulging (ps := ["outline"]) rfl bn_is_bulging
  have d_place_of : DefOk P w K mg base ⟨K, fa, ca, TT⟩ (Py.callF Py.fns 0) 0 22 2 := def_zero S.F_place_of (ps := ["outline", "spot"]) rfl bn_place_of
  have d_need_within : DefOk P w K mg base ⟨K, fa, ca, TT⟩ (Py.callF Py.fns 0) 0 23 2 := def_zero S.F_need_within (ps := ["outline", "spot"]) rfl bn_need_within
  have d_sees : DefOk P w K mg base ⟨K, fa, ca, TT⟩ (Py.callF Py.fns 0) 0 24 3 := def_zero S.F_sees (ps := ["outline", "one", "other"]) rfl bn_sees
  have d_corners_seen : DefOk P w K mg base ⟨K, fa, ca, TT⟩ (Py.callF Py.fns 0) 0 25 2 := def_zero S.F_corners_seen (ps := ["outline", "spot"]) rfl bn_corners_seen
  have d_sees_all : DefOk P w K mg base ⟨K, fa, ca, TT⟩ (Py.callF Py.fns 0) 0 26 2 := def_zero S.F_sees_all (ps := ["outline", "spot"]) rfl bn_sees_all
  have d_corners_that_see : DefOk P w K mg base ⟨K, fa, ca, TT⟩ (Py.callF Py.fns 0) 0 27 1 := def_zero S.F_corners_that_see (ps := ["outline"]) rfl bn_corners_that_see
  have d_ears : DefOk P w K mg base ⟨K, fa, ca, TT⟩ (Py.callF Py.fns 0) 0 28 1 := def_zero S.F_ears (ps := ["outline"]) rfl bn_ears
  have d_cut_off : DefOk P w K mg base ⟨K, fa, ca, TT⟩ (Py.callF Py.fns 0) 0 29 2 := def_zero S.F_cut_off (ps := ["outline", "at"]) rfl bn_cut_off
  have d__law_cup : DefOk P w K mg base ⟨K, fa, ca, TT⟩ (Py.callF Py.fns 0) 0 30 1 := def_zero S.F__law_cup (ps := ["script"]) rfl bn__law_cup
  have d__law_roll : DefOk P w K mg base ⟨K, fa, ca, TT⟩ (Py.callF Py.fns 0) 0 31 2 := def_zero S.F__law_roll (ps := ["cup", "many"]) rfl bn__law_roll
  have d__law_some : DefOk P w K mg base ⟨K, fa, ca, TT⟩ (Py.callF Py.fns 0) 0 32 2 := def_zero S.F__law_some (ps := ["cup", "things"]) rfl bn__law_some
  have d__law_same : DefOk P w K mg base ⟨K, fa, ca, TT⟩ (Py.callF Py.fns 0) 0 33 2 := def_zero S.F__law_same (ps := ["told", "due"]) rfl bn__law_same
  have d__law_word : DefOk P w K mg base ⟨K, fa, ca, TT⟩ (Py.callF Py.fns 0) 0 34 1 := def_zero S.F__law_word (ps := ["call"]) rfl bn__law_word
  have d__law_asked : DefOk P w K mg base ⟨K, fa, ca, TT⟩ (Py.callF Py.fns 0) 0 35 4 := def_zero S.F__law_asked (ps := ["outline", "one", "other", "at"]) rfl bn__law_asked
  have d_law : DefOk P w K mg base ⟨K, fa, ca, TT⟩ (Py.callF Py.fns 0) 0 36 1 := def_zero S.F_law (ps := ["script"]) rfl bn_law
  exact { S with d_is_whole := d_is_whole, d_fits_whole := d_fits_whole, d_is_tuple_of := d_is_tuple_of, d_fits_spot := d_fits_spot, d_turn_of := d_turn_of, d_lies_between := d_lies_between, d_do_cross := d_do_cross, d_sides_of := d_sides_of, d_do_fold := d_do_fold, d_fits_outline := d_fits_outline, d_need_outline := d_need_outline, d_need_spot := d_need_spot, d_area_in := d_area_in, d_turns_in := d_turns_in, d_place_in := d_place_in, d_halves_in := d_halves_in, d_do_see := d_do_see, d_is_ear := d_is_ear, d_is_outline := d_is_outline, d_twice_area_of := d_twice_area_of, d_corner_turns := d_corner_turns, d_is_bulging := d_is_bulging, d_place_of := d_place_of, d_need_within := d_need_within, d_sees := d_sees, d_corners_seen := d_corners_seen, d_sees_all := d_sees_all, d_corners_that_see := d_corners_that_see, d_ears := d_ears, d_cut_off := d_cut_off, d__law_cup := d__law_cup, d__law_roll := d__law_roll, d__law_some := d__law_some, d__law_same := d__law_same, d__law_word := d__law_word, d__law_asked := d__law_asked, d_law := d_law, l__law_word := lam_zero S.F__law_word, fam := fun f hf => match f, hf with | 0, _ => ⟨_, d_is_whole⟩ | 1, _ => ⟨_, d_fits_whole⟩ | 2, _ => ⟨_, d_is_tuple_of⟩ | 3, _ => ⟨_, d_fits_spot⟩ | 4, _ => ⟨_, d_turn_of⟩ | 5, _ => ⟨_, d_lies_between⟩ | 6, _ => ⟨_, d_do_cross⟩ | 7, _ => ⟨_, d_sides_of⟩ | 8, _ => ⟨_, d_do_fold⟩ | 9, _ => ⟨_, d_fits_outline⟩ | 10, _ => ⟨_, d_need_outline⟩ | 11, _ => ⟨_, d_need_spot⟩ | 12, _ => ⟨_, d_area_in⟩ | 13, _ => ⟨_, d_turns_in⟩ | 14, _ => ⟨_, d_place_in⟩ | 15, _ => ⟨_, d_halves_in⟩ | 16, _ => ⟨_, d_do_see⟩ | 17, _ => ⟨_, d_is_ear⟩ | 18, _ => ⟨_, d_is_outline⟩ | 19, _ => ⟨_, d_twice_area_of⟩ | 20, _ => ⟨_, d_corner_turns⟩ | 21, _ => ⟨_, d_is_bulging⟩ | 22, _ => ⟨_, d_place_of⟩ | 23, _ => ⟨_, d_need_within⟩ | 24, _ => ⟨_, d_sees⟩ | 25, _ => ⟨_, d_corners_seen⟩ | 26, _ => ⟨_, d_sees_all⟩ | 27, _ => ⟨_, d_corners_that_see⟩ | 28, _ => ⟨_, d_ears⟩ | 29, _ => ⟨_, d_cut_off⟩ | 30, _ => ⟨_, d__law_cup⟩ | 31, _ => ⟨_, d__law_roll⟩ | 32, _ => ⟨_, d__law_some⟩ | 33, _ => ⟨_, d__law_same⟩ | 34, _ => ⟨_, d__law_word⟩ | 35, _ => ⟨_, d__law_asked⟩ | 36, _ => ⟨_, d_law⟩ | n + 37, h => absurd h (by omega) }
theorem s_is_whole {n : Nat} (T : Tx P w K mg base fa ca TT cp (Py.callF Py.fns n) (3 * n)) : DefOk P w K mg base ⟨K, fa, ca, TT⟩ (Py.callF Py.fns (n + 1)) (3 * n + 3) 0 1 := def_succ (g := ⟨K, fa, ca, TT⟩) (fdn := ⟨1, 1, Py.f_is_whole⟩) T.F_is_whole sc_is_whole bn_is_whole rfl rfl rfl fun cdv A outer s H E hr => b_is_whole T cdv A outer s H E _ hr
theorem s_fits_whole {n : Nat} (T : Tx P w K mg base fa ca TT cp (Py.callF Py.fns n) (3 * n)) : DefOk P w K mg base ⟨K, fa, ca, TT⟩ (Py.callF Py.fns (n + 1)) (3 * n + 3) 1 3 := def_succ (g := ⟨K, fa, ca, TT⟩) (fdn := ⟨3, 3, Py.f_fits_whole⟩) T.F_fits_whole sc_fits_whole bn_fits_whole rfl rfl rfl fun cdv A outer s H E hr => b_fits_whole T cdv A outer s H E _ hr
theorem s_is_tuple_of {n : Nat} (T : Tx P w K mg base fa ca TT cp (Py.callF Py.fns n) (3 * n)) : DefOk P w K mg base ⟨K, fa, ca, TT⟩ (Py.callF Py.fns (n + 1)) (3 * n + 3) 2 3 := def_succ (g := ⟨K, fa, ca, TT⟩) (fdn := ⟨3, 3, Py.f_is_tuple_of⟩) T.F_is_tuple_of sc_is_tuple_of bn_is_tuple_of rfl rfl rfl fun cdv A outer s H E hr => b_is_tuple_of T cdv A outer s H E _ hr
theorem s_fits_spot {n : Nat} (T : Tx P w K mg base fa ca TT cp (Py.callF Py.fns n) (3 * n)) : DefOk P w K mg base ⟨K, fa, ca, TT⟩ (Py.callF Py.fns (n + 1)) (3 * n + 3) 3 1 := def_succ (g := ⟨K, fa, ca, TT⟩) (fdn := ⟨1, 2, Py.f_fits_spot⟩) T.F_fits_spot sc_fits_spot bn_fits_spot rfl rfl rfl fun cdv A outer s H E hr => b_fits_spot T cdv A outer s H E _ hr
theorem s_turn_of {n : Nat} (T : Tx P w K mg base fa ca TT cp (Py.callF Py.fns n) (3 * n)) : DefOk P w K mg base ⟨K, fa, ca, TT⟩ (Py.callF Py.fns (n + 1)) (3 * n + 3) 4 3 := def_succ (g := ⟨K, fa, ca, TT⟩) (fdn := ⟨3, 5, Py.f_turn_of⟩) T.F_turn_of sc_turn_of bn_turn_of rfl rfl rfl fun cdv A outer s H E hr => b_turn_of T cdv A outer s H E _ hr
theorem s_lies_between {n : Nat} (T : Tx P w K mg base fa ca TT cp (Py.callF Py.fns n) (3 * n)) : DefOk P w K mg base ⟨K, fa, ca, TT⟩ (Py.callF Py.fns (n + 1)) (3 * n + 3) 5 3 := def_succ (g := ⟨K, fa, ca, TT⟩) (fdn := ⟨3, 3, Py.f_lies_between⟩) T.F_lies_between sc_lies_between bn_lies_between rfl rfl rfl fun cdv A outer s H E hr => b_lies_between T cdv A outer s H E _ hr
theorem s_do_cross {n : Nat} (T : Tx P w K mg base fa ca TT cp (Py.callF Py.fns n) (3 * n)) : DefOk P w K mg base ⟨K, fa, ca, TT⟩ (Py.callF Py.fns (n + 1)) (3 * n + 3) 6 4 := def_succ (g := ⟨K, fa, ca, TT⟩) (fdn := ⟨4, 6, Py.f_do_cross⟩) T.F_do_cross sc_do_cross bn_do_cross rfl rfl rfl fun cdv A outer s H E hr => b_do_cross T cdv A outer s H E _ hr
theorem s_sides_of {n : Nat} (T : Tx P w K mg base fa ca TT cp (Py.callF Py.fns n) (3 * n)) : DefOk P w K mg base ⟨K, fa, ca, TT⟩ (Py.callF Py.fns (n + 1)) (3 * n + 3) 7 1 := def_succ (g := ⟨K, fa, ca, TT⟩) (fdn := ⟨1, 1, Py.f_sides_of⟩) T.F_sides_of sc_sides_of bn_sides_of rfl rfl rfl fun cdv A outer s H E hr => b_sides_of T cdv A outer s H E _ hr
theorem s_do_fold {n : Nat} (T : Tx P w K mg base fa ca TT cp (Py.callF Py.fns n) (3 * n)) : DefOk P w K mg base ⟨K, fa, ca, TT⟩ (Py.callF Py.fns (n + 1)) (3 * n + 3) 8 3 := def_succ (g := ⟨K, fa, ca, TT⟩) (fdn := ⟨3, 3, Py.f_do_fold⟩) T.F_do_fold sc_do_fold bn_do_fold rfl rfl rfl fun cdv A outer s H E hr => b_do_fold T cdv A outer s H E _ hr
theorem s_fits_outline {n : Nat} (T : Tx P w K mg base fa ca TT cp (Py.callF Py.fns n) (3 * n)) : DefOk P w K mg base ⟨K, fa, ca, TT⟩ (Py.callF Py.fns (n + 1)) (3 * n + 3) 9 1 := def_succ (g := ⟨K, fa, ca, TT⟩) (fdn := ⟨1, 8, Py.f_fits_outline⟩) T.F_fits_outline sc_fits_outline bn_fits_outline rfl rfl rfl fun cdv A outer s H E hr => b_fits_outline T cdv A outer s H E _ hr
theorem s_need_outline {n : Nat} (T : Tx P w K mg base fa ca TT cp (Py.callF Py.fns n) (3 * n)) : DefOk P w K mg base ⟨K, fa, ca, TT⟩ (Py.callF Py.fns (n + 1)) (3 * n + 3) 10 1 := def_succ (g := ⟨K, fa, ca, TT⟩) (fdn := ⟨1, 1, Py.f_need_outline⟩) T.F_need_outline sc_need_outline bn_need_outline rfl rfl rfl fun cdv A outer s H E hr => b_need_outline T cdv A outer s H E _ hr
theorem s_need_spot {n : Nat} (T : Tx P w K mg base fa ca TT cp (Py.callF Py.fns n) (3 * n)) : DefOk P w K mg base ⟨K, fa, ca, TT⟩ (Py.callF Py.fns (n + 1)) (3 * n + 3) 11 1 := def_succ (g := ⟨K, fa, ca, TT⟩) (fdn := ⟨1, 1, Py.f_need_spot⟩) T.F_need_spot sc_need_spot bn_need_spot rfl rfl rfl fun cdv A outer s H E hr => b_need_spot T cdv A outer s H E _ hr
theorem s_area_in {n : Nat} (T : Tx P w K mg base fa ca TT cp (Py.callF Py.fns n) (3 * n)) : DefOk P w K mg base ⟨K, fa, ca, TT⟩ (Py.callF Py.fns (n + 1)) (3 * n + 3) 12 1 := def_succ (g := ⟨K, fa, ca, TT⟩) (fdn := ⟨1, 3, Py.f_area_in⟩) T.F_area_in sc_area_in bn_area_in rfl rfl rfl fun cdv A outer s H E hr => b_area_in T cdv A outer s H E _ hr
theorem s_turns_in {n : Nat} (T : Tx P w K mg base fa ca TT cp (Py.callF Py.fns n) (3 * n)) : DefOk P w K mg base ⟨K, fa, ca, TT⟩ (Py.callF Py.fns (n + 1)) (3 * n + 3) 13 1 := def_succ (g := ⟨K, fa, ca, TT⟩) (fdn := ⟨1, 5, Py.f_turns_in⟩) T.F_turns_in sc_turns_in bn_turns_in rfl rfl rfl fun cdv A outer s H E hr => b_turns_in T cdv A outer s H E _ hr
theorem s_place_in {n : Nat} (T : Tx P w K mg base fa ca TT cp (Py.callF Py.fns n) (3 * n)) : DefOk P w K mg base ⟨K, fa, ca, TT⟩ (Py.callF Py.fns (n + 1)) (3 * n + 3) 14 2 := def_succ (g := ⟨K, fa, ca, TT⟩) (fdn := ⟨2, 6, Py.f_place_in⟩) T.F_place_in sc_place_in bn_place_in rfl rfl rfl fun cdv A outer s H E hr => b_place_in T cdv A outer s H E _ hr
theorem s_halves_in {n : Nat} (T : Tx P w K mg base fa ca TT cp (Py.callF Py.fns n) (3 * n)) : DefOk P w K mg base ⟨K, fa, ca, TT⟩ (Py.callF Py.fns (n + 1)) (3 * n + 3) 15 3 := def_succ (g := ⟨K, fa, ca, TT⟩) (fdn := ⟨3, 13, Py.f_halves_in⟩) T.F_halves_in sc_halves_in bn_halves_in rfl rfl rfl fun cdv A outer s H E hr => b_halves_in T cdv A outer s H E _ hr
theorem s_do_see {n : Nat} (T : Tx P w K mg base fa ca TT cp (Py.callF Py.fns n) (3 * n)) : DefOk P w K mg base ⟨K, fa, ca, TT⟩ (Py.callF Py.fns (n + 1)) (3 * n + 3) 16 3 := def_succ (g := ⟨K, fa, ca, TT⟩) (fdn := ⟨3, 11, Py.f_do_see⟩) T.F_do_see sc_do_see bn_do_see rfl rfl rfl fun cdv A outer s H E hr => b_do_see T cdv A outer s H E _ hr
theorem s_is_ear {n : Nat} (T : Tx P w K mg base fa ca TT cp (Py.callF Py.fns n) (3 * n)) : DefOk P w K mg base ⟨K, fa, ca, TT⟩ (Py.callF Py.fns (n + 1)) (3 * n + 3) 17 2 := def_succ (g := ⟨K, fa, ca, TT⟩) (fdn := ⟨2, 6, Py.f_is_ear⟩) T.F_is_ear sc_is_ear bn_is_ear rfl rfl rfl fun cdv A outer s H E hr => b_is_ear T cdv A outer s H E _ hr
theorem s_is_outline {n : Nat} (T : Tx P w K mg base fa ca TT cp (Py.callF Py.fns n) (3 * n)) : DefOk P w K mg base ⟨K, fa, ca, TT⟩ (Py.callF Py.fns (n + 1)) (3 * n + 3) 18 1 := def_succ (g := ⟨K, fa, ca, TT⟩) (fdn := ⟨1, 1, Py.f_is_outline⟩) T.F_is_outline sc_is_outline bn_is_outline rfl rfl rfl fun cdv A outer s H E hr => b_is_outline T cdv A outer s H E _ hr
theorem s_twice_area_of {n : Nat} (T : Tx P w K mg base fa ca TT cp (Py.callF Py.fns n) (3 * n)) : DefOk P w K mg base ⟨K, fa, ca, TT⟩ (Py.callF Py.fns (n + 1)) (3 * n + 3) 19 1 := def_succ (g := ⟨K, fa, ca, TT⟩) (fdn := ⟨1, 1, Py.f_twice_area_of⟩) T.F_twice_area_of sc_twice_area_of bn_twice_area_of rfl rfl rfl fun cdv A outer s H E hr => b_twice_area_of T cdv A outer s H E _ hr
theorem s_corner_turns {n : Nat} (T : Tx P w K mg base fa ca TT cp (Py.callF Py.fns n) (3 * n)) : DefOk P w K mg base ⟨K, fa, ca, TT⟩ (Py.callF Py.fns (n + 1)) (3 * n + 3) 20 1 := def_succ (g := ⟨K, fa, ca, TT⟩) (fdn := ⟨1, 1, Py.f_corner_turns⟩) T.F_corner_turns sc_corner_turns bn_corner_turns rfl rfl rfl fun cdv A outer s H E hr => b_corner_turns T cdv A outer s H E _ hr
theorem s_is_bulging {n : Nat} (T : Tx P w K mg base fa ca TT cp (Py.callF Py.fns n) (3 * n)) : DefOk P w K mg base ⟨K, fa, ca, TT⟩ (Py.callF Py.fns (n + 1)) (3 * n + 3) 21 1 := def_succ (g := ⟨K, fa, ca, TT⟩) (fdn := ⟨1, 2, Py.f_is_bulging⟩) T.F_is_bulging sc_is_bulging bn_is_bulging rfl rfl rfl fun cdv A outer s H E hr => b_is_bulging T cdv A outer s H E _ hr
theorem s_place_of {n : Nat} (T : Tx P w K mg base fa ca TT cp (Py.callF Py.fns n) (3 * n)) : DefOk P w K mg base ⟨K, fa, ca, TT⟩ (Py.callF Py.fns (n + 1)) (3 * n + 3) 22 2 := def_succ (g := ⟨K, fa, ca, TT⟩) (fdn := ⟨2, 2, Py.f_place_of⟩) T.F_place_of sc_place_of bn_place_of rfl rfl rfl fun cdv A outer s H E hr => b_place_of T cdv A outer s H E _ hr
theorem s_need_within {n : Nat} (T : Tx P w K mg base fa ca TT cp (Py.callF Py.fns n) (3 * n)) : DefOk P w K mg base ⟨K, fa, ca, TT⟩ (Py.callF Py.fns (n + 1)) (3 * n + 3) 23 2 := def_succ (g := ⟨K, fa, ca, TT⟩) (fdn := ⟨2, 2, Py.f_need_within⟩) T.F_need_within sc_need_within bn_need_within rfl rfl rfl fun cdv A outer s H E hr => b_need_within T cdv A outer s H E _ hr
theorem s_sees {n : Nat} (T : Tx P w K mg base fa ca TT cp (Py.callF Py.fns n) (3 * n)) : DefOk P w K mg base ⟨K, fa, ca, TT⟩ (Py.callF Py.fns (n + 1)) (3 * n + 3) 24 3 := def_succ (g := ⟨K, fa, ca, TT⟩) (fdn := ⟨3, 3, Py.f_sees⟩) T.F_sees sc_sees bn_sees rfl rfl rfl fun cdv A outer s H E hr => b_sees T cdv A outer s H E _ hr
theorem s_corners_seen {n : Nat} (T : Tx P w K mg base fa ca TT cp (Py.callF Py.fns n) (3 * n)) : DefOk P w K mg base ⟨K, fa, ca, TT⟩ (Py.callF Py.fns (n + 1)) (3 * n + 3) 25 2 := def_succ (g := ⟨K, fa, ca, TT⟩) (fdn := ⟨2, 4, Py.f_corners_seen⟩) T.F_corners_seen sc_corners_seen bn_corners_seen rfl rfl rfl fun cdv A outer s H E hr => b_corners_seen T cdv A outer s H E _ hr
theorem s_sees_all {n : Nat} (T : Tx P w K mg base fa ca TT cp (Py.callF Py.fns n) (3 * n)) : DefOk P w K mg base ⟨K, fa, ca, TT⟩ (Py.callF Py.fns (n + 1)) (3 * n + 3) 26 2 := def_succ (g := ⟨K, fa, ca, TT⟩) (fdn := ⟨2, 5, Py.f_sees_all⟩) T.F_sees_all sc_sees_all bn_sees_all rfl rfl rfl fun cdv A outer s H E hr => b_sees_all T cdv A outer s H E _ hr
theorem s_corners_that_see {n : Nat} (T : Tx P w K mg base fa ca TT cp (Py.callF Py.fns n) (3 * n)) : DefOk P w K mg base ⟨K, fa, ca, TT⟩ (Py.callF Py.fns (n + 1)) (3 * n + 3) 27 1 := def_succ (g := ⟨K, fa, ca, TT⟩) (fdn := ⟨1, 9, Py.f_corners_that_see⟩) T.F_corners_that_see sc_corners_that_see bn_corners_that_see rfl rfl rfl fun cdv A outer s H E hr => b_corners_that_see T cdv A outer s H E _ hr
theorem s_ears {n : Nat} (T : Tx P w K mg base fa ca TT cp (Py.callF Py.fns n) (3 * n)) : DefOk P w K mg base ⟨K, fa, ca, TT⟩ (Py.callF Py.fns (n + 1)) (3 * n + 3) 28 1 := def_succ (g := ⟨K, fa, ca, TT⟩) (fdn := ⟨1, 2, Py.f_ears⟩) T.F_ears sc_ears bn_ears rfl rfl rfl fun cdv A outer s H E hr => b_ears T cdv A outer s H E _ hr
theorem s_cut_off {n : Nat} (T : Tx P w K mg base fa ca TT cp (Py.callF Py.fns n) (3 * n)) : DefOk P w K mg base ⟨K, fa, ca, TT⟩ (Py.callF Py.fns (n + 1)) (3 * n + 3) 29 2 := def_succ (g := ⟨K, fa, ca, TT⟩) (fdn := ⟨2, 2, Py.f_cut_off⟩) T.F_cut_off sc_cut_off bn_cut_off rfl rfl rfl fun cdv A outer s H E hr => b_cut_off T cdv A outer s H E _ hr
theorem s__law_cup {n : Nat} (T : Tx P w K mg base fa ca TT cp (Py.callF Py.fns n) (3 * n)) : DefOk P w K mg base ⟨K, fa, ca, TT⟩ (Py.callF Py.fns (n + 1)) (3 * n + 3) 30 1 := def_succ (g := ⟨K, fa, ca, TT⟩) (fdn := ⟨1, 2, Py.f__law_cup⟩) T.F__law_cup sc__law_cup bn__law_cup rfl rfl rfl fun cdv A outer s H E hr => b__law_cup T cdv A outer s H E _ hr
theorem s__law_roll {n : Nat} (T : Tx P w K mg base fa ca TT cp (Py.callF Py.fns n) (3 * n)) : DefOk P w K mg base ⟨K, fa, ca, TT⟩ (Py.callF Py.fns (n + 1)) (3 * n + 3) 31 2 := def_succ (g := ⟨K, fa, ca, TT⟩) (fdn := ⟨2, 4, Py.f__law_roll⟩) T.F__law_roll sc__law_roll bn__law_roll rfl rfl rfl fun cdv A outer s H E hr => b__law_roll T cdv A outer s H E _ hr
theorem s__law_some {n : Nat} (T : Tx P w K mg base fa ca TT cp (Py.callF Py.fns n) (3 * n)) : DefOk P w K mg base ⟨K, fa, ca, TT⟩ (Py.callF Py.fns (n + 1)) (3 * n + 3) 32 2 := def_succ (g := ⟨K, fa, ca, TT⟩) (fdn := ⟨2, 2, Py.f__law_some⟩) T.F__law_some sc__law_some bn__law_some rfl rfl rfl fun cdv A outer s H E hr => b__law_some T cdv A outer s H E _ hr
theorem s__law_same {n : Nat} (T : Tx P w K mg base fa ca TT cp (Py.callF Py.fns n) (3 * n)) : DefOk P w K mg base ⟨K, fa, ca, TT⟩ (Py.callF Py.fns (n + 1)) (3 * n + 3) 33 2 := def_succ (g := ⟨K, fa, ca, TT⟩) (fdn := ⟨2, 3, Py.f__law_same⟩) T.F__law_same sc__law_same bn__law_same rfl rfl rfl fun cdv A outer s H E hr => b__law_same T cdv A outer s H E _ hr
theorem s__law_word {n : Nat} (T : Tx P w K mg base fa ca TT cp (Py.callF Py.fns n) (3 * n)) : DefOk P w K mg base ⟨K, fa, ca, TT⟩ (Py.callF Py.fns (n + 1)) (3 * n + 3) 34 1 := def_succ (g := ⟨K, fa, ca, TT⟩) (fdn := ⟨1, 6, Py.f__law_word⟩) T.F__law_word sc__law_word bn__law_word rfl rfl rfl fun cdv A outer s H E hr => b__law_word T Fx.none (fun _ _ _ _ z => z) cdv A outer s H E _ hr (fun _ _ _ _ _ _ => act_none)
theorem t__law_word {n : Nat} (T : Tx P w K mg base fa ca TT cp (Py.callF Py.fns n) (3 * n)) : LamOk P w K mg base ⟨K, fa, ca, TT⟩ (Py.callF Py.fns (n + 1)) (3 * n + 3) 34 "call" := lam_succ (g := ⟨K, fa, ca, TT⟩) (fdn := ⟨1, 6, Py.f__law_word⟩) T.F__law_word sc__law_word bn__law_word rfl (by first | exact Or.inl rfl | exact Or.inr (Or.inl rfl) | exact Or.inr (Or.inr rfl)) rfl rfl rfl (by decide) fun c cdv A outer s H E hnx hr act => b__law_word T c hnx cdv A outer s H E _ hr act
theorem s__law_asked {n : Nat} (T : Tx P w K mg base fa ca TT cp (Py.callF Py.fns n) (3 * n)) : DefOk P w K mg base ⟨K, fa, ca, TT⟩ (Py.callF Py.fns (n + 1)) (3 * n + 3) 35 4 := def_succM (g := ⟨K, fa, ca, TT⟩) (fdn := ⟨4, 6, Py.f__law_asked⟩) T.F__law_asked sc__law_asked bn__law_asked T.hc__law_asked rfl rfl rfl fun A outer s H E hr => b__law_asked T _ _ T.tb__law_asked T.ht__law_asked T.hq__law_asked A outer s H E _ hr
theorem s_law {n : Nat} (T : Tx P w K mg base fa ca TT cp (Py.callF Py.fns n) (3 * n)) : DefOk P w K mg base ⟨K, fa, ca, TT⟩ (Py.callF Py.fns (n + 1)) (3 * n + 3) 36 1 := def_succM (g := ⟨K, fa, ca, TT⟩) (fdn := ⟨1, 9, Py.f_law⟩) T.F_law sc_law bn_law T.hc_law rfl rfl rfl fun A outer s H E hr => b_law T _ _ T.tb_law T.ht_law T.hq_law A outer s H E _ hr
theorem tx1 {n : Nat} (T : Tx P w K mg base fa ca TT cp (Py.callF Py.fns n) (3 * n)) : Tx P w K mg base fa ca TT cp (Py.callF Py.fns (n + 1)) (3 * n + 3) :=
  { T.toSx with d_is_whole := s_is_whole T, d_fits_whole := s_fits_whole T, d_is_tuple_of := s_is_tuple_of T, d_fits_spot := s_fits_spot T, d_turn_of := s_turn_of T, d_lies_between := s_lies_between T, d_do_cross := s_do_cross T, d_sides_of := s_sides_of T, d_do_fold := s_do_fold T, d_fits_outline := s_fits_outline T, d_need_outline := s_need_outline T, d_need_spot := s_need_spot T, d_area_in := s_area_in T, d_turns_in := s_turns_in T, d_place_in := s_place_in T, d_halves_in := s_halves_in T, d_do_see := s_do_see T, d_is_ear := s_is_ear T, d_is_outline := s_is_outline T, d_twice_area_of := s_twice_area_of T, d_corner_turns := s_corner_turns T, d_is_bulging := s_is_bulging T, d_place_of := s_place_of T, d_need_within := s_need_within T, d_sees := s_sees T, d_corners_seen := s_corners_seen T, d_sees_all := s_sees_all T, d_corners_that_see := s_corners_that_see T, d_ears := s_ears T, d_cut_off := s_cut_off T, d__law_cup := s__law_cup T, d__law_roll := s__law_roll T, d__law_some := s__law_some T, d__law_same := s__law_same T, d__law_word := s__law_word T, d__law_asked := s__law_asked T, d_law := s_law T, l__law_word := t__law_word T, fam := fun f hf => match f, hf with | 0, _ => ⟨_, s_is_whole T⟩ | 1, _ => ⟨_, s_fits_whole T⟩ | 2, _ => ⟨_, s_is_tuple_of T⟩ | 3, _ => ⟨_, s_fits_spot T⟩ | 4, _ => ⟨_, s_turn_of T⟩ | 5, _ => ⟨_, s_lies_between T⟩ | 6, _ => ⟨_, s_do_cross T⟩ | 7, _ => ⟨_, s_sides_of T⟩ | 8, _ => ⟨_, s_do_fold T⟩ | 9, _ => ⟨_, s_fits_outline T⟩ | 10, _ => ⟨_, s_need_outline T⟩ | 11, _ => ⟨_, s_need_spot T⟩ | 12, _ => ⟨_, s_area_in T⟩ | 13, _ => ⟨_, s_turns_in T⟩ | 14, _ => ⟨_, s_place_in T⟩ | 15, _ => ⟨_, s_halves_in T⟩ | 16, _ => ⟨_, s_do_see T⟩ | 17, _ => ⟨_, s_is_ear T⟩ | 18, _ => ⟨_, s_is_outline T⟩ | 19, _ => ⟨_, s_twice_area_of T⟩ | 20, _ => ⟨_, s_corner_turns T⟩ | 21, _ => ⟨_, s_is_bulging T⟩ | 22, _ => ⟨_, s_place_of T⟩ | 23, _ => ⟨_, s_need_within T⟩ | 24, _ => ⟨_, s_sees T⟩ | 25, _ => ⟨_, s_corners_seen T⟩ | 26, _ => ⟨_, s_sees_all T⟩ | 27, _ => ⟨_, s_corners_that_see T⟩ | 28, _ => ⟨_, s_ears T⟩ | 29, _ => ⟨_, s_cut_off T⟩ | 30, _ => ⟨_, s__law_cup T⟩ | 31, _ => ⟨_, s__law_roll T⟩ | 32, _ => ⟨_, s__law_some T⟩ | 33, _ => ⟨_, s__law_same T⟩ | 34, _ => ⟨_, s__law_word T⟩ | 35, _ => ⟨_, s__law_asked T⟩ | 36, _ => ⟨_, s_law T⟩ | n + 37, h => absurd h (by omega) }
theorem tx (S : Sx P w K mg base fa ca TT cp) : ∀ n, Tx P w K mg base fa ca TT cp (Py.callF Py.fns n) (3 * n)
  | 0 => tx0 S
  | n + 1 => tx1 (tx S n)
end
end Hd

set_option Elab.async false
set_option linter.all false
set_option maxRecDepth 100000
set_option maxHeartbeats 0
namespace Hd
open PySem PySem.Spec PyProof.Rows L2
def topH (i : Nat) : Stmt := PySem.Challenge.pw_leadlights_k81_whole_errors_of_outlines.main.body.getD i (.Pass ⟨0, 0, 0, 0⟩)
def dd (i : Nat) (x : Str) : He.DefD := ⟨(x, none), x, x, defArgs (topH i), defBody (topH i), defScope (topH i), [], []⟩
def fn : List He.DefD := [dd 8 "is_whole", dd 9 "fits_whole", dd 10 "is_tuple_of", dd 11 "fits_spot", dd 12 "turn_of", dd 13 "lies_between", dd 14 "do_cross", dd 17 "sides_of", dd 18 "do_fold", dd 19 "fits_outline", dd 20 "need_outline", dd 21 "need_spot", dd 22 "area_in", dd 23 "turns_in", dd 24 "place_in", dd 25 "halves_in", dd 26 "do_see", dd 27 "is_ear", dd 28 "is_outline", dd 29 "twice_area_of", dd 30 "corner_turns", dd 31 "is_bulging", dd 32 "place_of", dd 33 "need_within", dd 34 "sees", dd 35 "corners_seen", dd 36 "sees_all", dd 37 "corners_that_see", dd 38 "ears", dd 39 "cut_off", dd 41 "_law_cup", dd 42 "_law_roll", dd 43 "_law_some", dd 44 "_law_same", dd 45 "_law_word", dd 46 "_law_asked", dd 47 "law"]
def fa0 : List He.Fa := [.glo "is_whole", .glo "fits_whole", .glo "is_tuple_of", .glo "fits_spot", .glo "turn_of", .glo "lies_between", .glo "do_cross", .glo "sides_of", .glo "do_fold", .glo "fits_outline", .glo "need_outline", .glo "need_spot", .glo "area_in", .glo "turns_in", .glo "place_in", .glo "halves_in", .glo "do_see", .glo "is_ear", .glo "is_outline", .glo "twice_area_of", .glo "corner_turns", .glo "is_bulging", .glo "place_of", .glo "need_within", .glo "sees", .glo "corners_seen", .glo "sees_all", .glo "corners_that_see", .glo "ears", .glo "cut_off"]
def fa1 : List He.Fa := [.glo "_law_cup", .glo "_law_roll", .glo "_law_some", .glo "_law_same", .glo "_law_word", .glo "_law_asked", .glo "law", .glo "LeadError", .glo "InvalidSpot", .glo "InvalidRound", .glo "InvalidPlan", .glo "InvalidNumber", .exc "LeadError", .exc "InvalidSpot", .exc "InvalidRound", .exc "InvalidPlan", .exc "InvalidNumber", .int "FAR" 1000, .int "CORNERS" 16, .free "ValueError", .free "abs", .free "all", .free "any", .free "bool", .free "enumerate", .free "int", .free "isinstance", .free "len", .free "list", .free "max"]
def fa2 : List He.Fa := [.free "min", .free "range", .free "set", .free "sorted", .free "str", .free "sum", .free "tuple", .free "zip"]
def fa : List He.Fa := fa0 ++ (fa1 ++ (fa2))
def tf : List He.Defn := [("_law_asked", none), ("law", none)]
def loose : List Str := (["CORNERS", "FAR", "InvalidNumber", "InvalidPlan", "InvalidRound", "InvalidSpot", "LeadError", "_law_asked", "_law_cup", "_law_roll", "_law_same", "_law_some", "_law_word", "area_in", "corner_turns", "corners_seen", "corners_that_see", "cut_off", "do_cross", "do_fold", "do_see", "ears", "fits_outline", "fits_spot", "fits_whole", "halves_in", "is_bulging", "is_ear", "is_outline", "is_tuple_of"] : List Str) ++ (["is_whole", "lies_between", "need_outline", "need_spot", "need_within", "place_in", "place_of", "sees", "sees_all", "sides_of", "turn_of", "turns_in", "twice_area_of"] : List Str)
abbrev R : PySem.W.OpenRow := PySem.W.OpenLaw.row PySem.Challenge.rw_leadlights_k81_whole_errors_of_outlines
def cnames : List Str := ["LeadError", "InvalidSpot", "InvalidRound", "InvalidPlan", "InvalidNumber"]
def subs : List (List Nat) := [[0, 1, 2, 3, 4], [1], [2], [3], [4]]
def caH (K : PySem.W.Frag) (k : Nat) : Addr := He.ga K (cnames.getD k "")
def ex : PySem.W.Frag → Bool := fun K => Sd.kinB K (caH K) subs && decide ((tf.map fun p => (He.cT K p).2).Nodup)
abbrev hk : PySem.W.Hook := He.hookX 6 fa fn [] tf ex
def ob (s : PySem.W.SharedT) : He.AlX := He.obsX 6 fa fn [] tf ex (HandSHeadRun.getT s)
theorem ob_eq (s : PySem.W.SharedT) : ob s = hk.obs s.abs := He.obsX_eq (HandSHeadRun.getT_eq s)
theorem run (w : World) : HandSHeadRun.RunEq R (PySem.W.view R.prog [47]) hk ob 30000 loose w := by
  intro os
  kernel_rfl
end Hd

set_option autoImplicit false
set_option linter.all false
set_option maxRecDepth 100000
set_option maxHeartbeats 0
set_option Elab.async false
namespace Py
def S0 : Sn := (sNew 1 (eCallN 30 (aCons (eVar 0) aNil)))
def S1 : Sn := (sAsg 2 (eTup (aCons (eTup (aCons (eCst (.int 0)) (aCons (eCst (.int 0)) aNil))) (aCons (eTup (aCons (eCst (.int 8)) (aCons (eCst (.int 0)) aNil))) (aCons (eTup (aCons (eCst (.int 8)) (aCons (eCst (.int 8)) aNil))) (aCons (eTup (aCons (eCst (.int 0)) (aCons (eCst (.int 8)) aNil))) aNil))))))
def S2 : Sn := (sIf (tOr (tVal (eCmp cNe (eCall 35 (aCons (eVar 2) (aCons (eTup (aCons (eCst (.int 8)) (aCons (eCst (.int 3)) aNil))) (aCons (eTup (aCons (eCst (.int 4)) (aCons (eCst (.int 4)) aNil))) (aCons (eCst (.int 3)) aNil))))) (op2 vMul (eLst (aCons (eCst (.str [])) aNil)) (eCst (.int 10))))) (tVal (eCmp cNe (eCall 35 (aCons (eCut (eVar 2) oNone (oSome (eCst (.int 3)))) (aCons (eTup (aCons (eCst (.int 8)) (aCons (eCst (.int 0)) aNil))) (aCons (eTup (aCons (eCst (.int 8)) (aCons (eCst (.int 8)) aNil))) (aCons (eCst (.int 0)) aNil))))) (op2 vAdd (op2 vMul (eLst (aCons (eCst (.str [])) aNil)) (eCst (.int 9))) (eLst (aCons (eCst (.str [112, 108, 97, 110])) aNil)))))) (sRet (eCst (.bl false))) sPass)
def S3 : Sn := (sAsg 3 (eLst (aCons (eCst .non) (aCons (eTup aNil) (aCons (eCut (eVar 2) oNone (oSome (eCst (.int 2)))) (aCons (op1 vList (eVar 2)) (aCons (eCst (.str [114, 111, 117, 110, 100])) (aCons (eCst (.int 5)) (aCons (op2 vAdd (eVar 2) (eCut (eVar 2) oNone (oSome (eCst (.int 1))))) (aCons (eTup (aCons (eTup (aCons (eCst (.int 0)) (aCons (eCst (.int 0)) aNil))) (aCons (eTup (aCons (eCst (.int 8)) (aCons (eCst (.int 8)) aNil))) (aCons (eTup (aCons (eCst (.int 8)) (aCons (eCst (.int 0)) aNil))) (aCons (eTup (aCons (eCst (.int 0)) (aCons (eCst (.int 8)) aNil))) aNil))))) (aCons (eTup (aCons (eTup (aCons (eCst (.int 0)) (aCons (eCst (.int 0)) aNil))) (aCons (eTup (aCons (eCst (.int 1)) (aCons (eCst (.int 0)) aNil))) (aCons (eTup (aCons (eCst (.int 2)) (aCons (eCst (.int 0)) aNil))) aNil)))) aNil)))))))))))
def S4 : Sn := (sAsg 3 (op2 vAdd (eVar 3) (eLst (aCons (eTup (aCons (eTup (aCons (eCst (.int 0)) (aCons (eCst (.int 0)) aNil))) (aCons (eTup (aCons (eCst (.int 8)) (aCons (eCst (.int 0)) aNil))) (aCons (eTup (aCons (eCst (.int 8)) (aCons (eCst (.int 1001)) aNil))) aNil)))) (aCons (eTup (aCons (eTup (aCons (eCst (.int 0)) (aCons (eCst (.int 0)) aNil))) (aCons (eTup (aCons (eCst (.int 8)) (aCons (eCst (.int 0)) aNil))) (aCons (eTup (aCons (eCst (.bl true)) (aCons (eCst (.int 8)) aNil))) aNil)))) (aCons (eTup (aCons (eTup (aCons (eCst (.int 0)) (aCons (eCst (.int 0)) aNil))) (aCons (eTup (aCons (eCst (.int 8)) (aCons (eCst (.int 0)) aNil))) (aCons (eLst (aCons (eCst (.int 8)) (aCons (eCst (.int 8)) aNil))) aNil)))) (aCons (eTup (aCons (eTup (aCons (eCst (.int 0)) (aCons (eCst (.int 0)) aNil))) (aCons (eTup (aCons (eCst (.int 8)) (aCons (eCst (.int 0)) aNil))) (aCons (eCst .non) aNil)))) (aCons (op2 vMul (eTup (aCons (eTup (aCons (eCst (.int 0)) (aCons (eCst (.int 0)) aNil))) aNil)) (eCst (.int 3))) aNil))))))))
def S5 : Sn := (sAsg 3 (op2 vAdd (eVar 3) (eLst (aCons (eTup (aCons (eTup (aCons (eCst (.int 0)) (aCons (eCst (.int 0)) aNil))) (aCons (eTup (aCons (eCst (.int 8)) (aCons (eCst (.int 0)) aNil))) (aCons (eTup (aCons (eCst (.int 4)) (aCons (eCst (.int 0)) aNil))) (aCons (eTup (aCons (eCst (.int 4)) (aCons (eCst (.int 8)) aNil))) aNil))))) (aCons (eTup (aCons (eTup (aCons (eCst (.int 0)) (aCons (eCst (.int 0)) aNil))) (aCons (eTup (aCons (eCst (.int 8)) (aCons (eCst (.int 0)) aNil))) (aCons (eTup (aCons (eCst (.int 8)) (aCons (eCst (.int 8)) aNil))) (aCons (eTup (aCons (eCst (.int 4)) (aCons (eCst (.int 0)) aNil))) (aCons (eTup (aCons (eCst (.int 0)) (aCons (eCst (.int 8)) aNil))) aNil)))))) (aCons (op1 vTuple (eComp [8] (iRng1 (eCst (.int 17))) (gName 8) tYes (eTup (aCons (eVar 8) (aCons (op2 vMul (eVar 8) (eVar 8)) aNil))))) aNil))))))
def S6 : Sn := (sFor (iVal (eVar 3)) (gName 4) (sIf (tOr (tVal (eCmp cNe (eCall 35 (aCons (eVar 4) (aCons (eCst .non) (aCons (eCst .non) (aCons (eCst .non) aNil))))) (op2 vMul (eLst (aCons (eCst (.str [114, 111, 117, 110, 100])) aNil)) (eCst (.int 10))))) (tVal (eCmp cIsNot (eCall 18 (aCons (eVar 4) aNil)) (eCst (.bl false))))) (sRet (eCst (.bl false))) sPass))
def S7 : Sn := (sFor (iVal (eTup (aCons (eCst .non) (aCons (eTup aNil) (aCons (eTup (aCons (eCst (.int 0)) aNil)) (aCons (eLst (aCons (eCst (.int 4)) (aCons (eCst (.int 4)) aNil))) (aCons (eTup (aCons (eCst (.int 1001)) (aCons (eCst (.int 0)) aNil))) (aCons (eTup (aCons (eCst (.int 0)) (aCons (op1 vNeg (eCst (.int 1001))) aNil))) (aCons (eTup (aCons (eCst (.bl true)) (aCons (eCst (.int 4)) aNil))) (aCons (eTup (aCons (eCst (.int 4)) (aCons (eCst .non) aNil))) (aCons (eCst (.str [52, 52])) (aCons (eTup (aCons (eCst (.int 4)) (aCons (eCst (.int 4)) (aCons (eCst (.int 4)) aNil)))) aNil)))))))))))) (gName 4) (sSeq (sIf (tVal (eCmp cNe (eCall 35 (aCons (eVar 2) (aCons (eVar 4) (aCons (eCst .non) (aCons (eCst (.int 0)) aNil))))) (op2 vAdd (op2 vAdd (op2 vMul (eLst (aCons (eCst (.str [])) aNil)) (eCst (.int 5))) (op2 vMul (eLst (aCons (eCst (.str [115, 112, 111, 116])) aNil)) (eCst (.int 4)))) (eLst (aCons (eCst (.str [])) aNil))))) (sRet (eCst (.bl false))) sPass) (sIf (tVal (eCmp cNe (eCallL 34 (eCall 24 (aCons (eVar 2) (aCons (eTup (aCons (eCst (.int 4)) (aCons (eCst (.int 4)) aNil))) (aCons (eVar 4) aNil))))) (eCst (.str [115, 112, 111, 116])))) (sRet (eCst (.bl false))) sPass)))
def S8 : Sn := (sAsg 5 (eCall 32 (aCons (eVar 1) (aCons (eLst (aCons (eTup (aCons (eCst (.int 9)) (aCons (eCst (.int 4)) aNil))) (aCons (eTup (aCons (op1 vNeg (eCst (.int 1))) (aCons (eCst (.int 0)) aNil))) (aCons (eTup (aCons (eCst (.int 1000)) (aCons (op1 vNeg (eCst (.int 1000))) aNil))) (aCons (eTup (aCons (eCst (.int 4)) (aCons (eCst (.int 9)) aNil))) aNil))))) aNil))))
def S9 : Sn := (sIf (tOr (tVal (eCmp cNe (eCall 35 (aCons (eVar 2) (aCons (eVar 5) (aCons (eCst .non) (aCons (eCst (.int 0)) aNil))))) (op2 vAdd (op2 vAdd (op2 vMul (eLst (aCons (eCst (.str [])) aNil)) (eCst (.int 6))) (op2 vMul (eLst (aCons (eCst (.str [112, 108, 97, 110])) aNil)) (eCst (.int 3)))) (eLst (aCons (eCst (.str [])) aNil))))) (tVal (eCmp cNe (eCallL 34 (eCall 24 (aCons (eVar 2) (aCons (eTup (aCons (eCst (.int 0)) (aCons (eCst (.int 0)) aNil))) (aCons (eVar 5) aNil))))) (eCst (.str [112, 108, 97, 110]))))) (sRet (eCst (.bl false))) sPass)
def S10 : Sn := (sFor (iVal (eTup (aCons (eCst .non) (aCons (op1 vNeg (eCst (.int 1))) (aCons (eCst (.int 4)) (aCons (eCst (.bl true)) (aCons (eCst (.str [48])) (aCons (eTup (aCons (eCst (.int 0)) aNil)) aNil)))))))) (gName 4) (sIf (tVal (eCmp cNe (eCall 35 (aCons (eVar 2) (aCons (eTup (aCons (eCst (.int 0)) (aCons (eCst (.int 0)) aNil))) (aCons (eTup (aCons (eCst (.int 0)) (aCons (eCst (.int 0)) aNil))) (aCons (eVar 4) aNil))))) (op2 vAdd (op2 vMul (eLst (aCons (eCst (.str [])) aNil)) (eCst (.int 9))) (eLst (aCons (eCst (.str [110, 117, 109, 98, 101, 114])) aNil))))) (sRet (eCst (.bl false))) sPass))
def S11 : Sn := (sAsg 6 (eTup (aCons (eTup (aCons (eCst (.int 0)) (aCons (eCst (.int 0)) aNil))) (aCons (eTup (aCons (eCst (.int 6)) (aCons (eCst (.int 0)) aNil))) (aCons (eTup (aCons (eCst (.int 6)) (aCons (eCst (.int 6)) aNil))) (aCons (eTup (aCons (eCst (.int 3)) (aCons (eCst (.int 2)) aNil))) (aCons (eTup (aCons (eCst (.int 0)) (aCons (eCst (.int 6)) aNil))) aNil)))))))
def S12 : Sn := (sNew 7 (eF (eComp [8] (iVal (eTup (aCons (eCst (.int 0)) (aCons (eCst (.int 1)) (aCons (eCst (.int 3)) aNil))))) (gName 8) tYes (eCallL 34 (eCall 29 (aCons (eVar 6) (aCons (eVar 8) aNil)))))))
def S13 : Sn := (sExpr (upL1 7 (eCallL 34 (eCall 29 (aCons (eVar 6) (aCons (eCst (.int 2)) aNil)))) lAppend))
def S14 : Sn := (sRet (eAnd (eCmp cEq (eVar 7) (op2 vAdd (op2 vMul (eLst (aCons (eCst (.str [112, 108, 97, 110])) aNil)) (eCst (.int 3))) (eLst (aCons (eCst (.str [])) aNil)))) (eCall 33 (aCons (eTup (aCons (eCall 22 (aCons (eVar 2) (aCons (eVar 5) aNil))) (aCons (eCall 28 (aCons (eCut (eVar 2) oNone (oSome (eCst (.int 3)))) aNil)) (aCons (eCall 28 (aCons (eVar 2) aNil)) aNil)))) (aCons (eTup (aCons (eCst (.str [111, 117, 116])) (aCons (eTup aNil) (aCons (eTup (aCons (eCst (.int 0)) (aCons (eCst (.int 1)) (aCons (eCst (.int 2)) (aCons (eCst (.int 3)) aNil))))) aNil)))) aNil)))))
def R14 : Sn := S14
def R13 : Sn := sSeq S13 R14
def R12 : Sn := sSeq S12 R13
def R11 : Sn := sSeq S11 R12
def R10 : Sn := sSeq S10 R11
def R9 : Sn := sSeq S9 R10
def R8 : Sn := sSeq S8 R9
def R7 : Sn := sSeq S7 R8
def R6 : Sn := sSeq S6 R7
def R5 : Sn := sSeq S5 R6
def R4 : Sn := sSeq S4 R5
def R3 : Sn := sSeq S3 R4
def R2 : Sn := sSeq S2 R3
def R1 : Sn := sSeq S1 R2
def R0 : Sn := sSeq S0 R1
theorem f_law_eq : f_law = R0 := by kernel_rfl
abbrev cfv : CallF := callF fns 30
theorem g1 (xs : List D) (c0 c1 : Int) : S1 cfv [.d (.fn 99999), .m 1, .no, .no, .no, .no, .no, .no, .no] [.fz xs, .ml [(.int c0), (.int c1)]] = .nx [.d (.fn 99999), .m 1, .d (.tup [(.tup [(.int 0), (.int 0)]), (.tup [(.int 8), (.int 0)]), (.tup [(.int 8), (.int 8)]), (.tup [(.int 0), (.int 8)])]), .no, .no, .no, .no, .no, .no] [.fz xs, .ml [(.int c0), (.int c1)]] := by kernel_rfl
theorem g2 (xs : List D) (c0 c1 : Int) : S2 cfv [.d (.fn 99999), .m 1, .d (.tup [(.tup [(.int 0), (.int 0)]), (.tup [(.int 8), (.int 0)]), (.tup [(.int 8), (.int 8)]), (.tup [(.int 0), (.int 8)])]), .no, .no, .no, .no, .no, .no] [.fz xs, .ml [(.int c0), (.int c1)]] = .nx [.d (.fn 99999), .m 1, .d (.tup [(.tup [(.int 0), (.int 0)]), (.tup [(.int 8), (.int 0)]), (.tup [(.int 8), (.int 8)]), (.tup [(.int 0), (.int 8)])]), .no, .no, .no, .no, .no, .no] [.fz xs, .ml [(.int c0), (.int c1)]] := by kernel_rfl
theorem g3 (xs : List D) (c0 c1 : Int) : S3 cfv [.d (.fn 99999), .m 1, .d (.tup [(.tup [(.int 0), (.int 0)]), (.tup [(.int 8), (.int 0)]), (.tup [(.int 8), (.int 8)]), (.tup [(.int 0), (.int 8)])]), .no, .no, .no, .no, .no, .no] [.fz xs, .ml [(.int c0), (.int c1)]] = .nx [.d (.fn 99999), .m 1, .d (.tup [(.tup [(.int 0), (.int 0)]), (.tup [(.int 8), (.int 0)]), (.tup [(.int 8), (.int 8)]), (.tup [(.int 0), (.int 8)])]), .d (.lst [.non, (.tup []), (.tup [(.tup [(.int 0), (.int 0)]), (.tup [(.int 8), (.int 0)])]), (.lst [(.tup [(.int 0), (.int 0)]), (.tup [(.int 8), (.int 0)]), (.tup [(.int 8), (.int 8)]), (.tup [(.int 0), (.int 8)])]), (.str [114, 111, 117, 110, 100]), (.int 5), (.tup [(.tup [(.int 0), (.int 0)]), (.tup [(.int 8), (.int 0)]), (.tup [(.int 8), (.int 8)]), (.tup [(.int 0), (.int 8)]), (.tup [(.int 0), (.int 0)])]), (.tup [(.tup [(.int 0), (.int 0)]), (.tup [(.int 8), (.int 8)]), (.tup [(.int 8), (.int 0)]), (.tup [(.int 0), (.int 8)])]), (.tup [(.tup [(.int 0), (.int 0)]), (.tup [(.int 1), (.int 0)]), (.tup [(.int 2), (.int 0)])])]), .no, .no, .no, .no, .no] [.fz xs, .ml [(.int c0), (.int c1)]] := by kernel_rfl
theorem g4 (xs : List D) (c0 c1 : Int) : S4 cfv [.d (.fn 99999), .m 1, .d (.tup [(.tup [(.int 0), (.int 0)]), (.tup [(.int 8), (.int 0)]), (.tup [(.int 8), (.int 8)]), (.tup [(.int 0), (.int 8)])]), .d (.lst [.non, (.tup []), (.tup [(.tup [(.int 0), (.int 0)]), (.tup [(.int 8), (.int 0)])]), (.lst [(.tup [(.int 0), (.int 0)]), (.tup [(.int 8), (.int 0)]), (.tup [(.int 8), (.int 8)]), (.tup [(.int 0), (.int 8)])]), (.str [114, 111, 117, 110, 100]), (.int 5), (.tup [(.tup [(.int 0), (.int 0)]), (.tup [(.int 8), (.int 0)]), (.tup [(.int 8), (.int 8)]), (.tup [(.int 0), (.int 8)]), (.tup [(.int 0), (.int 0)])]), (.tup [(.tup [(.int 0), (.int 0)]), (.tup [(.int 8), (.int 8)]), (.tup [(.int 8), (.int 0)]), (.tup [(.int 0), (.int 8)])]), (.tup [(.tup [(.int 0), (.int 0)]), (.tup [(.int 1), (.int 0)]), (.tup [(.int 2), (.int 0)])])]), .no, .no, .no, .no, .no] [.fz xs, .ml [(.int c0), (.int c1)]] = .nx [.d (.fn 99999), .m 1, .d (.tup [(.tup [(.int 0), (.int 0)]), (.tup [(.int 8), (.int 0)]), (.tup [(.int 8), (.int 8)]), (.tup [(.int 0), (.int 8)])]), .d (.lst [.non, (.tup []), (.tup [(.tup [(.int 0), (.int 0)]), (.tup [(.int 8), (.int 0)])]), (.lst [(.tup [(.int 0), (.int 0)]), (.tup [(.int 8), (.int 0)]), (.tup [(.int 8), (.int 8)]), (.tup [(.int 0), (.int 8)])]), (.str [114, 111, 117, 110, 100]), (.int 5), (.tup [(.tup [(.int 0), (.int 0)]), (.tup [(.int 8), (.int 0)]), (.tup [(.int 8), (.int 8)]), (.tup [(.int 0), (.int 8)]), (.tup [(.int 0), (.int 0)])]), (.tup [(.tup [(.int 0), (.int 0)]), (.tup [(.int 8), (.int 8)]), (.tup [(.int 8), (.int 0)]), (.tup [(.int 0), (.int 8)])]), (.tup [(.tup [(.int 0), (.int 0)]), (.tup [(.int 1), (.int 0)]), (.tup [(.int 2), (.int 0)])]), (.tup [(.tup [(.int 0), (.int 0)]), (.tup [(.int 8), (.int 0)]), (.tup [(.int 8), (.int 1001)])]), (.tup [(.tup [(.int 0), (.int 0)]), (.tup [(.int 8), (.int 0)]), (.tup [(.bl true), (.int 8)])]), (.tup [(.tup [(.int 0), (.int 0)]), (.tup [(.int 8), (.int 0)]), (.lst [(.int 8), (.int 8)])]), (.tup [(.tup [(.int 0), (.int 0)]), (.tup [(.int 8), (.int 0)]), .non]), (.tup [(.tup [(.int 0), (.int 0)]), (.tup [(.int 0), (.int 0)]), (.tup [(.int 0), (.int 0)])])]), .no, .no, .no, .no, .no] [.fz xs, .ml [(.int c0), (.int c1)]] := by kernel_rfl
theorem g5 (xs : List D) (c0 c1 : Int) : S5 cfv [.d (.fn 99999), .m 1, .d (.tup [(.tup [(.int 0), (.int 0)]), (.tup [(.int 8), (.int 0)]), (.tup [(.int 8), (.int 8)]), (.tup [(.int 0), (.int 8)])]), .d (.lst [.non, (.tup []), (.tup [(.tup [(.int 0), (.int 0)]), (.tup [(.int 8), (.int 0)])]), (.lst [(.tup [(.int 0), (.int 0)]), (.tup [(.int 8), (.int 0)]), (.tup [(.int 8), (.int 8)]), (.tup [(.int 0), (.int 8)])]), (.str [114, 111, 117, 110, 100]), (.int 5), (.tup [(.tup [(.int 0), (.int 0)]), (.tup [(.int 8), (.int 0)]), (.tup [(.int 8), (.int 8)]), (.tup [(.int 0), (.int 8)]), (.tup [(.int 0), (.int 0)])]), (.tup [(.tup [(.int 0), (.int 0)]), (.tup [(.int 8), (.int 8)]), (.tup [(.int 8), (.int 0)]), (.tup [(.int 0), (.int 8)])]), (.tup [(.tup [(.int 0), (.int 0)]), (.tup [(.int 1), (.int 0)]), (.tup [(.int 2), (.int 0)])]), (.tup [(.tup [(.int 0), (.int 0)]), (.tup [(.int 8), (.int 0)]), (.tup [(.int 8), (.int 1001)])]), (.tup [(.tup [(.int 0), (.int 0)]), (.tup [(.int 8), (.int 0)]), (.tup [(.bl true), (.int 8)])]), (.tup [(.tup [(.int 0), (.int 0)]), (.tup [(.int 8), (.int 0)]), (.lst [(.int 8), (.int 8)])]), (.tup [(.tup [(.int 0), (.int 0)]), (.tup [(.int 8), (.int 0)]), .non]), (.tup [(.tup [(.int 0), (.int 0)]), (.tup [(.int 0), (.int 0)]), (.tup [(.int 0), (.int 0)])])]), .no, .no, .no, .no, .no] [.fz xs, .ml [(.int c0), (.int c1)]] = .nx [.d (.fn 99999), .m 1, .d (.tup [(.tup [(.int 0), (.int 0)]), (.tup [(.int 8), (.int 0)]), (.tup [(.int 8), (.int 8)]), (.tup [(.int 0), (.int 8)])]), .d (.lst [.non, (.tup []), (.tup [(.tup [(.int 0), (.int 0)]), (.tup [(.int 8), (.int 0)])]), (.lst [(.tup [(.int 0), (.int 0)]), (.tup [(.int 8), (.int 0)]), (.tup [(.int 8), (.int 8)]), (.tup [(.int 0), (.int 8)])]), (.str [114, 111, 117, 110, 100]), (.int 5), (.tup [(.tup [(.int 0), (.int 0)]), (.tup [(.int 8), (.int 0)]), (.tup [(.int 8), (.int 8)]), (.tup [(.int 0), (.int 8)]), (.tup [(.int 0), (.int 0)])]), (.tup [(.tup [(.int 0), (.int 0)]), (.tup [(.int 8), (.int 8)]), (.tup [(.int 8), (.int 0)]), (.tup [(.int 0), (.int 8)])]), (.tup [(.tup [(.int 0), (.int 0)]), (.tup [(.int 1), (.int 0)]), (.tup [(.int 2), (.int 0)])]), (.tup [(.tup [(.int 0), (.int 0)]), (.tup [(.int 8), (.int 0)]), (.tup [(.int 8), (.int 1001)])]), (.tup [(.tup [(.int 0), (.int 0)]), (.tup [(.int 8), (.int 0)]), (.tup [(.bl true), (.int 8)])]), (.tup [(.tup [(.int 0), (.int 0)]), (.tup [(.int 8), (.int 0)]), (.lst [(.int 8), (.int 8)])]), (.tup [(.tup [(.int 0), (.int 0)]), (.tup [(.int 8), (.int 0)]), .non]), (.tup [(.tup [(.int 0), (.int 0)]), (.tup [(.int 0), (.int 0)]), (.tup [(.int 0), (.int 0)])]), (.tup [(.tup [(.int 0), (.int 0)]), (.tup [(.int 8), (.int 0)]), (.tup [(.int 4), (.int 0)]), (.tup [(.int 4), (.int 8)])]), (.tup [(.tup [(.int 0), (.int 0)]), (.tup [(.int 8), (.int 0)]), (.tup [(.int 8), (.int 8)]), (.tup [(.int 4), (.int 0)]), (.tup [(.int 0), (.int 8)])]), (.tup [(.tup [(.int 0), (.int 0)]), (.tup [(.int 1), (.int 1)]), (.tup [(.int 2), (.int 4)]), (.tup [(.int 3), (.int 9)]), (.tup [(.int 4), (.int 16)]), (.tup [(.int 5), (.int 25)]), (.tup [(.int 6), (.int 36)]), (.tup [(.int 7), (.int 49)]), (.tup [(.int 8), (.int 64)]), (.tup [(.int 9), (.int 81)]), (.tup [(.int 10), (.int 100)]), (.tup [(.int 11), (.int 121)]), (.tup [(.int 12), (.int 144)]), (.tup [(.int 13), (.int 169)]), (.tup [(.int 14), (.int 196)]), (.tup [(.int 15), (.int 225)]), (.tup [(.int 16), (.int 256)])])]), .no, .no, .no, .no, .no] [.fz xs, .ml [(.int c0), (.int c1)]] := by kernel_rfl
theorem g6 (xs : List D) (c0 c1 : Int) : S6 cfv [.d (.fn 99999), .m 1, .d (.tup [(.tup [(.int 0), (.int 0)]), (.tup [(.int 8), (.int 0)]), (.tup [(.int 8), (.int 8)]), (.tup [(.int 0), (.int 8)])]), .d (.lst [.non, (.tup []), (.tup [(.tup [(.int 0), (.int 0)]), (.tup [(.int 8), (.int 0)])]), (.lst [(.tup [(.int 0), (.int 0)]), (.tup [(.int 8), (.int 0)]), (.tup [(.int 8), (.int 8)]), (.tup [(.int 0), (.int 8)])]), (.str [114, 111, 117, 110, 100]), (.int 5), (.tup [(.tup [(.int 0), (.int 0)]), (.tup [(.int 8), (.int 0)]), (.tup [(.int 8), (.int 8)]), (.tup [(.int 0), (.int 8)]), (.tup [(.int 0), (.int 0)])]), (.tup [(.tup [(.int 0), (.int 0)]), (.tup [(.int 8), (.int 8)]), (.tup [(.int 8), (.int 0)]), (.tup [(.int 0), (.int 8)])]), (.tup [(.tup [(.int 0), (.int 0)]), (.tup [(.int 1), (.int 0)]), (.tup [(.int 2), (.int 0)])]), (.tup [(.tup [(.int 0), (.int 0)]), (.tup [(.int 8), (.int 0)]), (.tup [(.int 8), (.int 1001)])]), (.tup [(.tup [(.int 0), (.int 0)]), (.tup [(.int 8), (.int 0)]), (.tup [(.bl true), (.int 8)])]), (.tup [(.tup [(.int 0), (.int 0)]), (.tup [(.int 8), (.int 0)]), (.lst [(.int 8), (.int 8)])]), (.tup [(.tup [(.int 0), (.int 0)]), (.tup [(.int 8), (.int 0)]), .non]), (.tup [(.tup [(.int 0), (.int 0)]), (.tup [(.int 0), (.int 0)]), (.tup [(.int 0), (.int 0)])]), (.tup [(.tup [(.int 0), (.int 0)]), (.tup [(.int 8), (.int 0)]), (.tup [(.int 4), (.int 0)]), (.tup [(.int 4), (.int 8)])]), (.tup [(.tup [(.int 0), (.int 0)]), (.tup [(.int 8), (.int 0)]), (.tup [(.int 8), (.int 8)]), (.tup [(.int 4), (.int 0)]), (.tup [(.int 0), (.int 8)])]), (.tup [(.tup [(.int 0), (.int 0)]), (.tup [(.int 1), (.int 1)]), (.tup [(.int 2), (.int 4)]), (.tup [(.int 3), (.int 9)]), (.tup [(.int 4), (.int 16)]), (.tup [(.int 5), (.int 25)]), (.tup [(.int 6), (.int 36)]), (.tup [(.int 7), (.int 49)]), (.tup [(.int 8), (.int 64)]), (.tup [(.int 9), (.int 81)]), (.tup [(.int 10), (.int 100)]), (.tup [(.int 11), (.int 121)]), (.tup [(.int 12), (.int 144)]), (.tup [(.int 13), (.int 169)]), (.tup [(.int 14), (.int 196)]), (.tup [(.int 15), (.int 225)]), (.tup [(.int 16), (.int 256)])])]), .no, .no, .no, .no, .no] [.fz xs, .ml [(.int c0), (.int c1)]] = .nx [.d (.fn 99999), .m 1, .d (.tup [(.tup [(.int 0), (.int 0)]), (.tup [(.int 8), (.int 0)]), (.tup [(.int 8), (.int 8)]), (.tup [(.int 0), (.int 8)])]), .d (.lst [.non, (.tup []), (.tup [(.tup [(.int 0), (.int 0)]), (.tup [(.int 8), (.int 0)])]), (.lst [(.tup [(.int 0), (.int 0)]), (.tup [(.int 8), (.int 0)]), (.tup [(.int 8), (.int 8)]), (.tup [(.int 0), (.int 8)])]), (.str [114, 111, 117, 110, 100]), (.int 5), (.tup [(.tup [(.int 0), (.int 0)]), (.tup [(.int 8), (.int 0)]), (.tup [(.int 8), (.int 8)]), (.tup [(.int 0), (.int 8)]), (.tup [(.int 0), (.int 0)])]), (.tup [(.tup [(.int 0), (.int 0)]), (.tup [(.int 8), (.int 8)]), (.tup [(.int 8), (.int 0)]), (.tup [(.int 0), (.int 8)])]), (.tup [(.tup [(.int 0), (.int 0)]), (.tup [(.int 1), (.int 0)]), (.tup [(.int 2), (.int 0)])]), (.tup [(.tup [(.int 0), (.int 0)]), (.tup [(.int 8), (.int 0)]), (.tup [(.int 8), (.int 1001)])]), (.tup [(.tup [(.int 0), (.int 0)]), (.tup [(.int 8), (.int 0)]), (.tup [(.bl true), (.int 8)])]), (.tup [(.tup [(.int 0), (.int 0)]), (.tup [(.int 8), (.int 0)]), (.lst [(.int 8), (.int 8)])]), (.tup [(.tup [(.int 0), (.int 0)]), (.tup [(.int 8), (.int 0)]), .non]), (.tup [(.tup [(.int 0), (.int 0)]), (.tup [(.int 0), (.int 0)]), (.tup [(.int 0), (.int 0)])]), (.tup [(.tup [(.int 0), (.int 0)]), (.tup [(.int 8), (.int 0)]), (.tup [(.int 4), (.int 0)]), (.tup [(.int 4), (.int 8)])]), (.tup [(.tup [(.int 0), (.int 0)]), (.tup [(.int 8), (.int 0)]), (.tup [(.int 8), (.int 8)]), (.tup [(.int 4), (.int 0)]), (.tup [(.int 0), (.int 8)])]), (.tup [(.tup [(.int 0), (.int 0)]), (.tup [(.int 1), (.int 1)]), (.tup [(.int 2), (.int 4)]), (.tup [(.int 3), (.int 9)]), (.tup [(.int 4), (.int 16)]), (.tup [(.int 5), (.int 25)]), (.tup [(.int 6), (.int 36)]), (.tup [(.int 7), (.int 49)]), (.tup [(.int 8), (.int 64)]), (.tup [(.int 9), (.int 81)]), (.tup [(.int 10), (.int 100)]), (.tup [(.int 11), (.int 121)]), (.tup [(.int 12), (.int 144)]), (.tup [(.int 13), (.int 169)]), (.tup [(.int 14), (.int 196)]), (.tup [(.int 15), (.int 225)]), (.tup [(.int 16), (.int 256)])])]), .d (.tup [(.tup [(.int 0), (.int 0)]), (.tup [(.int 1), (.int 1)]), (.tup [(.int 2), (.int 4)]), (.tup [(.int 3), (.int 9)]), (.tup [(.int 4), (.int 16)]), (.tup [(.int 5), (.int 25)]), (.tup [(.int 6), (.int 36)]), (.tup [(.int 7), (.int 49)]), (.tup [(.int 8), (.int 64)]), (.tup [(.int 9), (.int 81)]), (.tup [(.int 10), (.int 100)]), (.tup [(.int 11), (.int 121)]), (.tup [(.int 12), (.int 144)]), (.tup [(.int 13), (.int 169)]), (.tup [(.int 14), (.int 196)]), (.tup [(.int 15), (.int 225)]), (.tup [(.int 16), (.int 256)])]), .no, .no, .no, .no] [.fz xs, .ml [(.int c0), (.int c1)]] := by kernel_rfl
theorem g7 (xs : List D) (c0 c1 : Int) : S7 cfv [.d (.fn 99999), .m 1, .d (.tup [(.tup [(.int 0), (.int 0)]), (.tup [(.int 8), (.int 0)]), (.tup [(.int 8), (.int 8)]), (.tup [(.int 0), (.int 8)])]), .d (.lst [.non, (.tup []), (.tup [(.tup [(.int 0), (.int 0)]), (.tup [(.int 8), (.int 0)])]), (.lst [(.tup [(.int 0), (.int 0)]), (.tup [(.int 8), (.int 0)]), (.tup [(.int 8), (.int 8)]), (.tup [(.int 0), (.int 8)])]), (.str [114, 111, 117, 110, 100]), (.int 5), (.tup [(.tup [(.int 0), (.int 0)]), (.tup [(.int 8), (.int 0)]), (.tup [(.int 8), (.int 8)]), (.tup [(.int 0), (.int 8)]), (.tup [(.int 0), (.int 0)])]), (.tup [(.tup [(.int 0), (.int 0)]), (.tup [(.int 8), (.int 8)]), (.tup [(.int 8), (.int 0)]), (.tup [(.int 0), (.int 8)])]), (.tup [(.tup [(.int 0), (.int 0)]), (.tup [(.int 1), (.int 0)]), (.tup [(.int 2), (.int 0)])]), (.tup [(.tup [(.int 0), (.int 0)]), (.tup [(.int 8), (.int 0)]), (.tup [(.int 8), (.int 1001)])]), (.tup [(.tup [(.int 0), (.int 0)]), (.tup [(.int 8), (.int 0)]), (.tup [(.bl true), (.int 8)])]), (.tup [(.tup [(.int 0), (.int 0)]), (.tup [(.int 8), (.int 0)]), (.lst [(.int 8), (.int 8)])]), (.tup [(.tup [(.int 0), (.int 0)]), (.tup [(.int 8), (.int 0)]), .non]), (.tup [(.tup [(.int 0), (.int 0)]), (.tup [(.int 0), (.int 0)]), (.tup [(.int 0), (.int 0)])]), (.tup [(.tup [(.int 0), (.int 0)]), (.tup [(.int 8), (.int 0)]), (.tup [(.int 4), (.int 0)]), (.tup [(.int 4), (.int 8)])]), (.tup [(.tup [(.int 0), (.int 0)]), (.tup [(.int 8), (.int 0)]), (.tup [(.int 8), (.int 8)]), (.tup [(.int 4), (.int 0)]), (.tup [(.int 0), (.int 8)])]), (.tup [(.tup [(.int 0), (.int 0)]), (.tup [(.int 1), (.int 1)]), (.tup [(.int 2), (.int 4)]), (.tup [(.int 3), (.int 9)]), (.tup [(.int 4), (.int 16)]), (.tup [(.int 5), (.int 25)]), (.tup [(.int 6), (.int 36)]), (.tup [(.int 7), (.int 49)]), (.tup [(.int 8), (.int 64)]), (.tup [(.int 9), (.int 81)]), (.tup [(.int 10), (.int 100)]), (.tup [(.int 11), (.int 121)]), (.tup [(.int 12), (.int 144)]), (.tup [(.int 13), (.int 169)]), (.tup [(.int 14), (.int 196)]), (.tup [(.int 15), (.int 225)]), (.tup [(.int 16), (.int 256)])])]), .d (.tup [(.tup [(.int 0), (.int 0)]), (.tup [(.int 1), (.int 1)]), (.tup [(.int 2), (.int 4)]), (.tup [(.int 3), (.int 9)]), (.tup [(.int 4), (.int 16)]), (.tup [(.int 5), (.int 25)]), (.tup [(.int 6), (.int 36)]), (.tup [(.int 7), (.int 49)]), (.tup [(.int 8), (.int 64)]), (.tup [(.int 9), (.int 81)]), (.tup [(.int 10), (.int 100)]), (.tup [(.int 11), (.int 121)]), (.tup [(.int 12), (.int 144)]), (.tup [(.int 13), (.int 169)]), (.tup [(.int 14), (.int 196)]), (.tup [(.int 15), (.int 225)]), (.tup [(.int 16), (.int 256)])]), .no, .no, .no, .no] [.fz xs, .ml [(.int c0), (.int c1)]] = .nx [.d (.fn 99999), .m 1, .d (.tup [(.tup [(.int 0), (.int 0)]), (.tup [(.int 8), (.int 0)]), (.tup [(.int 8), (.int 8)]), (.tup [(.int 0), (.int 8)])]), .d (.lst [.non, (.tup []), (.tup [(.tup [(.int 0), (.int 0)]), (.tup [(.int 8), (.int 0)])]), (.lst [(.tup [(.int 0), (.int 0)]), (.tup [(.int 8), (.int 0)]), (.tup [(.int 8), (.int 8)]), (.tup [(.int 0), (.int 8)])]), (.str [114, 111, 117, 110, 100]), (.int 5), (.tup [(.tup [(.int 0), (.int 0)]), (.tup [(.int 8), (.int 0)]), (.tup [(.int 8), (.int 8)]), (.tup [(.int 0), (.int 8)]), (.tup [(.int 0), (.int 0)])]), (.tup [(.tup [(.int 0), (.int 0)]), (.tup [(.int 8), (.int 8)]), (.tup [(.int 8), (.int 0)]), (.tup [(.int 0), (.int 8)])]), (.tup [(.tup [(.int 0), (.int 0)]), (.tup [(.int 1), (.int 0)]), (.tup [(.int 2), (.int 0)])]), (.tup [(.tup [(.int 0), (.int 0)]), (.tup [(.int 8), (.int 0)]), (.tup [(.int 8), (.int 1001)])]), (.tup [(.tup [(.int 0), (.int 0)]), (.tup [(.int 8), (.int 0)]), (.tup [(.bl true), (.int 8)])]), (.tup [(.tup [(.int 0), (.int 0)]), (.tup [(.int 8), (.int 0)]), (.lst [(.int 8), (.int 8)])]), (.tup [(.tup [(.int 0), (.int 0)]), (.tup [(.int 8), (.int 0)]), .non]), (.tup [(.tup [(.int 0), (.int 0)]), (.tup [(.int 0), (.int 0)]), (.tup [(.int 0), (.int 0)])]), (.tup [(.tup [(.int 0), (.int 0)]), (.tup [(.int 8), (.int 0)]), (.tup [(.int 4), (.int 0)]), (.tup [(.int 4), (.int 8)])]), (.tup [(.tup [(.int 0), (.int 0)]), (.tup [(.int 8), (.int 0)]), (.tup [(.int 8), (.int 8)]), (.tup [(.int 4), (.int 0)]), (.tup [(.int 0), (.int 8)])]), (.tup [(.tup [(.int 0), (.int 0)]), (.tup [(.int 1), (.int 1)]), (.tup [(.int 2), (.int 4)]), (.tup [(.int 3), (.int 9)]), (.tup [(.int 4), (.int 16)]), (.tup [(.int 5), (.int 25)]), (.tup [(.int 6), (.int 36)]), (.tup [(.int 7), (.int 49)]), (.tup [(.int 8), (.int 64)]), (.tup [(.int 9), (.int 81)]), (.tup [(.int 10), (.int 100)]), (.tup [(.int 11), (.int 121)]), (.tup [(.int 12), (.int 144)]), (.tup [(.int 13), (.int 169)]), (.tup [(.int 14), (.int 196)]), (.tup [(.int 15), (.int 225)]), (.tup [(.int 16), (.int 256)])])]), .d (.tup [(.int 4), (.int 4), (.int 4)]), .no, .no, .no, .no] [.fz xs, .ml [(.int c0), (.int c1)]] := by kernel_rfl
theorem g0 (ns : List Int) (hl : ns.length ≤ 63) : ∃ c0 c1 : Int, S0 cfv [.d (.fn 99999), .no, .no, .no, .no, .no, .no, .no, .no] [.fz (ns.map .int)] = .nx [.d (.fn 99999), .m 1, .no, .no, .no, .no, .no, .no, .no] [.fz (ns.map .int), .ml [.int c0, .int c1]] := by
  obtain ⟨c0, c1, e⟩ := call_cup (fns := fns) (n := 29) (f := 30) rfl (by decide) (by decide) (by decide) (by decide) (by decide) ns hl [.fz (ns.map .int)] rfl
  refine ⟨c0, c1, ?_⟩
  show sNew 1 (eCallN 30 (aCons (eVar 0) aNil)) _ _ _ = _
  simp only [sNew, eCallN, aCons, aNil, eVar, nth, Res.bind, noF, if_true, sBind]
  rw [show cfv 30 [.d (.fn 99999)] [.fz (ns.map .int)] = _ from e]
  rfl
def fars : List D := [(.tup [.int 9, .int 4]), (.tup [.int (-1), .int 0]), (.tup [.int 1000, .int (-1000)]), (.tup [.int 4, .int 9])]
theorem g8 (xs : List D) (c0 c1 : Int) : ∃ (d0 d1 : Int) (x : Nat) (far : D), x < 4 ∧ nth fars x = some far ∧ S8 cfv [.d (.fn 99999), .m 1, .d (.tup [(.tup [(.int 0), (.int 0)]), (.tup [(.int 8), (.int 0)]), (.tup [(.int 8), (.int 8)]), (.tup [(.int 0), (.int 8)])]), .d (.lst [.non, (.tup []), (.tup [(.tup [(.int 0), (.int 0)]), (.tup [(.int 8), (.int 0)])]), (.lst [(.tup [(.int 0), (.int 0)]), (.tup [(.int 8), (.int 0)]), (.tup [(.int 8), (.int 8)]), (.tup [(.int 0), (.int 8)])]), (.str [114, 111, 117, 110, 100]), (.int 5), (.tup [(.tup [(.int 0), (.int 0)]), (.tup [(.int 8), (.int 0)]), (.tup [(.int 8), (.int 8)]), (.tup [(.int 0), (.int 8)]), (.tup [(.int 0), (.int 0)])]), (.tup [(.tup [(.int 0), (.int 0)]), (.tup [(.int 8), (.int 8)]), (.tup [(.int 8), (.int 0)]), (.tup [(.int 0), (.int 8)])]), (.tup [(.tup [(.int 0), (.int 0)]), (.tup [(.int 1), (.int 0)]), (.tup [(.int 2), (.int 0)])]), (.tup [(.tup [(.int 0), (.int 0)]), (.tup [(.int 8), (.int 0)]), (.tup [(.int 8), (.int 1001)])]), (.tup [(.tup [(.int 0), (.int 0)]), (.tup [(.int 8), (.int 0)]), (.tup [(.bl true), (.int 8)])]), (.tup [(.tup [(.int 0), (.int 0)]), (.tup [(.int 8), (.int 0)]), (.lst [(.int 8), (.int 8)])]), (.tup [(.tup [(.int 0), (.int 0)]), (.tup [(.int 8), (.int 0)]), .non]), (.tup [(.tup [(.int 0), (.int 0)]), (.tup [(.int 0), (.int 0)]), (.tup [(.int 0), (.int 0)])]), (.tup [(.tup [(.int 0), (.int 0)]), (.tup [(.int 8), (.int 0)]), (.tup [(.int 4), (.int 0)]), (.tup [(.int 4), (.int 8)])]), (.tup [(.tup [(.int 0), (.int 0)]), (.tup [(.int 8), (.int 0)]), (.tup [(.int 8), (.int 8)]), (.tup [(.int 4), (.int 0)]), (.tup [(.int 0), (.int 8)])]), (.tup [(.tup [(.int 0), (.int 0)]), (.tup [(.int 1), (.int 1)]), (.tup [(.int 2), (.int 4)]), (.tup [(.int 3), (.int 9)]), (.tup [(.int 4), (.int 16)]), (.tup [(.int 5), (.int 25)]), (.tup [(.int 6), (.int 36)]), (.tup [(.int 7), (.int 49)]), (.tup [(.int 8), (.int 64)]), (.tup [(.int 9), (.int 81)]), (.tup [(.int 10), (.int 100)]), (.tup [(.int 11), (.int 121)]), (.tup [(.int 12), (.int 144)]), (.tup [(.int 13), (.int 169)]), (.tup [(.int 14), (.int 196)]), (.tup [(.int 15), (.int 225)]), (.tup [(.int 16), (.int 256)])])]), .d (.tup [(.int 4), (.int 4), (.int 4)]), .no, .no, .no, .no] [.fz xs, .ml [(.int c0), (.int c1)]] = .nx [.d (.fn 99999), .m 1, .d (.tup [(.tup [(.int 0), (.int 0)]), (.tup [(.int 8), (.int 0)]), (.tup [(.int 8), (.int 8)]), (.tup [(.int 0), (.int 8)])]), .d (.lst [.non, (.tup []), (.tup [(.tup [(.int 0), (.int 0)]), (.tup [(.int 8), (.int 0)])]), (.lst [(.tup [(.int 0), (.int 0)]), (.tup [(.int 8), (.int 0)]), (.tup [(.int 8), (.int 8)]), (.tup [(.int 0), (.int 8)])]), (.str [114, 111, 117, 110, 100]), (.int 5), (.tup [(.tup [(.int 0), (.int 0)]), (.tup [(.int 8), (.int 0)]), (.tup [(.int 8), (.int 8)]), (.tup [(.int 0), (.int 8)]), (.tup [(.int 0), (.int 0)])]), (.tup [(.tup [(.int 0), (.int 0)]), (.tup [(.int 8), (.int 8)]), (.tup [(.int 8), (.int 0)]), (.tup [(.int 0), (.int 8)])]), (.tup [(.tup [(.int 0), (.int 0)]), (.tup [(.int 1), (.int 0)]), (.tup [(.int 2), (.int 0)])]), (.tup [(.tup [(.int 0), (.int 0)]), (.tup [(.int 8), (.int 0)]), (.tup [(.int 8), (.int 1001)])]), (.tup [(.tup [(.int 0), (.int 0)]), (.tup [(.int 8), (.int 0)]), (.tup [(.bl true), (.int 8)])]), (.tup [(.tup [(.int 0), (.int 0)]), (.tup [(.int 8), (.int 0)]), (.lst [(.int 8), (.int 8)])]), (.tup [(.tup [(.int 0), (.int 0)]), (.tup [(.int 8), (.int 0)]), .non]), (.tup [(.tup [(.int 0), (.int 0)]), (.tup [(.int 0), (.int 0)]), (.tup [(.int 0), (.int 0)])]), (.tup [(.tup [(.int 0), (.int 0)]), (.tup [(.int 8), (.int 0)]), (.tup [(.int 4), (.int 0)]), (.tup [(.int 4), (.int 8)])]), (.tup [(.tup [(.int 0), (.int 0)]), (.tup [(.int 8), (.int 0)]), (.tup [(.int 8), (.int 8)]), (.tup [(.int 4), (.int 0)]), (.tup [(.int 0), (.int 8)])]), (.tup [(.tup [(.int 0), (.int 0)]), (.tup [(.int 1), (.int 1)]), (.tup [(.int 2), (.int 4)]), (.tup [(.int 3), (.int 9)]), (.tup [(.int 4), (.int 16)]), (.tup [(.int 5), (.int 25)]), (.tup [(.int 6), (.int 36)]), (.tup [(.int 7), (.int 49)]), (.tup [(.int 8), (.int 64)]), (.tup [(.int 9), (.int 81)]), (.tup [(.int 10), (.int 100)]), (.tup [(.int 11), (.int 121)]), (.tup [(.int 12), (.int 144)]), (.tup [(.int 13), (.int 169)]), (.tup [(.int 14), (.int 196)]), (.tup [(.int 15), (.int 225)]), (.tup [(.int 16), (.int 256)])])]), .d (.tup [(.int 4), (.int 4), (.int 4)]), .d far, .no, .no, .no] [.fz xs, .ml [(.int d0), (.int d1)]] := by
  obtain ⟨d0, d1, x, far, hx, hf, e⟩ := call_some (fns := fns) (n := 28) (f := 32) (ir := 31) rfl rfl (by decide) (by decide) (by decide) (by decide) (by decide) (by decide) (by decide) fars (by decide) (by decide) (c := 1) (c0 := c0) (c1 := c1) [.fz xs, .ml [(.int c0), (.int c1)]] rfl
  refine ⟨d0, d1, x, far, hx, hf, ?_⟩
  show sAsg 5 (eCall 32 (aCons (eVar 1) (aCons (eLst (aCons (eTup (aCons (eCst (.int 9)) (aCons (eCst (.int 4)) aNil))) (aCons (eTup (aCons (op1 vNeg (eCst (.int 1))) (aCons (eCst (.int 0)) aNil))) (aCons (eTup (aCons (eCst (.int 1000)) (aCons (op1 vNeg (eCst (.int 1000))) aNil))) (aCons (eTup (aCons (eCst (.int 4)) (aCons (eCst (.int 9)) aNil))) aNil))))) aNil))) _ _ _ = _
  have ea : (aCons (eVar 1) (aCons (eLst (aCons (eTup (aCons (eCst (.int 9)) (aCons (eCst (.int 4)) aNil))) (aCons (eTup (aCons (op1 vNeg (eCst (.int 1))) (aCons (eCst (.int 0)) aNil))) (aCons (eTup (aCons (eCst (.int 1000)) (aCons (op1 vNeg (eCst (.int 1000))) aNil))) (aCons (eTup (aCons (eCst (.int 4)) (aCons (eCst (.int 9)) aNil))) aNil))))) aNil)) cfv [.d (.fn 99999), .m 1, .d (.tup [(.tup [(.int 0), (.int 0)]), (.tup [(.int 8), (.int 0)]), (.tup [(.int 8), (.int 8)]), (.tup [(.int 0), (.int 8)])]), .d (.lst [.non, (.tup []), (.tup [(.tup [(.int 0), (.int 0)]), (.tup [(.int 8), (.int 0)])]), (.lst [(.tup [(.int 0), (.int 0)]), (.tup [(.int 8), (.int 0)]), (.tup [(.int 8), (.int 8)]), (.tup [(.int 0), (.int 8)])]), (.str [114, 111, 117, 110, 100]), (.int 5), (.tup [(.tup [(.int 0), (.int 0)]), (.tup [(.int 8), (.int 0)]), (.tup [(.int 8), (.int 8)]), (.tup [(.int 0), (.int 8)]), (.tup [(.int 0), (.int 0)])]), (.tup [(.tup [(.int 0), (.int 0)]), (.tup [(.int 8), (.int 8)]), (.tup [(.int 8), (.int 0)]), (.tup [(.int 0), (.int 8)])]), (.tup [(.tup [(.int 0), (.int 0)]), (.tup [(.int 1), (.int 0)]), (.tup [(.int 2), (.int 0)])]), (.tup [(.tup [(.int 0), (.int 0)]), (.tup [(.int 8), (.int 0)]), (.tup [(.int 8), (.int 1001)])]), (.tup [(.tup [(.int 0), (.int 0)]), (.tup [(.int 8), (.int 0)]), (.tup [(.bl true), (.int 8)])]), (.tup [(.tup [(.int 0), (.int 0)]), (.tup [(.int 8), (.int 0)]), (.lst [(.int 8), (.int 8)])]), (.tup [(.tup [(.int 0), (.int 0)]), (.tup [(.int 8), (.int 0)]), .non]), (.tup [(.tup [(.int 0), (.int 0)]), (.tup [(.int 0), (.int 0)]), (.tup [(.int 0), (.int 0)])]), (.tup [(.tup [(.int 0), (.int 0)]), (.tup [(.int 8), (.int 0)]), (.tup [(.int 4), (.int 0)]), (.tup [(.int 4), (.int 8)])]), (.tup [(.tup [(.int 0), (.int 0)]), (.tup [(.int 8), (.int 0)]), (.tup [(.int 8), (.int 8)]), (.tup [(.int 4), (.int 0)]), (.tup [(.int 0), (.int 8)])]), (.tup [(.tup [(.int 0), (.int 0)]), (.tup [(.int 1), (.int 1)]), (.tup [(.int 2), (.int 4)]), (.tup [(.int 3), (.int 9)]), (.tup [(.int 4), (.int 16)]), (.tup [(.int 5), (.int 25)]), (.tup [(.int 6), (.int 36)]), (.tup [(.int 7), (.int 49)]), (.tup [(.int 8), (.int 64)]), (.tup [(.int 9), (.int 81)]), (.tup [(.int 10), (.int 100)]), (.tup [(.int 11), (.int 121)]), (.tup [(.int 12), (.int 144)]), (.tup [(.int 13), (.int 169)]), (.tup [(.int 14), (.int 196)]), (.tup [(.int 15), (.int 225)]), (.tup [(.int 16), (.int 256)])])]), .d (.tup [(.int 4), (.int 4), (.int 4)]), .no, .no, .no, .no] [.fz xs, .ml [(.int c0), (.int c1)]] = .ok [.m 1, .d (.lst fars)] [.fz xs, .ml [(.int c0), (.int c1)]] := by rfl
  simp only [sAsg, eCall, eCallN, ea, Res.bind, sBind]
  rw [show noF [.m 1, .d (.lst fars)] = true from rfl, if_pos rfl, show cfv 32 [.m 1, .d (.lst fars)] [.fz xs, .ml [(.int c0), (.int c1)]] = _ from e]
  simp [Res.bind, ofS, isF, setAt]
theorem g9_0 (xs : List D) (c0 c1 : Int) : S9 cfv [.d (.fn 99999), .m 1, .d (.tup [(.tup [(.int 0), (.int 0)]), (.tup [(.int 8), (.int 0)]), (.tup [(.int 8), (.int 8)]), (.tup [(.int 0), (.int 8)])]), .d (.lst [.non, (.tup []), (.tup [(.tup [(.int 0), (.int 0)]), (.tup [(.int 8), (.int 0)])]), (.lst [(.tup [(.int 0), (.int 0)]), (.tup [(.int 8), (.int 0)]), (.tup [(.int 8), (.int 8)]), (.tup [(.int 0), (.int 8)])]), (.str [114, 111, 117, 110, 100]), (.int 5), (.tup [(.tup [(.int 0), (.int 0)]), (.tup [(.int 8), (.int 0)]), (.tup [(.int 8), (.int 8)]), (.tup [(.int 0), (.int 8)]), (.tup [(.int 0), (.int 0)])]), (.tup [(.tup [(.int 0), (.int 0)]), (.tup [(.int 8), (.int 8)]), (.tup [(.int 8), (.int 0)]), (.tup [(.int 0), (.int 8)])]), (.tup [(.tup [(.int 0), (.int 0)]), (.tup [(.int 1), (.int 0)]), (.tup [(.int 2), (.int 0)])]), (.tup [(.tup [(.int 0), (.int 0)]), (.tup [(.int 8), (.int 0)]), (.tup [(.int 8), (.int 1001)])]), (.tup [(.tup [(.int 0), (.int 0)]), (.tup [(.int 8), (.int 0)]), (.tup [(.bl true), (.int 8)])]), (.tup [(.tup [(.int 0), (.int 0)]), (.tup [(.int 8), (.int 0)]), (.lst [(.int 8), (.int 8)])]), (.tup [(.tup [(.int 0), (.int 0)]), (.tup [(.int 8), (.int 0)]), .non]), (.tup [(.tup [(.int 0), (.int 0)]), (.tup [(.int 0), (.int 0)]), (.tup [(.int 0), (.int 0)])]), (.tup [(.tup [(.int 0), (.int 0)]), (.tup [(.int 8), (.int 0)]), (.tup [(.int 4), (.int 0)]), (.tup [(.int 4), (.int 8)])]), (.tup [(.tup [(.int 0), (.int 0)]), (.tup [(.int 8), (.int 0)]), (.tup [(.int 8), (.int 8)]), (.tup [(.int 4), (.int 0)]), (.tup [(.int 0), (.int 8)])]), (.tup [(.tup [(.int 0), (.int 0)]), (.tup [(.int 1), (.int 1)]), (.tup [(.int 2), (.int 4)]), (.tup [(.int 3), (.int 9)]), (.tup [(.int 4), (.int 16)]), (.tup [(.int 5), (.int 25)]), (.tup [(.int 6), (.int 36)]), (.tup [(.int 7), (.int 49)]), (.tup [(.int 8), (.int 64)]), (.tup [(.int 9), (.int 81)]), (.tup [(.int 10), (.int 100)]), (.tup [(.int 11), (.int 121)]), (.tup [(.int 12), (.int 144)]), (.tup [(.int 13), (.int 169)]), (.tup [(.int 14), (.int 196)]), (.tup [(.int 15), (.int 225)]), (.tup [(.int 16), (.int 256)])])]), .d (.tup [(.int 4), (.int 4), (.int 4)]), .d (.tup [(.int 9), (.int 4)]), .no, .no, .no] [.fz xs, .ml [(.int c0), (.int c1)]] = .nx [.d (.fn 99999), .m 1, .d (.tup [(.tup [(.int 0), (.int 0)]), (.tup [(.int 8), (.int 0)]), (.tup [(.int 8), (.int 8)]), (.tup [(.int 0), (.int 8)])]), .d (.lst [.non, (.tup []), (.tup [(.tup [(.int 0), (.int 0)]), (.tup [(.int 8), (.int 0)])]), (.lst [(.tup [(.int 0), (.int 0)]), (.tup [(.int 8), (.int 0)]), (.tup [(.int 8), (.int 8)]), (.tup [(.int 0), (.int 8)])]), (.str [114, 111, 117, 110, 100]), (.int 5), (.tup [(.tup [(.int 0), (.int 0)]), (.tup [(.int 8), (.int 0)]), (.tup [(.int 8), (.int 8)]), (.tup [(.int 0), (.int 8)]), (.tup [(.int 0), (.int 0)])]), (.tup [(.tup [(.int 0), (.int 0)]), (.tup [(.int 8), (.int 8)]), (.tup [(.int 8), (.int 0)]), (.tup [(.int 0), (.int 8)])]), (.tup [(.tup [(.int 0), (.int 0)]), (.tup [(.int 1), (.int 0)]), (.tup [(.int 2), (.int 0)])]), (.tup [(.tup [(.int 0), (.int 0)]), (.tup [(.int 8), (.int 0)]), (.tup [(.int 8), (.int 1001)])]), (.tup [(.tup [(.int 0), (.int 0)]), (.tup [(.int 8), (.int 0)]), (.tup [(.bl true), (.int 8)])]), (.tup [(.tup [(.int 0), (.int 0)]), (.tup [(.int 8), (.int 0)]), (.lst [(.int 8), (.int 8)])]), (.tup [(.tup [(.int 0), (.int 0)]), (.tup [(.int 8), (.int 0)]), .non]), (.tup [(.tup [(.int 0), (.int 0)]), (.tup [(.int 0), (.int 0)]), (.tup [(.int 0), (.int 0)])]), (.tup [(.tup [(.int 0), (.int 0)]), (.tup [(.int 8), (.int 0)]), (.tup [(.int 4), (.int 0)]), (.tup [(.int 4), (.int 8)])]), (.tup [(.tup [(.int 0), (.int 0)]), (.tup [(.int 8), (.int 0)]), (.tup [(.int 8), (.int 8)]), (.tup [(.int 4), (.int 0)]), (.tup [(.int 0), (.int 8)])]), (.tup [(.tup [(.int 0), (.int 0)]), (.tup [(.int 1), (.int 1)]), (.tup [(.int 2), (.int 4)]), (.tup [(.int 3), (.int 9)]), (.tup [(.int 4), (.int 16)]), (.tup [(.int 5), (.int 25)]), (.tup [(.int 6), (.int 36)]), (.tup [(.int 7), (.int 49)]), (.tup [(.int 8), (.int 64)]), (.tup [(.int 9), (.int 81)]), (.tup [(.int 10), (.int 100)]), (.tup [(.int 11), (.int 121)]), (.tup [(.int 12), (.int 144)]), (.tup [(.int 13), (.int 169)]), (.tup [(.int 14), (.int 196)]), (.tup [(.int 15), (.int 225)]), (.tup [(.int 16), (.int 256)])])]), .d (.tup [(.int 4), (.int 4), (.int 4)]), .d (.tup [(.int 9), (.int 4)]), .no, .no, .no] [.fz xs, .ml [(.int c0), (.int c1)]] := by kernel_rfl
theorem g9_1 (xs : List D) (c0 c1 : Int) : S9 cfv [.d (.fn 99999), .m 1, .d (.tup [(.tup [(.int 0), (.int 0)]), (.tup [(.int 8), (.int 0)]), (.tup [(.int 8), (.int 8)]), (.tup [(.int 0), (.int 8)])]), .d (.lst [.non, (.tup []), (.tup [(.tup [(.int 0), (.int 0)]), (.tup [(.int 8), (.int 0)])]), (.lst [(.tup [(.int 0), (.int 0)]), (.tup [(.int 8), (.int 0)]), (.tup [(.int 8), (.int 8)]), (.tup [(.int 0), (.int 8)])]), (.str [114, 111, 117, 110, 100]), (.int 5), (.tup [(.tup [(.int 0), (.int 0)]), (.tup [(.int 8), (.int 0)]), (.tup [(.int 8), (.int 8)]), (.tup [(.int 0), (.int 8)]), (.tup [(.int 0), (.int 0)])]), (.tup [(.tup [(.int 0), (.int 0)]), (.tup [(.int 8), (.int 8)]), (.tup [(.int 8), (.int 0)]), (.tup [(.int 0), (.int 8)])]), (.tup [(.tup [(.int 0), (.int 0)]), (.tup [(.int 1), (.int 0)]), (.tup [(.int 2), (.int 0)])]), (.tup [(.tup [(.int 0), (.int 0)]), (.tup [(.int 8), (.int 0)]), (.tup [(.int 8), (.int 1001)])]), (.tup [(.tup [(.int 0), (.int 0)]), (.tup [(.int 8), (.int 0)]), (.tup [(.bl true), (.int 8)])]), (.tup [(.tup [(.int 0), (.int 0)]), (.tup [(.int 8), (.int 0)]), (.lst [(.int 8), (.int 8)])]), (.tup [(.tup [(.int 0), (.int 0)]), (.tup [(.int 8), (.int 0)]), .non]), (.tup [(.tup [(.int 0), (.int 0)]), (.tup [(.int 0), (.int 0)]), (.tup [(.int 0), (.int 0)])]), (.tup [(.tup [(.int 0), (.int 0)]), (.tup [(.int 8), (.int 0)]), (.tup [(.int 4), (.int 0)]), (.tup [(.int 4), (.int 8)])]), (.tup [(.tup [(.int 0), (.int 0)]), (.tup [(.int 8), (.int 0)]), (.tup [(.int 8), (.int 8)]), (.tup [(.int 4), (.int 0)]), (.tup [(.int 0), (.int 8)])]), (.tup [(.tup [(.int 0), (.int 0)]), (.tup [(.int 1), (.int 1)]), (.tup [(.int 2), (.int 4)]), (.tup [(.int 3), (.int 9)]), (.tup [(.int 4), (.int 16)]), (.tup [(.int 5), (.int 25)]), (.tup [(.int 6), (.int 36)]), (.tup [(.int 7), (.int 49)]), (.tup [(.int 8), (.int 64)]), (.tup [(.int 9), (.int 81)]), (.tup [(.int 10), (.int 100)]), (.tup [(.int 11), (.int 121)]), (.tup [(.int 12), (.int 144)]), (.tup [(.int 13), (.int 169)]), (.tup [(.int 14), (.int 196)]), (.tup [(.int 15), (.int 225)]), (.tup [(.int 16), (.int 256)])])]), .d (.tup [(.int 4), (.int 4), (.int 4)]), .d (.tup [.int (-1), (.int 0)]), .no, .no, .no] [.fz xs, .ml [(.int c0), (.int c1)]] = .nx [.d (.fn 99999), .m 1, .d (.tup [(.tup [(.int 0), (.int 0)]), (.tup [(.int 8), (.int 0)]), (.tup [(.int 8), (.int 8)]), (.tup [(.int 0), (.int 8)])]), .d (.lst [.non, (.tup []), (.tup [(.tup [(.int 0), (.int 0)]), (.tup [(.int 8), (.int 0)])]), (.lst [(.tup [(.int 0), (.int 0)]), (.tup [(.int 8), (.int 0)]), (.tup [(.int 8), (.int 8)]), (.tup [(.int 0), (.int 8)])]), (.str [114, 111, 117, 110, 100]), (.int 5), (.tup [(.tup [(.int 0), (.int 0)]), (.tup [(.int 8), (.int 0)]), (.tup [(.int 8), (.int 8)]), (.tup [(.int 0), (.int 8)]), (.tup [(.int 0), (.int 0)])]), (.tup [(.tup [(.int 0), (.int 0)]), (.tup [(.int 8), (.int 8)]), (.tup [(.int 8), (.int 0)]), (.tup [(.int 0), (.int 8)])]), (.tup [(.tup [(.int 0), (.int 0)]), (.tup [(.int 1), (.int 0)]), (.tup [(.int 2), (.int 0)])]), (.tup [(.tup [(.int 0), (.int 0)]), (.tup [(.int 8), (.int 0)]), (.tup [(.int 8), (.int 1001)])]), (.tup [(.tup [(.int 0), (.int 0)]), (.tup [(.int 8), (.int 0)]), (.tup [(.bl true), (.int 8)])]), (.tup [(.tup [(.int 0), (.int 0)]), (.tup [(.int 8), (.int 0)]), (.lst [(.int 8), (.int 8)])]), (.tup [(.tup [(.int 0), (.int 0)]), (.tup [(.int 8), (.int 0)]), .non]), (.tup [(.tup [(.int 0), (.int 0)]), (.tup [(.int 0), (.int 0)]), (.tup [(.int 0), (.int 0)])]), (.tup [(.tup [(.int 0), (.int 0)]), (.tup [(.int 8), (.int 0)]), (.tup [(.int 4), (.int 0)]), (.tup [(.int 4), (.int 8)])]), (.tup [(.tup [(.int 0), (.int 0)]), (.tup [(.int 8), (.int 0)]), (.tup [(.int 8), (.int 8)]), (.tup [(.int 4), (.int 0)]), (.tup [(.int 0), (.int 8)])]), (.tup [(.tup [(.int 0), (.int 0)]), (.tup [(.int 1), (.int 1)]), (.tup [(.int 2), (.int 4)]), (.tup [(.int 3), (.int 9)]), (.tup [(.int 4), (.int 16)]), (.tup [(.int 5), (.int 25)]), (.tup [(.int 6), (.int 36)]), (.tup [(.int 7), (.int 49)]), (.tup [(.int 8), (.int 64)]), (.tup [(.int 9), (.int 81)]), (.tup [(.int 10), (.int 100)]), (.tup [(.int 11), (.int 121)]), (.tup [(.int 12), (.int 144)]), (.tup [(.int 13), (.int 169)]), (.tup [(.int 14), (.int 196)]), (.tup [(.int 15), (.int 225)]), (.tup [(.int 16), (.int 256)])])]), .d (.tup [(.int 4), (.int 4), (.int 4)]), .d (.tup [(.int (-1)), (.int 0)]), .no, .no, .no] [.fz xs, .ml [(.int c0), (.int c1)]] := by kernel_rfl
theorem g9_2 (xs : List D) (c0 c1 : Int) : S9 cfv [.d (.fn 99999), .m 1, .d (.tup [(.tup [(.int 0), (.int 0)]), (.tup [(.int 8), (.int 0)]), (.tup [(.int 8), (.int 8)]), (.tup [(.int 0), (.int 8)])]), .d (.lst [.non, (.tup []), (.tup [(.tup [(.int 0), (.int 0)]), (.tup [(.int 8), (.int 0)])]), (.lst [(.tup [(.int 0), (.int 0)]), (.tup [(.int 8), (.int 0)]), (.tup [(.int 8), (.int 8)]), (.tup [(.int 0), (.int 8)])]), (.str [114, 111, 117, 110, 100]), (.int 5), (.tup [(.tup [(.int 0), (.int 0)]), (.tup [(.int 8), (.int 0)]), (.tup [(.int 8), (.int 8)]), (.tup [(.int 0), (.int 8)]), (.tup [(.int 0), (.int 0)])]), (.tup [(.tup [(.int 0), (.int 0)]), (.tup [(.int 8), (.int 8)]), (.tup [(.int 8), (.int 0)]), (.tup [(.int 0), (.int 8)])]), (.tup [(.tup [(.int 0), (.int 0)]), (.tup [(.int 1), (.int 0)]), (.tup [(.int 2), (.int 0)])]), (.tup [(.tup [(.int 0), (.int 0)]), (.tup [(.int 8), (.int 0)]), (.tup [(.int 8), (.int 1001)])]), (.tup [(.tup [(.int 0), (.int 0)]), (.tup [(.int 8), (.int 0)]), (.tup [(.bl true), (.int 8)])]), (.tup [(.tup [(.int 0), (.int 0)]), (.tup [(.int 8), (.int 0)]), (.lst [(.int 8), (.int 8)])]), (.tup [(.tup [(.int 0), (.int 0)]), (.tup [(.int 8), (.int 0)]), .non]), (.tup [(.tup [(.int 0), (.int 0)]), (.tup [(.int 0), (.int 0)]), (.tup [(.int 0), (.int 0)])]), (.tup [(.tup [(.int 0), (.int 0)]), (.tup [(.int 8), (.int 0)]), (.tup [(.int 4), (.int 0)]), (.tup [(.int 4), (.int 8)])]), (.tup [(.tup [(.int 0), (.int 0)]), (.tup [(.int 8), (.int 0)]), (.tup [(.int 8), (.int 8)]), (.tup [(.int 4), (.int 0)]), (.tup [(.int 0), (.int 8)])]), (.tup [(.tup [(.int 0), (.int 0)]), (.tup [(.int 1), (.int 1)]), (.tup [(.int 2), (.int 4)]), (.tup [(.int 3), (.int 9)]), (.tup [(.int 4), (.int 16)]), (.tup [(.int 5), (.int 25)]), (.tup [(.int 6), (.int 36)]), (.tup [(.int 7), (.int 49)]), (.tup [(.int 8), (.int 64)]), (.tup [(.int 9), (.int 81)]), (.tup [(.int 10), (.int 100)]), (.tup [(.int 11), (.int 121)]), (.tup [(.int 12), (.int 144)]), (.tup [(.int 13), (.int 169)]), (.tup [(.int 14), (.int 196)]), (.tup [(.int 15), (.int 225)]), (.tup [(.int 16), (.int 256)])])]), .d (.tup [(.int 4), (.int 4), (.int 4)]), .d (.tup [(.int 1000), .int (-1000)]), .no, .no, .no] [.fz xs, .ml [(.int c0), (.int c1)]] = .nx [.d (.fn 99999), .m 1, .d (.tup [(.tup [(.int 0), (.int 0)]), (.tup [(.int 8), (.int 0)]), (.tup [(.int 8), (.int 8)]), (.tup [(.int 0), (.int 8)])]), .d (.lst [.non, (.tup []), (.tup [(.tup [(.int 0), (.int 0)]), (.tup [(.int 8), (.int 0)])]), (.lst [(.tup [(.int 0), (.int 0)]), (.tup [(.int 8), (.int 0)]), (.tup [(.int 8), (.int 8)]), (.tup [(.int 0), (.int 8)])]), (.str [114, 111, 117, 110, 100]), (.int 5), (.tup [(.tup [(.int 0), (.int 0)]), (.tup [(.int 8), (.int 0)]), (.tup [(.int 8), (.int 8)]), (.tup [(.int 0), (.int 8)]), (.tup [(.int 0), (.int 0)])]), (.tup [(.tup [(.int 0), (.int 0)]), (.tup [(.int 8), (.int 8)]), (.tup [(.int 8), (.int 0)]), (.tup [(.int 0), (.int 8)])]), (.tup [(.tup [(.int 0), (.int 0)]), (.tup [(.int 1), (.int 0)]), (.tup [(.int 2), (.int 0)])]), (.tup [(.tup [(.int 0), (.int 0)]), (.tup [(.int 8), (.int 0)]), (.tup [(.int 8), (.int 1001)])]), (.tup [(.tup [(.int 0), (.int 0)]), (.tup [(.int 8), (.int 0)]), (.tup [(.bl true), (.int 8)])]), (.tup [(.tup [(.int 0), (.int 0)]), (.tup [(.int 8), (.int 0)]), (.lst [(.int 8), (.int 8)])]), (.tup [(.tup [(.int 0), (.int 0)]), (.tup [(.int 8), (.int 0)]), .non]), (.tup [(.tup [(.int 0), (.int 0)]), (.tup [(.int 0), (.int 0)]), (.tup [(.int 0), (.int 0)])]), (.tup [(.tup [(.int 0), (.int 0)]), (.tup [(.int 8), (.int 0)]), (.tup [(.int 4), (.int 0)]), (.tup [(.int 4), (.int 8)])]), (.tup [(.tup [(.int 0), (.int 0)]), (.tup [(.int 8), (.int 0)]), (.tup [(.int 8), (.int 8)]), (.tup [(.int 4), (.int 0)]), (.tup [(.int 0), (.int 8)])]), (.tup [(.tup [(.int 0), (.int 0)]), (.tup [(.int 1), (.int 1)]), (.tup [(.int 2), (.int 4)]), (.tup [(.int 3), (.int 9)]), (.tup [(.int 4), (.int 16)]), (.tup [(.int 5), (.int 25)]), (.tup [(.int 6), (.int 36)]), (.tup [(.int 7), (.int 49)]), (.tup [(.int 8), (.int 64)]), (.tup [(.int 9), (.int 81)]), (.tup [(.int 10), (.int 100)]), (.tup [(.int 11), (.int 121)]), (.tup [(.int 12), (.int 144)]), (.tup [(.int 13), (.int 169)]), (.tup [(.int 14), (.int 196)]), (.tup [(.int 15), (.int 225)]), (.tup [(.int 16), (.int 256)])])]), .d (.tup [(.int 4), (.int 4), (.int 4)]), .d (.tup [(.int 1000), (.int (-1000))]), .no, .no, .no] [.fz xs, .ml [(.int c0), (.int c1)]] := by kernel_rfl
theorem g9_3 (xs : List D) (c0 c1 : Int) : S9 cfv [.d (.fn 99999), .m 1, .d (.tup [(.tup [(.int 0), (.int 0)]), (.tup [(.int 8), (.int 0)]), (.tup [(.int 8), (.int 8)]), (.tup [(.int 0), (.int 8)])]), .d (.lst [.non, (.tup []), (.tup [(.tup [(.int 0), (.int 0)]), (.tup [(.int 8), (.int 0)])]), (.lst [(.tup [(.int 0), (.int 0)]), (.tup [(.int 8), (.int 0)]), (.tup [(.int 8), (.int 8)]), (.tup [(.int 0), (.int 8)])]), (.str [114, 111, 117, 110, 100]), (.int 5), (.tup [(.tup [(.int 0), (.int 0)]), (.tup [(.int 8), (.int 0)]), (.tup [(.int 8), (.int 8)]), (.tup [(.int 0), (.int 8)]), (.tup [(.int 0), (.int 0)])]), (.tup [(.tup [(.int 0), (.int 0)]), (.tup [(.int 8), (.int 8)]), (.tup [(.int 8), (.int 0)]), (.tup [(.int 0), (.int 8)])]), (.tup [(.tup [(.int 0), (.int 0)]), (.tup [(.int 1), (.int 0)]), (.tup [(.int 2), (.int 0)])]), (.tup [(.tup [(.int 0), (.int 0)]), (.tup [(.int 8), (.int 0)]), (.tup [(.int 8), (.int 1001)])]), (.tup [(.tup [(.int 0), (.int 0)]), (.tup [(.int 8), (.int 0)]), (.tup [(.bl true), (.int 8)])]), (.tup [(.tup [(.int 0), (.int 0)]), (.tup [(.int 8), (.int 0)]), (.lst [(.int 8), (.int 8)])]), (.tup [(.tup [(.int 0), (.int 0)]), (.tup [(.int 8), (.int 0)]), .non]), (.tup [(.tup [(.int 0), (.int 0)]), (.tup [(.int 0), (.int 0)]), (.tup [(.int 0), (.int 0)])]), (.tup [(.tup [(.int 0), (.int 0)]), (.tup [(.int 8), (.int 0)]), (.tup [(.int 4), (.int 0)]), (.tup [(.int 4), (.int 8)])]), (.tup [(.tup [(.int 0), (.int 0)]), (.tup [(.int 8), (.int 0)]), (.tup [(.int 8), (.int 8)]), (.tup [(.int 4), (.int 0)]), (.tup [(.int 0), (.int 8)])]), (.tup [(.tup [(.int 0), (.int 0)]), (.tup [(.int 1), (.int 1)]), (.tup [(.int 2), (.int 4)]), (.tup [(.int 3), (.int 9)]), (.tup [(.int 4), (.int 16)]), (.tup [(.int 5), (.int 25)]), (.tup [(.int 6), (.int 36)]), (.tup [(.int 7), (.int 49)]), (.tup [(.int 8), (.int 64)]), (.tup [(.int 9), (.int 81)]), (.tup [(.int 10), (.int 100)]), (.tup [(.int 11), (.int 121)]), (.tup [(.int 12), (.int 144)]), (.tup [(.int 13), (.int 169)]), (.tup [(.int 14), (.int 196)]), (.tup [(.int 15), (.int 225)]), (.tup [(.int 16), (.int 256)])])]), .d (.tup [(.int 4), (.int 4), (.int 4)]), .d (.tup [(.int 4), (.int 9)]), .no, .no, .no] [.fz xs, .ml [(.int c0), (.int c1)]] = .nx [.d (.fn 99999), .m 1, .d (.tup [(.tup [(.int 0), (.int 0)]), (.tup [(.int 8), (.int 0)]), (.tup [(.int 8), (.int 8)]), (.tup [(.int 0), (.int 8)])]), .d (.lst [.non, (.tup []), (.tup [(.tup [(.int 0), (.int 0)]), (.tup [(.int 8), (.int 0)])]), (.lst [(.tup [(.int 0), (.int 0)]), (.tup [(.int 8), (.int 0)]), (.tup [(.int 8), (.int 8)]), (.tup [(.int 0), (.int 8)])]), (.str [114, 111, 117, 110, 100]), (.int 5), (.tup [(.tup [(.int 0), (.int 0)]), (.tup [(.int 8), (.int 0)]), (.tup [(.int 8), (.int 8)]), (.tup [(.int 0), (.int 8)]), (.tup [(.int 0), (.int 0)])]), (.tup [(.tup [(.int 0), (.int 0)]), (.tup [(.int 8), (.int 8)]), (.tup [(.int 8), (.int 0)]), (.tup [(.int 0), (.int 8)])]), (.tup [(.tup [(.int 0), (.int 0)]), (.tup [(.int 1), (.int 0)]), (.tup [(.int 2), (.int 0)])]), (.tup [(.tup [(.int 0), (.int 0)]), (.tup [(.int 8), (.int 0)]), (.tup [(.int 8), (.int 1001)])]), (.tup [(.tup [(.int 0), (.int 0)]), (.tup [(.int 8), (.int 0)]), (.tup [(.bl true), (.int 8)])]), (.tup [(.tup [(.int 0), (.int 0)]), (.tup [(.int 8), (.int 0)]), (.lst [(.int 8), (.int 8)])]), (.tup [(.tup [(.int 0), (.int 0)]), (.tup [(.int 8), (.int 0)]), .non]), (.tup [(.tup [(.int 0), (.int 0)]), (.tup [(.int 0), (.int 0)]), (.tup [(.int 0), (.int 0)])]), (.tup [(.tup [(.int 0), (.int 0)]), (.tup [(.int 8), (.int 0)]), (.tup [(.int 4), (.int 0)]), (.tup [(.int 4), (.int 8)])]), (.tup [(.tup [(.int 0), (.int 0)]), (.tup [(.int 8), (.int 0)]), (.tup [(.int 8), (.int 8)]), (.tup [(.int 4), (.int 0)]), (.tup [(.int 0), (.int 8)])]), (.tup [(.tup [(.int 0), (.int 0)]), (.tup [(.int 1), (.int 1)]), (.tup [(.int 2), (.int 4)]), (.tup [(.int 3), (.int 9)]), (.tup [(.int 4), (.int 16)]), (.tup [(.int 5), (.int 25)]), (.tup [(.int 6), (.int 36)]), (.tup [(.int 7), (.int 49)]), (.tup [(.int 8), (.int 64)]), (.tup [(.int 9), (.int 81)]), (.tup [(.int 10), (.int 100)]), (.tup [(.int 11), (.int 121)]), (.tup [(.int 12), (.int 144)]), (.tup [(.int 13), (.int 169)]), (.tup [(.int 14), (.int 196)]), (.tup [(.int 15), (.int 225)]), (.tup [(.int 16), (.int 256)])])]), .d (.tup [(.int 4), (.int 4), (.int 4)]), .d (.tup [(.int 4), (.int 9)]), .no, .no, .no] [.fz xs, .ml [(.int c0), (.int c1)]] := by kernel_rfl
theorem g10 (xs : List D) (c0 c1 : Int) (far : D) : S10 cfv [.d (.fn 99999), .m 1, .d (.tup [(.tup [(.int 0), (.int 0)]), (.tup [(.int 8), (.int 0)]), (.tup [(.int 8), (.int 8)]), (.tup [(.int 0), (.int 8)])]), .d (.lst [.non, (.tup []), (.tup [(.tup [(.int 0), (.int 0)]), (.tup [(.int 8), (.int 0)])]), (.lst [(.tup [(.int 0), (.int 0)]), (.tup [(.int 8), (.int 0)]), (.tup [(.int 8), (.int 8)]), (.tup [(.int 0), (.int 8)])]), (.str [114, 111, 117, 110, 100]), (.int 5), (.tup [(.tup [(.int 0), (.int 0)]), (.tup [(.int 8), (.int 0)]), (.tup [(.int 8), (.int 8)]), (.tup [(.int 0), (.int 8)]), (.tup [(.int 0), (.int 0)])]), (.tup [(.tup [(.int 0), (.int 0)]), (.tup [(.int 8), (.int 8)]), (.tup [(.int 8), (.int 0)]), (.tup [(.int 0), (.int 8)])]), (.tup [(.tup [(.int 0), (.int 0)]), (.tup [(.int 1), (.int 0)]), (.tup [(.int 2), (.int 0)])]), (.tup [(.tup [(.int 0), (.int 0)]), (.tup [(.int 8), (.int 0)]), (.tup [(.int 8), (.int 1001)])]), (.tup [(.tup [(.int 0), (.int 0)]), (.tup [(.int 8), (.int 0)]), (.tup [(.bl true), (.int 8)])]), (.tup [(.tup [(.int 0), (.int 0)]), (.tup [(.int 8), (.int 0)]), (.lst [(.int 8), (.int 8)])]), (.tup [(.tup [(.int 0), (.int 0)]), (.tup [(.int 8), (.int 0)]), .non]), (.tup [(.tup [(.int 0), (.int 0)]), (.tup [(.int 0), (.int 0)]), (.tup [(.int 0), (.int 0)])]), (.tup [(.tup [(.int 0), (.int 0)]), (.tup [(.int 8), (.int 0)]), (.tup [(.int 4), (.int 0)]), (.tup [(.int 4), (.int 8)])]), (.tup [(.tup [(.int 0), (.int 0)]), (.tup [(.int 8), (.int 0)]), (.tup [(.int 8), (.int 8)]), (.tup [(.int 4), (.int 0)]), (.tup [(.int 0), (.int 8)])]), (.tup [(.tup [(.int 0), (.int 0)]), (.tup [(.int 1), (.int 1)]), (.tup [(.int 2), (.int 4)]), (.tup [(.int 3), (.int 9)]), (.tup [(.int 4), (.int 16)]), (.tup [(.int 5), (.int 25)]), (.tup [(.int 6), (.int 36)]), (.tup [(.int 7), (.int 49)]), (.tup [(.int 8), (.int 64)]), (.tup [(.int 9), (.int 81)]), (.tup [(.int 10), (.int 100)]), (.tup [(.int 11), (.int 121)]), (.tup [(.int 12), (.int 144)]), (.tup [(.int 13), (.int 169)]), (.tup [(.int 14), (.int 196)]), (.tup [(.int 15), (.int 225)]), (.tup [(.int 16), (.int 256)])])]), .d (.tup [(.int 4), (.int 4), (.int 4)]), .d far, .no, .no, .no] [.fz xs, .ml [(.int c0), (.int c1)]] = .nx [.d (.fn 99999), .m 1, .d (.tup [(.tup [(.int 0), (.int 0)]), (.tup [(.int 8), (.int 0)]), (.tup [(.int 8), (.int 8)]), (.tup [(.int 0), (.int 8)])]), .d (.lst [.non, (.tup []), (.tup [(.tup [(.int 0), (.int 0)]), (.tup [(.int 8), (.int 0)])]), (.lst [(.tup [(.int 0), (.int 0)]), (.tup [(.int 8), (.int 0)]), (.tup [(.int 8), (.int 8)]), (.tup [(.int 0), (.int 8)])]), (.str [114, 111, 117, 110, 100]), (.int 5), (.tup [(.tup [(.int 0), (.int 0)]), (.tup [(.int 8), (.int 0)]), (.tup [(.int 8), (.int 8)]), (.tup [(.int 0), (.int 8)]), (.tup [(.int 0), (.int 0)])]), (.tup [(.tup [(.int 0), (.int 0)]), (.tup [(.int 8), (.int 8)]), (.tup [(.int 8), (.int 0)]), (.tup [(.int 0), (.int 8)])]), (.tup [(.tup [(.int 0), (.int 0)]), (.tup [(.int 1), (.int 0)]), (.tup [(.int 2), (.int 0)])]), (.tup [(.tup [(.int 0), (.int 0)]), (.tup [(.int 8), (.int 0)]), (.tup [(.int 8), (.int 1001)])]), (.tup [(.tup [(.int 0), (.int 0)]), (.tup [(.int 8), (.int 0)]), (.tup [(.bl true), (.int 8)])]), (.tup [(.tup [(.int 0), (.int 0)]), (.tup [(.int 8), (.int 0)]), (.lst [(.int 8), (.int 8)])]), (.tup [(.tup [(.int 0), (.int 0)]), (.tup [(.int 8), (.int 0)]), .non]), (.tup [(.tup [(.int 0), (.int 0)]), (.tup [(.int 0), (.int 0)]), (.tup [(.int 0), (.int 0)])]), (.tup [(.tup [(.int 0), (.int 0)]), (.tup [(.int 8), (.int 0)]), (.tup [(.int 4), (.int 0)]), (.tup [(.int 4), (.int 8)])]), (.tup [(.tup [(.int 0), (.int 0)]), (.tup [(.int 8), (.int 0)]), (.tup [(.int 8), (.int 8)]), (.tup [(.int 4), (.int 0)]), (.tup [(.int 0), (.int 8)])]), (.tup [(.tup [(.int 0), (.int 0)]), (.tup [(.int 1), (.int 1)]), (.tup [(.int 2), (.int 4)]), (.tup [(.int 3), (.int 9)]), (.tup [(.int 4), (.int 16)]), (.tup [(.int 5), (.int 25)]), (.tup [(.int 6), (.int 36)]), (.tup [(.int 7), (.int 49)]), (.tup [(.int 8), (.int 64)]), (.tup [(.int 9), (.int 81)]), (.tup [(.int 10), (.int 100)]), (.tup [(.int 11), (.int 121)]), (.tup [(.int 12), (.int 144)]), (.tup [(.int 13), (.int 169)]), (.tup [(.int 14), (.int 196)]), (.tup [(.int 15), (.int 225)]), (.tup [(.int 16), (.int 256)])])]), .d (.tup [(.int 0)]), .d far, .no, .no, .no] [.fz xs, .ml [(.int c0), (.int c1)]] := by kernel_rfl
theorem g11 (xs : List D) (c0 c1 : Int) (far : D) : S11 cfv [.d (.fn 99999), .m 1, .d (.tup [(.tup [(.int 0), (.int 0)]), (.tup [(.int 8), (.int 0)]), (.tup [(.int 8), (.int 8)]), (.tup [(.int 0), (.int 8)])]), .d (.lst [.non, (.tup []), (.tup [(.tup [(.int 0), (.int 0)]), (.tup [(.int 8), (.int 0)])]), (.lst [(.tup [(.int 0), (.int 0)]), (.tup [(.int 8), (.int 0)]), (.tup [(.int 8), (.int 8)]), (.tup [(.int 0), (.int 8)])]), (.str [114, 111, 117, 110, 100]), (.int 5), (.tup [(.tup [(.int 0), (.int 0)]), (.tup [(.int 8), (.int 0)]), (.tup [(.int 8), (.int 8)]), (.tup [(.int 0), (.int 8)]), (.tup [(.int 0), (.int 0)])]), (.tup [(.tup [(.int 0), (.int 0)]), (.tup [(.int 8), (.int 8)]), (.tup [(.int 8), (.int 0)]), (.tup [(.int 0), (.int 8)])]), (.tup [(.tup [(.int 0), (.int 0)]), (.tup [(.int 1), (.int 0)]), (.tup [(.int 2), (.int 0)])]), (.tup [(.tup [(.int 0), (.int 0)]), (.tup [(.int 8), (.int 0)]), (.tup [(.int 8), (.int 1001)])]), (.tup [(.tup [(.int 0), (.int 0)]), (.tup [(.int 8), (.int 0)]), (.tup [(.bl true), (.int 8)])]), (.tup [(.tup [(.int 0), (.int 0)]), (.tup [(.int 8), (.int 0)]), (.lst [(.int 8), (.int 8)])]), (.tup [(.tup [(.int 0), (.int 0)]), (.tup [(.int 8), (.int 0)]), .non]), (.tup [(.tup [(.int 0), (.int 0)]), (.tup [(.int 0), (.int 0)]), (.tup [(.int 0), (.int 0)])]), (.tup [(.tup [(.int 0), (.int 0)]), (.tup [(.int 8), (.int 0)]), (.tup [(.int 4), (.int 0)]), (.tup [(.int 4), (.int 8)])]), (.tup [(.tup [(.int 0), (.int 0)]), (.tup [(.int 8), (.int 0)]), (.tup [(.int 8), (.int 8)]), (.tup [(.int 4), (.int 0)]), (.tup [(.int 0), (.int 8)])]), (.tup [(.tup [(.int 0), (.int 0)]), (.tup [(.int 1), (.int 1)]), (.tup [(.int 2), (.int 4)]), (.tup [(.int 3), (.int 9)]), (.tup [(.int 4), (.int 16)]), (.tup [(.int 5), (.int 25)]), (.tup [(.int 6), (.int 36)]), (.tup [(.int 7), (.int 49)]), (.tup [(.int 8), (.int 64)]), (.tup [(.int 9), (.int 81)]), (.tup [(.int 10), (.int 100)]), (.tup [(.int 11), (.int 121)]), (.tup [(.int 12), (.int 144)]), (.tup [(.int 13), (.int 169)]), (.tup [(.int 14), (.int 196)]), (.tup [(.int 15), (.int 225)]), (.tup [(.int 16), (.int 256)])])]), .d (.tup [(.int 0)]), .d far, .no, .no, .no] [.fz xs, .ml [(.int c0), (.int c1)]] = .nx [.d (.fn 99999), .m 1, .d (.tup [(.tup [(.int 0), (.int 0)]), (.tup [(.int 8), (.int 0)]), (.tup [(.int 8), (.int 8)]), (.tup [(.int 0), (.int 8)])]), .d (.lst [.non, (.tup []), (.tup [(.tup [(.int 0), (.int 0)]), (.tup [(.int 8), (.int 0)])]), (.lst [(.tup [(.int 0), (.int 0)]), (.tup [(.int 8), (.int 0)]), (.tup [(.int 8), (.int 8)]), (.tup [(.int 0), (.int 8)])]), (.str [114, 111, 117, 110, 100]), (.int 5), (.tup [(.tup [(.int 0), (.int 0)]), (.tup [(.int 8), (.int 0)]), (.tup [(.int 8), (.int 8)]), (.tup [(.int 0), (.int 8)]), (.tup [(.int 0), (.int 0)])]), (.tup [(.tup [(.int 0), (.int 0)]), (.tup [(.int 8), (.int 8)]), (.tup [(.int 8), (.int 0)]), (.tup [(.int 0), (.int 8)])]), (.tup [(.tup [(.int 0), (.int 0)]), (.tup [(.int 1), (.int 0)]), (.tup [(.int 2), (.int 0)])]), (.tup [(.tup [(.int 0), (.int 0)]), (.tup [(.int 8), (.int 0)]), (.tup [(.int 8), (.int 1001)])]), (.tup [(.tup [(.int 0), (.int 0)]), (.tup [(.int 8), (.int 0)]), (.tup [(.bl true), (.int 8)])]), (.tup [(.tup [(.int 0), (.int 0)]), (.tup [(.int 8), (.int 0)]), (.lst [(.int 8), (.int 8)])]), (.tup [(.tup [(.int 0), (.int 0)]), (.tup [(.int 8), (.int 0)]), .non]), (.tup [(.tup [(.int 0), (.int 0)]), (.tup [(.int 0), (.int 0)]), (.tup [(.int 0), (.int 0)])]), (.tup [(.tup [(.int 0), (.int 0)]), (.tup [(.int 8), (.int 0)]), (.tup [(.int 4), (.int 0)]), (.tup [(.int 4), (.int 8)])]), (.tup [(.tup [(.int 0), (.int 0)]), (.tup [(.int 8), (.int 0)]), (.tup [(.int 8), (.int 8)]), (.tup [(.int 4), (.int 0)]), (.tup [(.int 0), (.int 8)])]), (.tup [(.tup [(.int 0), (.int 0)]), (.tup [(.int 1), (.int 1)]), (.tup [(.int 2), (.int 4)]), (.tup [(.int 3), (.int 9)]), (.tup [(.int 4), (.int 16)]), (.tup [(.int 5), (.int 25)]), (.tup [(.int 6), (.int 36)]), (.tup [(.int 7), (.int 49)]), (.tup [(.int 8), (.int 64)]), (.tup [(.int 9), (.int 81)]), (.tup [(.int 10), (.int 100)]), (.tup [(.int 11), (.int 121)]), (.tup [(.int 12), (.int 144)]), (.tup [(.int 13), (.int 169)]), (.tup [(.int 14), (.int 196)]), (.tup [(.int 15), (.int 225)]), (.tup [(.int 16), (.int 256)])])]), .d (.tup [(.int 0)]), .d far, .d (.tup [(.tup [(.int 0), (.int 0)]), (.tup [(.int 6), (.int 0)]), (.tup [(.int 6), (.int 6)]), (.tup [(.int 3), (.int 2)]), (.tup [(.int 0), (.int 6)])]), .no, .no] [.fz xs, .ml [(.int c0), (.int c1)]] := by kernel_rfl
theorem g12 (xs : List D) (c0 c1 : Int) (far : D) : S12 cfv [.d (.fn 99999), .m 1, .d (.tup [(.tup [(.int 0), (.int 0)]), (.tup [(.int 8), (.int 0)]), (.tup [(.int 8), (.int 8)]), (.tup [(.int 0), (.int 8)])]), .d (.lst [.non, (.tup []), (.tup [(.tup [(.int 0), (.int 0)]), (.tup [(.int 8), (.int 0)])]), (.lst [(.tup [(.int 0), (.int 0)]), (.tup [(.int 8), (.int 0)]), (.tup [(.int 8), (.int 8)]), (.tup [(.int 0), (.int 8)])]), (.str [114, 111, 117, 110, 100]), (.int 5), (.tup [(.tup [(.int 0), (.int 0)]), (.tup [(.int 8), (.int 0)]), (.tup [(.int 8), (.int 8)]), (.tup [(.int 0), (.int 8)]), (.tup [(.int 0), (.int 0)])]), (.tup [(.tup [(.int 0), (.int 0)]), (.tup [(.int 8), (.int 8)]), (.tup [(.int 8), (.int 0)]), (.tup [(.int 0), (.int 8)])]), (.tup [(.tup [(.int 0), (.int 0)]), (.tup [(.int 1), (.int 0)]), (.tup [(.int 2), (.int 0)])]), (.tup [(.tup [(.int 0), (.int 0)]), (.tup [(.int 8), (.int 0)]), (.tup [(.int 8), (.int 1001)])]), (.tup [(.tup [(.int 0), (.int 0)]), (.tup [(.int 8), (.int 0)]), (.tup [(.bl true), (.int 8)])]), (.tup [(.tup [(.int 0), (.int 0)]), (.tup [(.int 8), (.int 0)]), (.lst [(.int 8), (.int 8)])]), (.tup [(.tup [(.int 0), (.int 0)]), (.tup [(.int 8), (.int 0)]), .non]), (.tup [(.tup [(.int 0), (.int 0)]), (.tup [(.int 0), (.int 0)]), (.tup [(.int 0), (.int 0)])]), (.tup [(.tup [(.int 0), (.int 0)]), (.tup [(.int 8), (.int 0)]), (.tup [(.int 4), (.int 0)]), (.tup [(.int 4), (.int 8)])]), (.tup [(.tup [(.int 0), (.int 0)]), (.tup [(.int 8), (.int 0)]), (.tup [(.int 8), (.int 8)]), (.tup [(.int 4), (.int 0)]), (.tup [(.int 0), (.int 8)])]), (.tup [(.tup [(.int 0), (.int 0)]), (.tup [(.int 1), (.int 1)]), (.tup [(.int 2), (.int 4)]), (.tup [(.int 3), (.int 9)]), (.tup [(.int 4), (.int 16)]), (.tup [(.int 5), (.int 25)]), (.tup [(.int 6), (.int 36)]), (.tup [(.int 7), (.int 49)]), (.tup [(.int 8), (.int 64)]), (.tup [(.int 9), (.int 81)]), (.tup [(.int 10), (.int 100)]), (.tup [(.int 11), (.int 121)]), (.tup [(.int 12), (.int 144)]), (.tup [(.int 13), (.int 169)]), (.tup [(.int 14), (.int 196)]), (.tup [(.int 15), (.int 225)]), (.tup [(.int 16), (.int 256)])])]), .d (.tup [(.int 0)]), .d far, .d (.tup [(.tup [(.int 0), (.int 0)]), (.tup [(.int 6), (.int 0)]), (.tup [(.int 6), (.int 6)]), (.tup [(.int 3), (.int 2)]), (.tup [(.int 0), (.int 6)])]), .no, .no] [.fz xs, .ml [(.int c0), (.int c1)]] = .nx [.d (.fn 99999), .m 1, .d (.tup [(.tup [(.int 0), (.int 0)]), (.tup [(.int 8), (.int 0)]), (.tup [(.int 8), (.int 8)]), (.tup [(.int 0), (.int 8)])]), .d (.lst [.non, (.tup []), (.tup [(.tup [(.int 0), (.int 0)]), (.tup [(.int 8), (.int 0)])]), (.lst [(.tup [(.int 0), (.int 0)]), (.tup [(.int 8), (.int 0)]), (.tup [(.int 8), (.int 8)]), (.tup [(.int 0), (.int 8)])]), (.str [114, 111, 117, 110, 100]), (.int 5), (.tup [(.tup [(.int 0), (.int 0)]), (.tup [(.int 8), (.int 0)]), (.tup [(.int 8), (.int 8)]), (.tup [(.int 0), (.int 8)]), (.tup [(.int 0), (.int 0)])]), (.tup [(.tup [(.int 0), (.int 0)]), (.tup [(.int 8), (.int 8)]), (.tup [(.int 8), (.int 0)]), (.tup [(.int 0), (.int 8)])]), (.tup [(.tup [(.int 0), (.int 0)]), (.tup [(.int 1), (.int 0)]), (.tup [(.int 2), (.int 0)])]), (.tup [(.tup [(.int 0), (.int 0)]), (.tup [(.int 8), (.int 0)]), (.tup [(.int 8), (.int 1001)])]), (.tup [(.tup [(.int 0), (.int 0)]), (.tup [(.int 8), (.int 0)]), (.tup [(.bl true), (.int 8)])]), (.tup [(.tup [(.int 0), (.int 0)]), (.tup [(.int 8), (.int 0)]), (.lst [(.int 8), (.int 8)])]), (.tup [(.tup [(.int 0), (.int 0)]), (.tup [(.int 8), (.int 0)]), .non]), (.tup [(.tup [(.int 0), (.int 0)]), (.tup [(.int 0), (.int 0)]), (.tup [(.int 0), (.int 0)])]), (.tup [(.tup [(.int 0), (.int 0)]), (.tup [(.int 8), (.int 0)]), (.tup [(.int 4), (.int 0)]), (.tup [(.int 4), (.int 8)])]), (.tup [(.tup [(.int 0), (.int 0)]), (.tup [(.int 8), (.int 0)]), (.tup [(.int 8), (.int 8)]), (.tup [(.int 4), (.int 0)]), (.tup [(.int 0), (.int 8)])]), (.tup [(.tup [(.int 0), (.int 0)]), (.tup [(.int 1), (.int 1)]), (.tup [(.int 2), (.int 4)]), (.tup [(.int 3), (.int 9)]), (.tup [(.int 4), (.int 16)]), (.tup [(.int 5), (.int 25)]), (.tup [(.int 6), (.int 36)]), (.tup [(.int 7), (.int 49)]), (.tup [(.int 8), (.int 64)]), (.tup [(.int 9), (.int 81)]), (.tup [(.int 10), (.int 100)]), (.tup [(.int 11), (.int 121)]), (.tup [(.int 12), (.int 144)]), (.tup [(.int 13), (.int 169)]), (.tup [(.int 14), (.int 196)]), (.tup [(.int 15), (.int 225)]), (.tup [(.int 16), (.int 256)])])]), .d (.tup [(.int 0)]), .d far, .d (.tup [(.tup [(.int 0), (.int 0)]), (.tup [(.int 6), (.int 0)]), (.tup [(.int 6), (.int 6)]), (.tup [(.int 3), (.int 2)]), (.tup [(.int 0), (.int 6)])]), .m 2, .no] [.fz xs, .ml [(.int c0), (.int c1)], .ml [(.str [112, 108, 97, 110]), (.str [112, 108, 97, 110]), (.str [112, 108, 97, 110])]] := by kernel_rfl
theorem g13 (xs : List D) (c0 c1 : Int) (far : D) : S13 cfv [.d (.fn 99999), .m 1, .d (.tup [(.tup [(.int 0), (.int 0)]), (.tup [(.int 8), (.int 0)]), (.tup [(.int 8), (.int 8)]), (.tup [(.int 0), (.int 8)])]), .d (.lst [.non, (.tup []), (.tup [(.tup [(.int 0), (.int 0)]), (.tup [(.int 8), (.int 0)])]), (.lst [(.tup [(.int 0), (.int 0)]), (.tup [(.int 8), (.int 0)]), (.tup [(.int 8), (.int 8)]), (.tup [(.int 0), (.int 8)])]), (.str [114, 111, 117, 110, 100]), (.int 5), (.tup [(.tup [(.int 0), (.int 0)]), (.tup [(.int 8), (.int 0)]), (.tup [(.int 8), (.int 8)]), (.tup [(.int 0), (.int 8)]), (.tup [(.int 0), (.int 0)])]), (.tup [(.tup [(.int 0), (.int 0)]), (.tup [(.int 8), (.int 8)]), (.tup [(.int 8), (.int 0)]), (.tup [(.int 0), (.int 8)])]), (.tup [(.tup [(.int 0), (.int 0)]), (.tup [(.int 1), (.int 0)]), (.tup [(.int 2), (.int 0)])]), (.tup [(.tup [(.int 0), (.int 0)]), (.tup [(.int 8), (.int 0)]), (.tup [(.int 8), (.int 1001)])]), (.tup [(.tup [(.int 0), (.int 0)]), (.tup [(.int 8), (.int 0)]), (.tup [(.bl true), (.int 8)])]), (.tup [(.tup [(.int 0), (.int 0)]), (.tup [(.int 8), (.int 0)]), (.lst [(.int 8), (.int 8)])]), (.tup [(.tup [(.int 0), (.int 0)]), (.tup [(.int 8), (.int 0)]), .non]), (.tup [(.tup [(.int 0), (.int 0)]), (.tup [(.int 0), (.int 0)]), (.tup [(.int 0), (.int 0)])]), (.tup [(.tup [(.int 0), (.int 0)]), (.tup [(.int 8), (.int 0)]), (.tup [(.int 4), (.int 0)]), (.tup [(.int 4), (.int 8)])]), (.tup [(.tup [(.int 0), (.int 0)]), (.tup [(.int 8), (.int 0)]), (.tup [(.int 8), (.int 8)]), (.tup [(.int 4), (.int 0)]), (.tup [(.int 0), (.int 8)])]), (.tup [(.tup [(.int 0), (.int 0)]), (.tup [(.int 1), (.int 1)]), (.tup [(.int 2), (.int 4)]), (.tup [(.int 3), (.int 9)]), (.tup [(.int 4), (.int 16)]), (.tup [(.int 5), (.int 25)]), (.tup [(.int 6), (.int 36)]), (.tup [(.int 7), (.int 49)]), (.tup [(.int 8), (.int 64)]), (.tup [(.int 9), (.int 81)]), (.tup [(.int 10), (.int 100)]), (.tup [(.int 11), (.int 121)]), (.tup [(.int 12), (.int 144)]), (.tup [(.int 13), (.int 169)]), (.tup [(.int 14), (.int 196)]), (.tup [(.int 15), (.int 225)]), (.tup [(.int 16), (.int 256)])])]), .d (.tup [(.int 0)]), .d far, .d (.tup [(.tup [(.int 0), (.int 0)]), (.tup [(.int 6), (.int 0)]), (.tup [(.int 6), (.int 6)]), (.tup [(.int 3), (.int 2)]), (.tup [(.int 0), (.int 6)])]), .m 2, .no] [.fz xs, .ml [(.int c0), (.int c1)], .ml [(.str [112, 108, 97, 110]), (.str [112, 108, 97, 110]), (.str [112, 108, 97, 110])]] = .nx [.d (.fn 99999), .m 1, .d (.tup [(.tup [(.int 0), (.int 0)]), (.tup [(.int 8), (.int 0)]), (.tup [(.int 8), (.int 8)]), (.tup [(.int 0), (.int 8)])]), .d (.lst [.non, (.tup []), (.tup [(.tup [(.int 0), (.int 0)]), (.tup [(.int 8), (.int 0)])]), (.lst [(.tup [(.int 0), (.int 0)]), (.tup [(.int 8), (.int 0)]), (.tup [(.int 8), (.int 8)]), (.tup [(.int 0), (.int 8)])]), (.str [114, 111, 117, 110, 100]), (.int 5), (.tup [(.tup [(.int 0), (.int 0)]), (.tup [(.int 8), (.int 0)]), (.tup [(.int 8), (.int 8)]), (.tup [(.int 0), (.int 8)]), (.tup [(.int 0), (.int 0)])]), (.tup [(.tup [(.int 0), (.int 0)]), (.tup [(.int 8), (.int 8)]), (.tup [(.int 8), (.int 0)]), (.tup [(.int 0), (.int 8)])]), (.tup [(.tup [(.int 0), (.int 0)]), (.tup [(.int 1), (.int 0)]), (.tup [(.int 2), (.int 0)])]), (.tup [(.tup [(.int 0), (.int 0)]), (.tup [(.int 8), (.int 0)]), (.tup [(.int 8), (.int 1001)])]), (.tup [(.tup [(.int 0), (.int 0)]), (.tup [(.int 8), (.int 0)]), (.tup [(.bl true), (.int 8)])]), (.tup [(.tup [(.int 0), (.int 0)]), (.tup [(.int 8), (.int 0)]), (.lst [(.int 8), (.int 8)])]), (.tup [(.tup [(.int 0), (.int 0)]), (.tup [(.int 8), (.int 0)]), .non]), (.tup [(.tup [(.int 0), (.int 0)]), (.tup [(.int 0), (.int 0)]), (.tup [(.int 0), (.int 0)])]), (.tup [(.tup [(.int 0), (.int 0)]), (.tup [(.int 8), (.int 0)]), (.tup [(.int 4), (.int 0)]), (.tup [(.int 4), (.int 8)])]), (.tup [(.tup [(.int 0), (.int 0)]), (.tup [(.int 8), (.int 0)]), (.tup [(.int 8), (.int 8)]), (.tup [(.int 4), (.int 0)]), (.tup [(.int 0), (.int 8)])]), (.tup [(.tup [(.int 0), (.int 0)]), (.tup [(.int 1), (.int 1)]), (.tup [(.int 2), (.int 4)]), (.tup [(.int 3), (.int 9)]), (.tup [(.int 4), (.int 16)]), (.tup [(.int 5), (.int 25)]), (.tup [(.int 6), (.int 36)]), (.tup [(.int 7), (.int 49)]), (.tup [(.int 8), (.int 64)]), (.tup [(.int 9), (.int 81)]), (.tup [(.int 10), (.int 100)]), (.tup [(.int 11), (.int 121)]), (.tup [(.int 12), (.int 144)]), (.tup [(.int 13), (.int 169)]), (.tup [(.int 14), (.int 196)]), (.tup [(.int 15), (.int 225)]), (.tup [(.int 16), (.int 256)])])]), .d (.tup [(.int 0)]), .d far, .d (.tup [(.tup [(.int 0), (.int 0)]), (.tup [(.int 6), (.int 0)]), (.tup [(.int 6), (.int 6)]), (.tup [(.int 3), (.int 2)]), (.tup [(.int 0), (.int 6)])]), .m 2, .no] [.fz xs, .ml [(.int c0), (.int c1)], .ml [(.str [112, 108, 97, 110]), (.str [112, 108, 97, 110]), (.str [112, 108, 97, 110]), (.str [])]] := by kernel_rfl
theorem g14_0 (xs : List D) (c0 c1 : Int) : S14 cfv [.d (.fn 99999), .m 1, .d (.tup [(.tup [(.int 0), (.int 0)]), (.tup [(.int 8), (.int 0)]), (.tup [(.int 8), (.int 8)]), (.tup [(.int 0), (.int 8)])]), .d (.lst [.non, (.tup []), (.tup [(.tup [(.int 0), (.int 0)]), (.tup [(.int 8), (.int 0)])]), (.lst [(.tup [(.int 0), (.int 0)]), (.tup [(.int 8), (.int 0)]), (.tup [(.int 8), (.int 8)]), (.tup [(.int 0), (.int 8)])]), (.str [114, 111, 117, 110, 100]), (.int 5), (.tup [(.tup [(.int 0), (.int 0)]), (.tup [(.int 8), (.int 0)]), (.tup [(.int 8), (.int 8)]), (.tup [(.int 0), (.int 8)]), (.tup [(.int 0), (.int 0)])]), (.tup [(.tup [(.int 0), (.int 0)]), (.tup [(.int 8), (.int 8)]), (.tup [(.int 8), (.int 0)]), (.tup [(.int 0), (.int 8)])]), (.tup [(.tup [(.int 0), (.int 0)]), (.tup [(.int 1), (.int 0)]), (.tup [(.int 2), (.int 0)])]), (.tup [(.tup [(.int 0), (.int 0)]), (.tup [(.int 8), (.int 0)]), (.tup [(.int 8), (.int 1001)])]), (.tup [(.tup [(.int 0), (.int 0)]), (.tup [(.int 8), (.int 0)]), (.tup [(.bl true), (.int 8)])]), (.tup [(.tup [(.int 0), (.int 0)]), (.tup [(.int 8), (.int 0)]), (.lst [(.int 8), (.int 8)])]), (.tup [(.tup [(.int 0), (.int 0)]), (.tup [(.int 8), (.int 0)]), .non]), (.tup [(.tup [(.int 0), (.int 0)]), (.tup [(.int 0), (.int 0)]), (.tup [(.int 0), (.int 0)])]), (.tup [(.tup [(.int 0), (.int 0)]), (.tup [(.int 8), (.int 0)]), (.tup [(.int 4), (.int 0)]), (.tup [(.int 4), (.int 8)])]), (.tup [(.tup [(.int 0), (.int 0)]), (.tup [(.int 8), (.int 0)]), (.tup [(.int 8), (.int 8)]), (.tup [(.int 4), (.int 0)]), (.tup [(.int 0), (.int 8)])]), (.tup [(.tup [(.int 0), (.int 0)]), (.tup [(.int 1), (.int 1)]), (.tup [(.int 2), (.int 4)]), (.tup [(.int 3), (.int 9)]), (.tup [(.int 4), (.int 16)]), (.tup [(.int 5), (.int 25)]), (.tup [(.int 6), (.int 36)]), (.tup [(.int 7), (.int 49)]), (.tup [(.int 8), (.int 64)]), (.tup [(.int 9), (.int 81)]), (.tup [(.int 10), (.int 100)]), (.tup [(.int 11), (.int 121)]), (.tup [(.int 12), (.int 144)]), (.tup [(.int 13), (.int 169)]), (.tup [(.int 14), (.int 196)]), (.tup [(.int 15), (.int 225)]), (.tup [(.int 16), (.int 256)])])]), .d (.tup [(.int 0)]), .d (.tup [(.int 9), (.int 4)]), .d (.tup [(.tup [(.int 0), (.int 0)]), (.tup [(.int 6), (.int 0)]), (.tup [(.int 6), (.int 6)]), (.tup [(.int 3), (.int 2)]), (.tup [(.int 0), (.int 6)])]), .m 2, .no] [.fz xs, .ml [(.int c0), (.int c1)], .ml [(.str [112, 108, 97, 110]), (.str [112, 108, 97, 110]), (.str [112, 108, 97, 110]), (.str [])]] = .ret (.d (.bl true)) [.fz xs, .ml [(.int c0), (.int c1)], .ml [(.str [112, 108, 97, 110]), (.str [112, 108, 97, 110]), (.str [112, 108, 97, 110]), (.str [])]] := by kernel_rfl
theorem g14_1 (xs : List D) (c0 c1 : Int) : S14 cfv [.d (.fn 99999), .m 1, .d (.tup [(.tup [(.int 0), (.int 0)]), (.tup [(.int 8), (.int 0)]), (.tup [(.int 8), (.int 8)]), (.tup [(.int 0), (.int 8)])]), .d (.lst [.non, (.tup []), (.tup [(.tup [(.int 0), (.int 0)]), (.tup [(.int 8), (.int 0)])]), (.lst [(.tup [(.int 0), (.int 0)]), (.tup [(.int 8), (.int 0)]), (.tup [(.int 8), (.int 8)]), (.tup [(.int 0), (.int 8)])]), (.str [114, 111, 117, 110, 100]), (.int 5), (.tup [(.tup [(.int 0), (.int 0)]), (.tup [(.int 8), (.int 0)]), (.tup [(.int 8), (.int 8)]), (.tup [(.int 0), (.int 8)]), (.tup [(.int 0), (.int 0)])]), (.tup [(.tup [(.int 0), (.int 0)]), (.tup [(.int 8), (.int 8)]), (.tup [(.int 8), (.int 0)]), (.tup [(.int 0), (.int 8)])]), (.tup [(.tup [(.int 0), (.int 0)]), (.tup [(.int 1), (.int 0)]), (.tup [(.int 2), (.int 0)])]), (.tup [(.tup [(.int 0), (.int 0)]), (.tup [(.int 8), (.int 0)]), (.tup [(.int 8), (.int 1001)])]), (.tup [(.tup [(.int 0), (.int 0)]), (.tup [(.int 8), (.int 0)]), (.tup [(.bl true), (.int 8)])]), (.tup [(.tup [(.int 0), (.int 0)]), (.tup [(.int 8), (.int 0)]), (.lst [(.int 8), (.int 8)])]), (.tup [(.tup [(.int 0), (.int 0)]), (.tup [(.int 8), (.int 0)]), .non]), (.tup [(.tup [(.int 0), (.int 0)]), (.tup [(.int 0), (.int 0)]), (.tup [(.int 0), (.int 0)])]), (.tup [(.tup [(.int 0), (.int 0)]), (.tup [(.int 8), (.int 0)]), (.tup [(.int 4), (.int 0)]), (.tup [(.int 4), (.int 8)])]), (.tup [(.tup [(.int 0), (.int 0)]), (.tup [(.int 8), (.int 0)]), (.tup [(.int 8), (.int 8)]), (.tup [(.int 4), (.int 0)]), (.tup [(.int 0), (.int 8)])]), (.tup [(.tup [(.int 0), (.int 0)]), (.tup [(.int 1), (.int 1)]), (.tup [(.int 2), (.int 4)]), (.tup [(.int 3), (.int 9)]), (.tup [(.int 4), (.int 16)]), (.tup [(.int 5), (.int 25)]), (.tup [(.int 6), (.int 36)]), (.tup [(.int 7), (.int 49)]), (.tup [(.int 8), (.int 64)]), (.tup [(.int 9), (.int 81)]), (.tup [(.int 10), (.int 100)]), (.tup [(.int 11), (.int 121)]), (.tup [(.int 12), (.int 144)]), (.tup [(.int 13), (.int 169)]), (.tup [(.int 14), (.int 196)]), (.tup [(.int 15), (.int 225)]), (.tup [(.int 16), (.int 256)])])]), .d (.tup [(.int 0)]), .d (.tup [.int (-1), (.int 0)]), .d (.tup [(.tup [(.int 0), (.int 0)]), (.tup [(.int 6), (.int 0)]), (.tup [(.int 6), (.int 6)]), (.tup [(.int 3), (.int 2)]), (.tup [(.int 0), (.int 6)])]), .m 2, .no] [.fz xs, .ml [(.int c0), (.int c1)], .ml [(.str [112, 108, 97, 110]), (.str [112, 108, 97, 110]), (.str [112, 108, 97, 110]), (.str [])]] = .ret (.d (.bl true)) [.fz xs, .ml [(.int c0), (.int c1)], .ml [(.str [112, 108, 97, 110]), (.str [112, 108, 97, 110]), (.str [112, 108, 97, 110]), (.str [])]] := by kernel_rfl
theorem g14_2 (xs : List D) (c0 c1 : Int) : S14 cfv [.d (.fn 99999), .m 1, .d (.tup [(.tup [(.int 0), (.int 0)]), (.tup [(.int 8), (.int 0)]), (.tup [(.int 8), (.int 8)]), (.tup [(.int 0), (.int 8)])]), .d (.lst [.non, (.tup []), (.tup [(.tup [(.int 0), (.int 0)]), (.tup [(.int 8), (.int 0)])]), (.lst [(.tup [(.int 0), (.int 0)]), (.tup [(.int 8), (.int 0)]), (.tup [(.int 8), (.int 8)]), (.tup [(.int 0), (.int 8)])]), (.str [114, 111, 117, 110, 100]), (.int 5), (.tup [(.tup [(.int 0), (.int 0)]), (.tup [(.int 8), (.int 0)]), (.tup [(.int 8), (.int 8)]), (.tup [(.int 0), (.int 8)]), (.tup [(.int 0), (.int 0)])]), (.tup [(.tup [(.int 0), (.int 0)]), (.tup [(.int 8), (.int 8)]), (.tup [(.int 8), (.int 0)]), (.tup [(.int 0), (.int 8)])]), (.tup [(.tup [(.int 0), (.int 0)]), (.tup [(.int 1), (.int 0)]), (.tup [(.int 2), (.int 0)])]), (.tup [(.tup [(.int 0), (.int 0)]), (.tup [(.int 8), (.int 0)]), (.tup [(.int 8), (.int 1001)])]), (.tup [(.tup [(.int 0), (.int 0)]), (.tup [(.int 8), (.int 0)]), (.tup [(.bl true), (.int 8)])]), (.tup [(.tup [(.int 0), (.int 0)]), (.tup [(.int 8), (.int 0)]), (.lst [(.int 8), (.int 8)])]), (.tup [(.tup [(.int 0), (.int 0)]), (.tup [(.int 8), (.int 0)]), .non]), (.tup [(.tup [(.int 0), (.int 0)]), (.tup [(.int 0), (.int 0)]), (.tup [(.int 0), (.int 0)])]), (.tup [(.tup [(.int 0), (.int 0)]), (.tup [(.int 8), (.int 0)]), (.tup [(.int 4), (.int 0)]), (.tup [(.int 4), (.int 8)])]), (.tup [(.tup [(.int 0), (.int 0)]), (.tup [(.int 8), (.int 0)]), (.tup [(.int 8), (.int 8)]), (.tup [(.int 4), (.int 0)]), (.tup [(.int 0), (.int 8)])]), (.tup [(.tup [(.int 0), (.int 0)]), (.tup [(.int 1), (.int 1)]), (.tup [(.int 2), (.int 4)]), (.tup [(.int 3), (.int 9)]), (.tup [(.int 4), (.int 16)]), (.tup [(.int 5), (.int 25)]), (.tup [(.int 6), (.int 36)]), (.tup [(.int 7), (.int 49)]), (.tup [(.int 8), (.int 64)]), (.tup [(.int 9), (.int 81)]), (.tup [(.int 10), (.int 100)]), (.tup [(.int 11), (.int 121)]), (.tup [(.int 12), (.int 144)]), (.tup [(.int 13), (.int 169)]), (.tup [(.int 14), (.int 196)]), (.tup [(.int 15), (.int 225)]), (.tup [(.int 16), (.int 256)])])]), .d (.tup [(.int 0)]), .d (.tup [(.int 1000), .int (-1000)]), .d (.tup [(.tup [(.int 0), (.int 0)]), (.tup [(.int 6), (.int 0)]), (.tup [(.int 6), (.int 6)]), (.tup [(.int 3), (.int 2)]), (.tup [(.int 0), (.int 6)])]), .m 2, .no] [.fz xs, .ml [(.int c0), (.int c1)], .ml [(.str [112, 108, 97, 110]), (.str [112, 108, 97, 110]), (.str [112, 108, 97, 110]), (.str [])]] = .ret (.d (.bl true)) [.fz xs, .ml [(.int c0), (.int c1)], .ml [(.str [112, 108, 97, 110]), (.str [112, 108, 97, 110]), (.str [112, 108, 97, 110]), (.str [])]] := by kernel_rfl
theorem g14_3 (xs : List D) (c0 c1 : Int) : S14 cfv [.d (.fn 99999), .m 1, .d (.tup [(.tup [(.int 0), (.int 0)]), (.tup [(.int 8), (.int 0)]), (.tup [(.int 8), (.int 8)]), (.tup [(.int 0), (.int 8)])]), .d (.lst [.non, (.tup []), (.tup [(.tup [(.int 0), (.int 0)]), (.tup [(.int 8), (.int 0)])]), (.lst [(.tup [(.int 0), (.int 0)]), (.tup [(.int 8), (.int 0)]), (.tup [(.int 8), (.int 8)]), (.tup [(.int 0), (.int 8)])]), (.str [114, 111, 117, 110, 100]), (.int 5), (.tup [(.tup [(.int 0), (.int 0)]), (.tup [(.int 8), (.int 0)]), (.tup [(.int 8), (.int 8)]), (.tup [(.int 0), (.int 8)]), (.tup [(.int 0), (.int 0)])]), (.tup [(.tup [(.int 0), (.int 0)]), (.tup [(.int 8), (.int 8)]), (.tup [(.int 8), (.int 0)]), (.tup [(.int 0), (.int 8)])]), (.tup [(.tup [(.int 0), (.int 0)]), (.tup [(.int 1), (.int 0)]), (.tup [(.int 2), (.int 0)])]), (.tup [(.tup [(.int 0), (.int 0)]), (.tup [(.int 8), (.int 0)]), (.tup [(.int 8), (.int 1001)])]), (.tup [(.tup [(.int 0), (.int 0)]), (.tup [(.int 8), (.int 0)]), (.tup [(.bl true), (.int 8)])]), (.tup [(.tup [(.int 0), (.int 0)]), (.tup [(.int 8), (.int 0)]), (.lst [(.int 8), (.int 8)])]), (.tup [(.tup [(.int 0), (.int 0)]), (.tup [(.int 8), (.int 0)]), .non]), (.tup [(.tup [(.int 0), (.int 0)]), (.tup [(.int 0), (.int 0)]), (.tup [(.int 0), (.int 0)])]), (.tup [(.tup [(.int 0), (.int 0)]), (.tup [(.int 8), (.int 0)]), (.tup [(.int 4), (.int 0)]), (.tup [(.int 4), (.int 8)])]), (.tup [(.tup [(.int 0), (.int 0)]), (.tup [(.int 8), (.int 0)]), (.tup [(.int 8), (.int 8)]), (.tup [(.int 4), (.int 0)]), (.tup [(.int 0), (.int 8)])]), (.tup [(.tup [(.int 0), (.int 0)]), (.tup [(.int 1), (.int 1)]), (.tup [(.int 2), (.int 4)]), (.tup [(.int 3), (.int 9)]), (.tup [(.int 4), (.int 16)]), (.tup [(.int 5), (.int 25)]), (.tup [(.int 6), (.int 36)]), (.tup [(.int 7), (.int 49)]), (.tup [(.int 8), (.int 64)]), (.tup [(.int 9), (.int 81)]), (.tup [(.int 10), (.int 100)]), (.tup [(.int 11), (.int 121)]), (.tup [(.int 12), (.int 144)]), (.tup [(.int 13), (.int 169)]), (.tup [(.int 14), (.int 196)]), (.tup [(.int 15), (.int 225)]), (.tup [(.int 16), (.int 256)])])]), .d (.tup [(.int 0)]), .d (.tup [(.int 4), (.int 9)]), .d (.tup [(.tup [(.int 0), (.int 0)]), (.tup [(.int 6), (.int 0)]), (.tup [(.int 6), (.int 6)]), (.tup [(.int 3), (.int 2)]), (.tup [(.int 0), (.int 6)])]), .m 2, .no] [.fz xs, .ml [(.int c0), (.int c1)], .ml [(.str [112, 108, 97, 110]), (.str [112, 108, 97, 110]), (.str [112, 108, 97, 110]), (.str [])]] = .ret (.d (.bl true)) [.fz xs, .ml [(.int c0), (.int c1)], .ml [(.str [112, 108, 97, 110]), (.str [112, 108, 97, 110]), (.str [112, 108, 97, 110]), (.str [])]] := by kernel_rfl
theorem seq_nx {a b : Sn} {cf : CallF} {e e2 : Ev} {h h2 : Heap} (x : a cf e h = .nx e2 h2) : sSeq a b cf e h = b cf e2 h2 := by unfold sSeq; rw [x]
theorem last_0 (xs : List D) (c0 c1 : Int) : R9 cfv [.d (.fn 99999), .m 1, .d (.tup [(.tup [(.int 0), (.int 0)]), (.tup [(.int 8), (.int 0)]), (.tup [(.int 8), (.int 8)]), (.tup [(.int 0), (.int 8)])]), .d (.lst [.non, (.tup []), (.tup [(.tup [(.int 0), (.int 0)]), (.tup [(.int 8), (.int 0)])]), (.lst [(.tup [(.int 0), (.int 0)]), (.tup [(.int 8), (.int 0)]), (.tup [(.int 8), (.int 8)]), (.tup [(.int 0), (.int 8)])]), (.str [114, 111, 117, 110, 100]), (.int 5), (.tup [(.tup [(.int 0), (.int 0)]), (.tup [(.int 8), (.int 0)]), (.tup [(.int 8), (.int 8)]), (.tup [(.int 0), (.int 8)]), (.tup [(.int 0), (.int 0)])]), (.tup [(.tup [(.int 0), (.int 0)]), (.tup [(.int 8), (.int 8)]), (.tup [(.int 8), (.int 0)]), (.tup [(.int 0), (.int 8)])]), (.tup [(.tup [(.int 0), (.int 0)]), (.tup [(.int 1), (.int 0)]), (.tup [(.int 2), (.int 0)])]), (.tup [(.tup [(.int 0), (.int 0)]), (.tup [(.int 8), (.int 0)]), (.tup [(.int 8), (.int 1001)])]), (.tup [(.tup [(.int 0), (.int 0)]), (.tup [(.int 8), (.int 0)]), (.tup [(.bl true), (.int 8)])]), (.tup [(.tup [(.int 0), (.int 0)]), (.tup [(.int 8), (.int 0)]), (.lst [(.int 8), (.int 8)])]), (.tup [(.tup [(.int 0), (.int 0)]), (.tup [(.int 8), (.int 0)]), .non]), (.tup [(.tup [(.int 0), (.int 0)]), (.tup [(.int 0), (.int 0)]), (.tup [(.int 0), (.int 0)])]), (.tup [(.tup [(.int 0), (.int 0)]), (.tup [(.int 8), (.int 0)]), (.tup [(.int 4), (.int 0)]), (.tup [(.int 4), (.int 8)])]), (.tup [(.tup [(.int 0), (.int 0)]), (.tup [(.int 8), (.int 0)]), (.tup [(.int 8), (.int 8)]), (.tup [(.int 4), (.int 0)]), (.tup [(.int 0), (.int 8)])]), (.tup [(.tup [(.int 0), (.int 0)]), (.tup [(.int 1), (.int 1)]), (.tup [(.int 2), (.int 4)]), (.tup [(.int 3), (.int 9)]), (.tup [(.int 4), (.int 16)]), (.tup [(.int 5), (.int 25)]), (.tup [(.int 6), (.int 36)]), (.tup [(.int 7), (.int 49)]), (.tup [(.int 8), (.int 64)]), (.tup [(.int 9), (.int 81)]), (.tup [(.int 10), (.int 100)]), (.tup [(.int 11), (.int 121)]), (.tup [(.int 12), (.int 144)]), (.tup [(.int 13), (.int 169)]), (.tup [(.int 14), (.int 196)]), (.tup [(.int 15), (.int 225)]), (.tup [(.int 16), (.int 256)])])]), .d (.tup [(.int 4), (.int 4), (.int 4)]), .d (.tup [.int 9, .int 4]), .no, .no, .no] [.fz xs, .ml [(.int c0), (.int c1)]] = .ret (.d (.bl true)) [.fz xs, .ml [(.int c0), (.int c1)], .ml [(.str [112, 108, 97, 110]), (.str [112, 108, 97, 110]), (.str [112, 108, 97, 110]), (.str [])]] := by
  show sSeq S9 R10 _ _ _ = _
  rw [seq_nx (g9_0 xs c0 c1)]
  show sSeq S10 R11 _ _ _ = _
  rw [seq_nx (g10 xs c0 c1 (.tup [.int 9, .int 4]))]
  show sSeq S11 R12 _ _ _ = _
  rw [seq_nx (g11 xs c0 c1 (.tup [.int 9, .int 4]))]
  show sSeq S12 R13 _ _ _ = _
  rw [seq_nx (g12 xs c0 c1 (.tup [.int 9, .int 4]))]
  show sSeq S13 R14 _ _ _ = _
  rw [seq_nx (g13 xs c0 c1 (.tup [.int 9, .int 4]))]
  exact g14_0 xs c0 c1
theorem last_1 (xs : List D) (c0 c1 : Int) : R9 cfv [.d (.fn 99999), .m 1, .d (.tup [(.tup [(.int 0), (.int 0)]), (.tup [(.int 8), (.int 0)]), (.tup [(.int 8), (.int 8)]), (.tup [(.int 0), (.int 8)])]), .d (.lst [.non, (.tup []), (.tup [(.tup [(.int 0), (.int 0)]), (.tup [(.int 8), (.int 0)])]), (.lst [(.tup [(.int 0), (.int 0)]), (.tup [(.int 8), (.int 0)]), (.tup [(.int 8), (.int 8)]), (.tup [(.int 0), (.int 8)])]), (.str [114, 111, 117, 110, 100]), (.int 5), (.tup [(.tup [(.int 0), (.int 0)]), (.tup [(.int 8), (.int 0)]), (.tup [(.int 8), (.int 8)]), (.tup [(.int 0), (.int 8)]), (.tup [(.int 0), (.int 0)])]), (.tup [(.tup [(.int 0), (.int 0)]), (.tup [(.int 8), (.int 8)]), (.tup [(.int 8), (.int 0)]), (.tup [(.int 0), (.int 8)])]), (.tup [(.tup [(.int 0), (.int 0)]), (.tup [(.int 1), (.int 0)]), (.tup [(.int 2), (.int 0)])]), (.tup [(.tup [(.int 0), (.int 0)]), (.tup [(.int 8), (.int 0)]), (.tup [(.int 8), (.int 1001)])]), (.tup [(.tup [(.int 0), (.int 0)]), (.tup [(.int 8), (.int 0)]), (.tup [(.bl true), (.int 8)])]), (.tup [(.tup [(.int 0), (.int 0)]), (.tup [(.int 8), (.int 0)]), (.lst [(.int 8), (.int 8)])]), (.tup [(.tup [(.int 0), (.int 0)]), (.tup [(.int 8), (.int 0)]), .non]), (.tup [(.tup [(.int 0), (.int 0)]), (.tup [(.int 0), (.int 0)]), (.tup [(.int 0), (.int 0)])]), (.tup [(.tup [(.int 0), (.int 0)]), (.tup [(.int 8), (.int 0)]), (.tup [(.int 4), (.int 0)]), (.tup [(.int 4), (.int 8)])]), (.tup [(.tup [(.int 0), (.int 0)]), (.tup [(.int 8), (.int 0)]), (.tup [(.int 8), (.int 8)]), (.tup [(.int 4), (.int 0)]), (.tup [(.int 0), (.int 8)])]), (.tup [(.tup [(.int 0), (.int 0)]), (.tup [(.int 1), (.int 1)]), (.tup [(.int 2), (.int 4)]), (.tup [(.int 3), (.int 9)]), (.tup [(.int 4), (.int 16)]), (.tup [(.int 5), (.int 25)]), (.tup [(.int 6), (.int 36)]), (.tup [(.int 7), (.int 49)]), (.tup [(.int 8), (.int 64)]), (.tup [(.int 9), (.int 81)]), (.tup [(.int 10), (.int 100)]), (.tup [(.int 11), (.int 121)]), (.tup [(.int 12), (.int 144)]), (.tup [(.int 13), (.int 169)]), (.tup [(.int 14), (.int 196)]), (.tup [(.int 15), (.int 225)]), (.tup [(.int 16), (.int 256)])])]), .d (.tup [(.int 4), (.int 4), (.int 4)]), .d (.tup [.int (-1), .int 0]), .no, .no, .no] [.fz xs, .ml [(.int c0), (.int c1)]] = .ret (.d (.bl true)) [.fz xs, .ml [(.int c0), (.int c1)], .ml [(.str [112, 108, 97, 110]), (.str [112, 108, 97, 110]), (.str [112, 108, 97, 110]), (.str [])]] := by
  show sSeq S9 R10 _ _ _ = _
  rw [seq_nx (g9_1 xs c0 c1)]
  show sSeq S10 R11 _ _ _ = _
  rw [seq_nx (g10 xs c0 c1 (.tup [.int (-1), .int 0]))]
  show sSeq S11 R12 _ _ _ = _
  rw [seq_nx (g11 xs c0 c1 (.tup [.int (-1), .int 0]))]
  show sSeq S12 R13 _ _ _ = _
  rw [seq_nx (g12 xs c0 c1 (.tup [.int (-1), .int 0]))]
  show sSeq S13 R14 _ _ _ = _
  rw [seq_nx (g13 xs c0 c1 (.tup [.int (-1), .int 0]))]
  exact g14_1 xs c0 c1
theorem last_2 (xs : List D) (c0 c1 : Int) : R9 cfv [.d (.fn 99999), .m 1, .d (.tup [(.tup [(.int 0), (.int 0)]), (.tup [(.int 8), (.int 0)]), (.tup [(.int 8), (.int 8)]), (.tup [(.int 0), (.int 8)])]), .d (.lst [.non, (.tup []), (.tup [(.tup [(.int 0), (.int 0)]), (.tup [(.int 8), (.int 0)])]), (.lst [(.tup [(.int 0), (.int 0)]), (.tup [(.int 8), (.int 0)]), (.tup [(.int 8), (.int 8)]), (.tup [(.int 0), (.int 8)])]), (.str [114, 111, 117, 110, 100]), (.int 5), (.tup [(.tup [(.int 0), (.int 0)]), (.tup [(.int 8), (.int 0)]), (.tup [(.int 8), (.int 8)]), (.tup [(.int 0), (.int 8)]), (.tup [(.int 0), (.int 0)])]), (.tup [(.tup [(.int 0), (.int 0)]), (.tup [(.int 8), (.int 8)]), (.tup [(.int 8), (.int 0)]), (.tup [(.int 0), (.int 8)])]), (.tup [(.tup [(.int 0), (.int 0)]), (.tup [(.int 1), (.int 0)]), (.tup [(.int 2), (.int 0)])]), (.tup [(.tup [(.int 0), (.int 0)]), (.tup [(.int 8), (.int 0)]), (.tup [(.int 8), (.int 1001)])]), (.tup [(.tup [(.int 0), (.int 0)]), (.tup [(.int 8), (.int 0)]), (.tup [(.bl true), (.int 8)])]), (.tup [(.tup [(.int 0), (.int 0)]), (.tup [(.int 8), (.int 0)]), (.lst [(.int 8), (.int 8)])]), (.tup [(.tup [(.int 0), (.int 0)]), (.tup [(.int 8), (.int 0)]), .non]), (.tup [(.tup [(.int 0), (.int 0)]), (.tup [(.int 0), (.int 0)]), (.tup [(.int 0), (.int 0)])]), (.tup [(.tup [(.int 0), (.int 0)]), (.tup [(.int 8), (.int 0)]), (.tup [(.int 4), (.int 0)]), (.tup [(.int 4), (.int 8)])]), (.tup [(.tup [(.int 0), (.int 0)]), (.tup [(.int 8), (.int 0)]), (.tup [(.int 8), (.int 8)]), (.tup [(.int 4), (.int 0)]), (.tup [(.int 0), (.int 8)])]), (.tup [(.tup [(.int 0), (.int 0)]), (.tup [(.int 1), (.int 1)]), (.tup [(.int 2), (.int 4)]), (.tup [(.int 3), (.int 9)]), (.tup [(.int 4), (.int 16)]), (.tup [(.int 5), (.int 25)]), (.tup [(.int 6), (.int 36)]), (.tup [(.int 7), (.int 49)]), (.tup [(.int 8), (.int 64)]), (.tup [(.int 9), (.int 81)]), (.tup [(.int 10), (.int 100)]), (.tup [(.int 11), (.int 121)]), (.tup [(.int 12), (.int 144)]), (.tup [(.int 13), (.int 169)]), (.tup [(.int 14), (.int 196)]), (.tup [(.int 15), (.int 225)]), (.tup [(.int 16), (.int 256)])])]), .d (.tup [(.int 4), (.int 4), (.int 4)]), .d (.tup [.int 1000, .int (-1000)]), .no, .no, .no] [.fz xs, .ml [(.int c0), (.int c1)]] = .ret (.d (.bl true)) [.fz xs, .ml [(.int c0), (.int c1)], .ml [(.str [112, 108, 97, 110]), (.str [112, 108, 97, 110]), (.str [112, 108, 97, 110]), (.str [])]] := by
  show sSeq S9 R10 _ _ _ = _
  rw [seq_nx (g9_2 xs c0 c1)]
  show sSeq S10 R11 _ _ _ = _
  rw [seq_nx (g10 xs c0 c1 (.tup [.int 1000, .int (-1000)]))]
  show sSeq S11 R12 _ _ _ = _
  rw [seq_nx (g11 xs c0 c1 (.tup [.int 1000, .int (-1000)]))]
  show sSeq S12 R13 _ _ _ = _
  rw [seq_nx (g12 xs c0 c1 (.tup [.int 1000, .int (-1000)]))]
  show sSeq S13 R14 _ _ _ = _
  rw [seq_nx (g13 xs c0 c1 (.tup [.int 1000, .int (-1000)]))]
  exact g14_2 xs c0 c1
theorem last_3 (xs : List D) (c0 c1 : Int) : R9 cfv [.d (.fn 99999), .m 1, .d (.tup [(.tup [(.int 0), (.int 0)]), (.tup [(.int 8), (.int 0)]), (.tup [(.int 8), (.int 8)]), (.tup [(.int 0), (.int 8)])]), .d (.lst [.non, (.tup []), (.tup [(.tup [(.int 0), (.int 0)]), (.tup [(.int 8), (.int 0)])]), (.lst [(.tup [(.int 0), (.int 0)]), (.tup [(.int 8), (.int 0)]), (.tup [(.int 8), (.int 8)]), (.tup [(.int 0), (.int 8)])]), (.str [114, 111, 117, 110, 100]), (.int 5), (.tup [(.tup [(.int 0), (.int 0)]), (.tup [(.int 8), (.int 0)]), (.tup [(.int 8), (.int 8)]), (.tup [(.int 0), (.int 8)]), (.tup [(.int 0), (.int 0)])]), (.tup [(.tup [(.int 0), (.int 0)]), (.tup [(.int 8), (.int 8)]), (.tup [(.int 8), (.int 0)]), (.tup [(.int 0), (.int 8)])]), (.tup [(.tup [(.int 0), (.int 0)]), (.tup [(.int 1), (.int 0)]), (.tup [(.int 2), (.int 0)])]), (.tup [(.tup [(.int 0), (.int 0)]), (.tup [(.int 8), (.int 0)]), (.tup [(.int 8), (.int 1001)])]), (.tup [(.tup [(.int 0), (.int 0)]), (.tup [(.int 8), (.int 0)]), (.tup [(.bl true), (.int 8)])]), (.tup [(.tup [(.int 0), (.int 0)]), (.tup [(.int 8), (.int 0)]), (.lst [(.int 8), (.int 8)])]), (.tup [(.tup [(.int 0), (.int 0)]), (.tup [(.int 8), (.int 0)]), .non]), (.tup [(.tup [(.int 0), (.int 0)]), (.tup [(.int 0), (.int 0)]), (.tup [(.int 0), (.int 0)])]), (.tup [(.tup [(.int 0), (.int 0)]), (.tup [(.int 8), (.int 0)]), (.tup [(.int 4), (.int 0)]), (.tup [(.int 4), (.int 8)])]), (.tup [(.tup [(.int 0), (.int 0)]), (.tup [(.int 8), (.int 0)]), (.tup [(.int 8), (.int 8)]), (.tup [(.int 4), (.int 0)]), (.tup [(.int 0), (.int 8)])]), (.tup [(.tup [(.int 0), (.int 0)]), (.tup [(.int 1), (.int 1)]), (.tup [(.int 2), (.int 4)]), (.tup [(.int 3), (.int 9)]), (.tup [(.int 4), (.int 16)]), (.tup [(.int 5), (.int 25)]), (.tup [(.int 6), (.int 36)]), (.tup [(.int 7), (.int 49)]), (.tup [(.int 8), (.int 64)]), (.tup [(.int 9), (.int 81)]), (.tup [(.int 10), (.int 100)]), (.tup [(.int 11), (.int 121)]), (.tup [(.int 12), (.int 144)]), (.tup [(.int 13), (.int 169)]), (.tup [(.int 14), (.int 196)]), (.tup [(.int 15), (.int 225)]), (.tup [(.int 16), (.int 256)])])]), .d (.tup [(.int 4), (.int 4), (.int 4)]), .d (.tup [.int 4, .int 9]), .no, .no, .no] [.fz xs, .ml [(.int c0), (.int c1)]] = .ret (.d (.bl true)) [.fz xs, .ml [(.int c0), (.int c1)], .ml [(.str [112, 108, 97, 110]), (.str [112, 108, 97, 110]), (.str [112, 108, 97, 110]), (.str [])]] := by
  show sSeq S9 R10 _ _ _ = _
  rw [seq_nx (g9_3 xs c0 c1)]
  show sSeq S10 R11 _ _ _ = _
  rw [seq_nx (g10 xs c0 c1 (.tup [.int 4, .int 9]))]
  show sSeq S11 R12 _ _ _ = _
  rw [seq_nx (g11 xs c0 c1 (.tup [.int 4, .int 9]))]
  show sSeq S12 R13 _ _ _ = _
  rw [seq_nx (g12 xs c0 c1 (.tup [.int 4, .int 9]))]
  show sSeq S13 R14 _ _ _ = _
  rw [seq_nx (g13 xs c0 c1 (.tup [.int 4, .int 9]))]
  exact g14_3 xs c0 c1
theorem ev (ns : List Int) (hl : ns.length ≤ 63) : ∃ h2, callF fns 31 36 [.d (.fn scr)] [.fz (ns.map D.int)] = .ok (.d (.bl true)) h2 := by
  obtain ⟨c0, c1, e0⟩ := g0 ns hl
  obtain ⟨d0, d1, x, far, hx, hf, e8⟩ := g8 (ns.map D.int) c0 c1
  have main : ∃ h2, R0 cfv [.d (.fn 99999), .no, .no, .no, .no, .no, .no, .no, .no] [.fz (ns.map D.int)] = .ret (.d (.bl true)) h2 := by
    show ∃ h2, sSeq S0 R1 _ _ _ = _
    rw [seq_nx e0]
    show ∃ h2, sSeq S1 R2 _ _ _ = _
    rw [seq_nx (g1 (ns.map D.int) c0 c1)]
    show ∃ h2, sSeq S2 R3 _ _ _ = _
    rw [seq_nx (g2 (ns.map D.int) c0 c1)]
    show ∃ h2, sSeq S3 R4 _ _ _ = _
    rw [seq_nx (g3 (ns.map D.int) c0 c1)]
    show ∃ h2, sSeq S4 R5 _ _ _ = _
    rw [seq_nx (g4 (ns.map D.int) c0 c1)]
    show ∃ h2, sSeq S5 R6 _ _ _ = _
    rw [seq_nx (g5 (ns.map D.int) c0 c1)]
    show ∃ h2, sSeq S6 R7 _ _ _ = _
    rw [seq_nx (g6 (ns.map D.int) c0 c1)]
    show ∃ h2, sSeq S7 R8 _ _ _ = _
    rw [seq_nx (g7 (ns.map D.int) c0 c1)]
    show ∃ h2, sSeq S8 R9 _ _ _ = _
    rw [seq_nx e8]
    match x, hx, hf with
    | 0, _, hf => cases hf; exact ⟨_, last_0 _ d0 d1⟩
    | 1, _, hf => cases hf; exact ⟨_, last_1 _ d0 d1⟩
    | 2, _, hf => cases hf; exact ⟨_, last_2 _ d0 d1⟩
    | 3, _, hf => cases hf; exact ⟨_, last_3 _ d0 d1⟩
  obtain ⟨h2, e⟩ := main
  refine ⟨h2.take 1, ?_⟩
  show (f_law (callF fns 30) [.d (.fn 99999), .no, .no, .no, .no, .no, .no, .no, .no] [.fz (ns.map D.int)]).out 1 = _
  rw [f_law_eq, e]
  rfl
end Py

set_option autoImplicit false
set_option linter.all false
set_option maxRecDepth 100000
set_option maxHeartbeats 0
set_option Elab.async false
namespace Hd
open PySem PySem.Spec PyProof.Rows L2 Sd
def fnames : List Str := (["is_whole", "fits_whole", "is_tuple_of", "fits_spot", "turn_of", "lies_between", "do_cross", "sides_of", "do_fold", "fits_outline", "need_outline", "need_spot", "area_in", "turns_in", "place_in", "halves_in", "do_see", "is_ear", "is_outline", "twice_area_of", "corner_turns", "is_bulging", "place_of", "need_within", "sees"] : List Str) ++ (["corners_seen", "sees_all", "corners_that_see", "ears", "cut_off", "_law_cup", "_law_roll", "_law_some", "_law_same", "_law_word", "_law_asked", "law"] : List Str)
def faH (K : PySem.W.Frag) (a : Addr) (f : Nat) : Addr := if f = Py.scr then a else He.ga K (fnames.getD f "")
def tq (p : He.Defn) : Str := (p.1 ++ ".<locals>.") ++ "<lambda>"
def TTH (K : PySem.W.Frag) : List (Addr × Str) := tf.map fun p => ((He.cT K p).2, tq p)
def cpH (K : PySem.W.Frag) (j : Nat) : Addr × Addr := He.cT K (tf.getD j ("", none))
theorem sx_of {P : Program} {w : World} {K : PySem.W.Frag} {h base : Heap} {mg : Str → Option Value} (KX : K.In h) (G : h.Ns mainGlobals mg) (c : He.SaysX fa fn [] tf ex w h K) (TBs : ∀ p ∈ tf.map (He.cT K), LamX.TabB base mg p.1 p.2) (a : Addr) :
    Sx P w K mg base (faH K a) (caH K) (TTH K) (cpH K) := by
  obtain ⟨mk, nd⟩ := He.ba c.more
  have nd := of_decide_eq_true nd
  exact {
    m_is_whole := He.glo_ok KX G (c.t.d.fact 0 (f := .glo "is_whole") rfl),
    F_is_whole := c.t.d.def_ 0 rfl,
    m_fits_whole := He.glo_ok KX G (c.t.d.fact 1 (f := .glo "fits_whole") rfl),
    F_fits_whole := c.t.d.def_ 1 rfl,
    m_is_tuple_of := He.glo_ok KX G (c.t.d.fact 2 (f := .glo "is_tuple_of") rfl),
    F_is_tuple_of := c.t.d.def_ 2 rfl,
    m_fits_spot := He.glo_ok KX G (c.t.d.fact 3 (f := .glo "fits_spot") rfl),
    F_fits_spot := c.t.d.def_ 3 rfl,
    m_turn_of := He.glo_ok KX G (c.t.d.fact 4 (f := .glo "turn_of") rfl),
    F_turn_of := c.t.d.def_ 4 rfl,
    m_lies_between := He.glo_ok KX G (c.t.d.fact 5 (f := .glo "lies_between") rfl),
    F_lies_between := c.t.d.def_ 5 rfl,
    m_do_cross := He.glo_ok KX G (c.t.d.fact 6 (f := .glo "do_cross") rfl),
    F_do_cross := c.t.d.def_ 6 rfl,
    m_sides_of := He.glo_ok KX G (c.t.d.fact 7 (f := .glo "sides_of") rfl),
    F_sides_of := c.t.d.def_ 7 rfl,
    m_do_fold := He.glo_ok KX G (c.t.d.fact 8 (f := .glo "do_fold") rfl),
    F_do_fold := c.t.d.def_ 8 rfl,
    m_fits_outline := He.glo_ok KX G (c.t.d.fact 9 (f := .glo "fits_outline") rfl),
    F_fits_outline := c.t.d.def_ 9 rfl,
    m_need_outline := He.glo_ok KX G (c.t.d.fact 10 (f := .glo "need_outline") rfl),
    F_need_outline := c.t.d.def_ 10 rfl,
    m_need_spot := He.glo_ok KX G (c.t.d.fact 11 (f := .glo "need_spot") rfl),
    F_need_spot := c.t.d.def_ 11 rfl,
    m_area_in := He.glo_ok KX G (c.t.d.fact 12 (f := .glo "area_in") rfl),
    F_area_in := c.t.d.def_ 12 rfl,
    m_turns_in := He.glo_ok KX G (c.t.d.fact 13 (f := .glo "turns_in") rfl),
    F_turns_in := c.t.d.def_ 13 rfl,
    m_place_in := He.glo_ok KX G (c.t.d.fact 14 (f := .glo "place_in") rfl),
    F_place_in := c.t.d.def_ 14 rfl,
    m_halves_in := He.glo_ok KX G (c.t.d.fact 15 (f := .glo "halves_in") rfl),
    F_halves_in := c.t.d.def_ 15 rfl,
    m_do_see := He.glo_ok KX G (c.t.d.fact 16 (f := .glo "do_see") rfl),
    F_do_see := c.t.d.def_ 16 rfl,
    m_is_ear := He.glo_ok KX G (c.t.d.fact 17 (f := .glo "is_ear") rfl),
    F_is_ear := c.t.d.def_ 17 rfl,
    m_is_outline := He.glo_ok KX G (c.t.d.fact 18 (f := .glo "is_outline") rfl),
    F_is_outline := c.t.d.def_ 18 rfl,
    m_twice_area_of := He.glo_ok KX G (c.t.d.fact 19 (f := .glo "twice_area_of") rfl),
    F_twice_area_of := c.t.d.def_ 19 rfl,
    m_corner_turns := He.glo_ok KX G (c.t.d.fact 20 (f := .glo "corner_turns") rfl),
    F_corner_turns := c.t.d.def_ 20 rfl,
    m_is_bulging := He.glo_ok KX G (c.t.d.fact 21 (f := .glo "is_bulging") rfl),
    F_is_bulging := c.t.d.def_ 21 rfl,
    m_place_of := He.glo_ok KX G (c.t.d.fact 22 (f := .glo "place_of") rfl),
    F_place_of := c.t.d.def_ 22 rfl,
    m_need_within := He.glo_ok KX G (c.t.d.fact 23 (f := .glo "need_within") rfl),
    F_need_within := c.t.d.def_ 23 rfl,
    m_sees := He.glo_ok KX G (c.t.d.fact 24 (f := .glo "sees") rfl),
    F_sees := c.t.d.def_ 24 rfl,
    m_corners_seen := He.glo_ok KX G (c.t.d.fact 25 (f := .glo "corners_seen") rfl),
    F_corners_seen := c.t.d.def_ 25 rfl,
    m_sees_all := He.glo_ok KX G (c.t.d.fact 26 (f := .glo "sees_all") rfl),
    F_sees_all := c.t.d.def_ 26 rfl,
    m_corners_that_see := He.glo_ok KX G (c.t.d.fact 27 (f := .glo "corners_that_see") rfl),
    F_corners_that_see := c.t.d.def_ 27 rfl,
    m_ears := He.glo_ok KX G (c.t.d.fact 28 (f := .glo "ears") rfl),
    F_ears := c.t.d.def_ 28 rfl,
    m_cut_off := He.glo_ok KX G (c.t.d.fact 29 (f := .glo "cut_off") rfl),
    F_cut_off := c.t.d.def_ 29 rfl,
    m__law_cup := He.glo_ok KX G (c.t.d.fact 30 (f := .glo "_law_cup") rfl),
    F__law_cup := c.t.d.def_ 30 rfl,
    m__law_roll := He.glo_ok KX G (c.t.d.fact 31 (f := .glo "_law_roll") rfl),
    F__law_roll := c.t.d.def_ 31 rfl,
    m__law_some := He.glo_ok KX G (c.t.d.fact 32 (f := .glo "_law_some") rfl),
    F__law_some := c.t.d.def_ 32 rfl,
    m__law_same := He.glo_ok KX G (c.t.d.fact 33 (f := .glo "_law_same") rfl),
    F__law_same := c.t.d.def_ 33 rfl,
    m__law_word := He.glo_ok KX G (c.t.d.fact 34 (f := .glo "_law_word") rfl),
    F__law_word := c.t.d.def_ 34 rfl,
    m__law_asked := He.glo_ok KX G (c.t.d.fact 35 (f := .glo "_law_asked") rfl),
    F__law_asked := c.t.d.def_ 35 rfl,
    m_law := He.glo_ok KX G (c.t.d.fact 36 (f := .glo "law") rfl),
    F_law := c.t.d.def_ 36 rfl,
    tb__law_asked := TBs _ (List.mem_map.mpr ⟨("_law_asked", none), (List.mem_of_getElem? (i := 0) rfl), rfl⟩),
    ht__law_asked := List.mem_map.mpr ⟨("_law_asked", none), (List.mem_of_getElem? (i := 0) rfl), rfl⟩,
    hq__law_asked := fun p hp e => uniq_map (q := tq) nd (List.mem_of_getElem? (i := 0) rfl) p hp e,
    hc__law_asked := cm_of (p := ("_law_asked", none)) rfl,
    tb_law := TBs _ (List.mem_map.mpr ⟨("law", none), (List.mem_of_getElem? (i := 1) rfl), rfl⟩),
    ht_law := List.mem_map.mpr ⟨("law", none), (List.mem_of_getElem? (i := 1) rfl), rfl⟩,
    hq_law := fun p hp e => uniq_map (q := tq) nd (List.mem_of_getElem? (i := 1) rfl) p hp e,
    hc_law := cm_of (p := ("law", none)) rfl,
    z_ValueError := He.free_ok KX G (c.t.d.fact 49 (f := .free "ValueError") rfl),
    z_abs := He.free_ok KX G (c.t.d.fact 50 (f := .free "abs") rfl),
    z_all := He.free_ok KX G (c.t.d.fact 51 (f := .free "all") rfl),
    z_any := He.free_ok KX G (c.t.d.fact 52 (f := .free "any") rfl),
    z_bool := He.free_ok KX G (c.t.d.fact 53 (f := .free "bool") rfl),
    z_enumerate := He.free_ok KX G (c.t.d.fact 54 (f := .free "enumerate") rfl),
    z_int := He.free_ok KX G (c.t.d.fact 55 (f := .free "int") rfl),
    z_isinstance := He.free_ok KX G (c.t.d.fact 56 (f := .free "isinstance") rfl),
    z_len := He.free_ok KX G (c.t.d.fact 57 (f := .free "len") rfl),
    z_list := He.free_ok KX G (c.t.d.fact 58 (f := .free "list") rfl),
    z_max := He.free_ok KX G (c.t.d.fact 59 (f := .free "max") rfl),
    z_min := He.free_ok KX G (c.t.d.fact 60 (f := .free "min") rfl),
    z_range := He.free_ok KX G (c.t.d.fact 61 (f := .free "range") rfl),
    z_set := He.free_ok KX G (c.t.d.fact 62 (f := .free "set") rfl),
    z_sorted := He.free_ok KX G (c.t.d.fact 63 (f := .free "sorted") rfl),
    z_str := He.free_ok KX G (c.t.d.fact 64 (f := .free "str") rfl),
    z_sum := He.free_ok KX G (c.t.d.fact 65 (f := .free "sum") rfl),
    z_tuple := He.free_ok KX G (c.t.d.fact 66 (f := .free "tuple") rfl),
    z_zip := He.free_ok KX G (c.t.d.fact 67 (f := .free "zip") rfl),
    exc := kin_exc mk,
    k_ValueError := fun k hk => (kin_ve mk k hk).trans (congrArg some (any_all 5 k hk).symm),
    n_LeadError := He.glo_ok KX G (c.t.d.fact 37 (f := .glo "LeadError") rfl),
    x_LeadError := He.exc_ok (c.t.d.fact 42 (f := .exc "LeadError") rfl),
    e_LeadError := fun k hk => kin_exm mk 0 (by decide) k hk,
    k_LeadError := fun k hk => kin_kit mk 0 (by decide) k hk,
    n_InvalidSpot := He.glo_ok KX G (c.t.d.fact 38 (f := .glo "InvalidSpot") rfl),
    x_InvalidSpot := He.exc_ok (c.t.d.fact 43 (f := .exc "InvalidSpot") rfl),
    e_InvalidSpot := fun k hk => kin_exm mk 1 (by decide) k hk,
    k_InvalidSpot := fun k hk => kin_kit mk 1 (by decide) k hk,
    n_InvalidRound := He.glo_ok KX G (c.t.d.fact 39 (f := .glo "InvalidRound") rfl),
    x_InvalidRound := He.exc_ok (c.t.d.fact 44 (f := .exc "InvalidRound") rfl),
    e_InvalidRound := fun k hk => kin_exm mk 2 (by decide) k hk,
    k_InvalidRound := fun k hk => kin_kit mk 2 (by decide) k hk,
    n_InvalidPlan := He.glo_ok KX G (c.t.d.fact 40 (f := .glo "InvalidPlan") rfl),
    x_InvalidPlan := He.exc_ok (c.t.d.fact 45 (f := .exc "InvalidPlan") rfl),
    e_InvalidPlan := fun k hk => kin_exm mk 3 (by decide) k hk,
    k_InvalidPlan := fun k hk => kin_kit mk 3 (by decide) k hk,
    n_InvalidNumber := He.glo_ok KX G (c.t.d.fact 41 (f := .glo "InvalidNumber") rfl),
    x_InvalidNumber := He.exc_ok (c.t.d.fact 46 (f := .exc "InvalidNumber") rfl),
    e_InvalidNumber := fun k hk => kin_exm mk 4 (by decide) k hk,
    k_InvalidNumber := fun k hk => kin_kit mk 4 (by decide) k hk,
    c_FAR := He.int_ok KX G (c.t.d.fact 47 (f := .int "FAR" 1000) rfl),
    c_CORNERS := He.int_ok KX G (c.t.d.fact 48 (f := .int "CORNERS" 16) rfl) }
theorem law_at {w : World} {mg : Str → Option Value} {fl : Addr} {h : Heap} (Y : hk.says w h) (G : h.Ns mainGlobals mg) (hmg : mg ("law" : Str) = some (.ref fl)) :
    ∃ K : PySem.W.Frag, K.In h ∧ LamX.LawAtS PySem.Challenge.rw_leadlights_k81_whole_errors_of_outlines w K (L2N.CX (PySem.Challenge.rw_leadlights_k81_whole_errors_of_outlines).prog w) (3 * 30 + 3) 63 "script" mg fl h := by
  obtain ⟨K, KX, c⟩ := Y
  refine ⟨K, KX, ?_⟩
  obtain ⟨fd, F⟩ := c.t.d.def_ 36 rfl
  have e := hmg.symm.trans (He.glo_ok KX G (c.t.d.fact 36 (f := .glo "law") rfl))
  cases e
  have b := FunD.bindsA (ps := ["script"]) F fun _ _ _ _ _ _ us hl => match us, hl with | [_], _ => rfl
  refine ⟨fd, tf.map (He.cT K), fun vs H Q E => ∃ a, spEv ⟨K, faH K a, caH K, TTH K⟩ (Py.callF Py.fns (30 + 1)) 36 1 vs H Q E, fun p hp => ?_, fun p hp => ?_, fun p hp => ?_, fun s v => b s [v] rfl, fun H a ns hl _ hT hS => ?_, fun base hb hg TBs => ?_⟩
  · obtain ⟨q, hq, rfl⟩ := List.mem_map.mp hp
    exact c.empty q hq
  · obtain ⟨q, hq, rfl⟩ := List.mem_map.mp hp
    exact c.out q hq
  · obtain ⟨q, hq, rfl⟩ := List.mem_map.mp hp
    exact PySem.W.codeHd_of_K KX (c.hd q hq)
  · obtain ⟨h', ev⟩ := Py.ev ns hl
    refine ⟨a, law_sp (g := ⟨K, faH K a, caH K, TTH K⟩) hS (fun p hp => ?_) ev⟩
    obtain ⟨q, hq, rfl⟩ := List.mem_map.mp hp
    exact LamX.TabS.nil (hT _ (List.mem_map.mpr ⟨q, hq, rfl⟩))
  · have ok : ∀ a, FnOk (PySem.Challenge.rw_leadlights_k81_whole_errors_of_outlines).prog w K mg base (L2N.CX (PySem.Challenge.rw_leadlights_k81_whole_errors_of_outlines).prog w) (3 * 30 + 3) (He.ga K "law") fd ["script"] (spEv ⟨K, faH K a, caH K, TTH K⟩ (Py.callF Py.fns (30 + 1)) 36 1) := fun a => by
      have S := sx_of (P := (PySem.Challenge.rw_leadlights_k81_whole_errors_of_outlines).prog) (w := w) (base := base) KX G c TBs a
      have T := tx S 30
      exact fn_evM (g := ⟨K, faH K a, caH K, TTH K⟩) (fdn := Py.fns.getD 36 ⟨0, 0, Py.sPass⟩) (f := 36) F sc_law (bn_law (fa := faH K a) fd F) S.hc_law rfl rfl rfl fun A outer s H E hr => b_law T _ _ T.tb_law T.ht_law T.hq_law A outer s H E _ hr
    exact ⟨fun vs H Q E ⟨a, z⟩ => (ok a).len _ _ _ _ z, fun A outer s H args us vs Q E hr e0 hb r ⟨a, z⟩ => (ok a).run A outer s H args us vs Q E hr e0 hb r z⟩
end Hd
open PySem PySem.W PySem.Calls PyProof.Rows
set_option maxRecDepth 100000 in
set_option maxHeartbeats 0 in
theorem PySem.Challenge.cw_leadlights_k81_whole_errors_of_outlines_holds : PySem.Challenge.rw_leadlights_k81_whole_errors_of_outlines.Holds := by
  w_on; o_law
  refine HandSHeadRun.head_any (r := OpenLaw.row PySem.Challenge.rw_leadlights_k81_whole_errors_of_outlines) (q := view (OpenLaw.row PySem.Challenge.rw_leadlights_k81_whole_errors_of_outlines).prog [47]) (H := Hd.hk) (ob := Hd.ob) (M := 30000) (loose := Hd.loose) (d := HandSHeadRun.topDef (OpenLaw.row PySem.Challenge.rw_leadlights_k81_whole_errors_of_outlines).prog 47) (kwd := []) Hd.ob_eq
    (by kernel_rfl) (fun s => by kernel_rfl) Hd.run (by kernel_rfl) (by kernel_rfl) (by kernel_rfl) (by rfl) (by first | assumption | decide +kernel) (by decide +kernel) ⟨rfl, rfl, rfl, rfl, rfl, by decide +kernel⟩ ?hw ?hc
  case hw => w_witness2
  case hc =>
    refine LamX.walk_ofTsE (l := PySem.Challenge.rw_leadlights_k81_whole_errors_of_outlines) (n := 63) (k := 3 * 30 + 3) (x := "script") (CX := fun w => L2N.CX (PySem.Challenge.rw_leadlights_k81_whole_errors_of_outlines).prog w) rfl (by decide) (by kernel_rfl) ⟨rfl, by decide, by decide⟩ ?F (fun w H s e s' z => by obtain ⟨_, _, _, _, _, _, _, _, _, _, _, _, z⟩ := z; exact z)
    intro w mg fl h Y G hmg0
    have hmg : mg ("law" : PySem.Str) = some (.ref fl) := by
      have e : (HandSHeadRun.topDef (OpenLaw.row PySem.Challenge.rw_leadlights_k81_whole_errors_of_outlines).prog 47).name = ("law" : PySem.Str) := by kernel_rfl
      rw [← e]
      exact hmg0
    exact Hd.law_at Y G hmg

