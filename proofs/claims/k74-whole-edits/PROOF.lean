import PyProof.Rows.All
import HandS.ForMost
import HandS.ForExc
import PyProof.ReprRoads
import HandS.Lambda
import PyProof.StrOps2
import HandS.Deep
import HandS.TupAny
import HandS.TupLe
import HandS.Wide
import HandS.Steps
import HandS.Style
import HandS.IsInst
import HandS.TupLen
import HandS.RaiseMore
import HandS.SortInts
import HandS.Small
import HandS.More
import HandS.Codes
import HandS.Flow
import HandS.ExcOwn
import HandS.DictComp
import PyProof.Rows.StrMeet
import HandS.ExcInit
import HandS.ExcField
import HandS.TryMany
import HandS.WordsExc
import HandS.HeadWalk
import HandS.HeadHook4
import HandS.HeadNt
import HandS.EndTab
import PyProof.StrLawsRepr
import HandS.Head0
import HandS.Head1
import HandS.Head2
import PySem.Challenge.RW_textways_k74_whole_edits
set_option Elab.async false
section
set_option maxRecDepth 100000
/-! EvCore: values, heap, the tree language, and its reckoner: plain Lean, no model in sight. -/
namespace TX
open PySem

/-- a value: tuples and texts by content, what changes by its number -/
inductive W where
  | non | bl (b : Bool) | int (i : Int) | str (s : List Nat) | tup (xs : List W) | obj (n : Nat) | fn (g : Nat) | cls (c : Nat) | ty (t : String) | lis (xs : List W)
  deriving Inhabited
inductive Ob where
  | lst (xs : List W) | fro (xs : List W) | dK (kvs : List (W × W)) | dT (kvs : List (W × W)) | ins (c : Nat) (fs : List (Nat × W)) | clo (g : Nat) (caps : List W) | dead
  deriving Inhabited

/-! ### the heap: a tree by the digits of numbers -/
inductive Tr (α : Type) where
  | lf | nd (l : Tr α) (v : Option α) (r : Tr α)
def Tr.get {α : Type} : Tr α → Nat → Option α
  | .lf, _ => none
  | .nd l v r, k => bif Nat.ble k 1 then v else bif Nat.beq (k % 2) 0 then l.get (k / 2) else r.get (k / 2)
def Tr.setF {α : Type} : Nat → Tr α → Nat → α → Tr α
  | 0, t, _, _ => t
  | f + 1, .lf, k, a => bif Nat.ble k 1 then .nd .lf (some a) .lf else bif Nat.beq (k % 2) 0 then .nd (Tr.setF f .lf (k / 2) a) none .lf else .nd .lf none (Tr.setF f .lf (k / 2) a)
  | f + 1, .nd l v r, k, a => bif Nat.ble k 1 then .nd l (some a) r else bif Nat.beq (k % 2) 0 then .nd (Tr.setF f l (k / 2) a) v r else .nd l v (Tr.setF f r (k / 2) a)
theorem Tr.get_lf {α : Type} (k : Nat) : (Tr.lf : Tr α).get k = none := rfl
theorem Tr.get_nd {α : Type} (l r : Tr α) (v : Option α) (k : Nat) : (Tr.nd l v r).get k = if k ≤ 1 then v else if k % 2 = 0 then l.get (k / 2) else r.get (k / 2) := by
  rw [Tr.get]
  by_cases h1 : k ≤ 1
  · rw [if_pos h1, Nat.ble_eq_true_of_le h1]; rfl
  · rw [if_neg h1]
    have e : Nat.ble k 1 = false := by
      cases q : Nat.ble k 1 with
      | false => rfl
      | true => exact absurd (Nat.le_of_ble_eq_true q) h1
    rw [e]
    by_cases h2 : k % 2 = 0
    · rw [if_pos h2, h2]; rfl
    · rw [if_neg h2]
      have e2 : Nat.beq (k % 2) 0 = false := by
        cases q : Nat.beq (k % 2) 0 with
        | false => rfl
        | true => exact absurd (Nat.eq_of_beq_eq_true q) h2
      rw [e2]; rfl
theorem Tr.setF_lf {α : Type} (f k : Nat) (a : α) : Tr.setF (f + 1) .lf k a = Tr.setF (f + 1) (.nd .lf none .lf) k a := by
  simp only [Tr.setF]
theorem Tr.setF_nd {α : Type} (f k : Nat) (l r : Tr α) (v : Option α) (a : α) : Tr.setF (f + 1) (.nd l v r) k a = if k ≤ 1 then .nd l (some a) r else if k % 2 = 0 then .nd (Tr.setF f l (k / 2) a) v r else .nd l v (Tr.setF f r (k / 2) a) := by
  rw [Tr.setF]
  by_cases h1 : k ≤ 1
  · rw [if_pos h1, Nat.ble_eq_true_of_le h1]; rfl
  · rw [if_neg h1]
    have e : Nat.ble k 1 = false := by
      cases q : Nat.ble k 1 with
      | false => rfl
      | true => exact absurd (Nat.le_of_ble_eq_true q) h1
    rw [e]
    by_cases h2 : k % 2 = 0
    · rw [if_pos h2, h2]; rfl
    · rw [if_neg h2]
      have e2 : Nat.beq (k % 2) 0 = false := by
        cases q : Nat.beq (k % 2) 0 with
        | false => rfl
        | true => exact absurd (Nat.eq_of_beq_eq_true q) h2
      rw [e2]; rfl
theorem Tr.get_setF {α : Type} : ∀ (f : Nat) (t : Tr α) (k j : Nat) (a : α), 1 ≤ k → k ≤ f → 1 ≤ j → (Tr.setF f t k a).get j = if j = k then some a else t.get j := by
  intro f
  induction f with
  | zero => intro t k j a h1 h2; omega
  | succ f ih =>
    have main : ∀ (l r : Tr α) (v : Option α) (k j : Nat) (a : α), 1 ≤ k → k ≤ f + 1 → 1 ≤ j → (Tr.setF (f + 1) (.nd l v r) k a).get j = if j = k then some a else (Tr.nd l v r).get j := by
      intro l r v k j a hk hf hj
      rw [Tr.setF_nd, Tr.get_nd l r v j]
      by_cases k1 : k ≤ 1
      · rw [if_pos k1, Tr.get_nd]
        by_cases j1 : j ≤ 1
        · rw [if_pos j1, if_pos (by omega)]
        · rw [if_neg j1, if_neg (show ¬ j = k by omega), if_neg j1]
      · rw [if_neg k1]
        by_cases k2 : k % 2 = 0
        · rw [if_pos k2, Tr.get_nd]
          by_cases j1 : j ≤ 1
          · rw [if_pos j1, if_neg (show ¬ j = k by omega), if_pos j1]
          · rw [if_neg j1, if_neg j1]
            by_cases j2 : j % 2 = 0
            · rw [if_pos j2, if_pos j2, ih l (k / 2) (j / 2) a (by omega) (by omega) (by omega)]
              by_cases e : j = k
              · rw [if_pos e, if_pos (by omega)]
              · rw [if_neg e, if_neg (by omega)]
            · rw [if_neg j2, if_neg j2, if_neg (show ¬ j = k by omega)]
        · rw [if_neg k2, Tr.get_nd]
          by_cases j1 : j ≤ 1
          · rw [if_pos j1, if_neg (show ¬ j = k by omega), if_pos j1]
          · rw [if_neg j1, if_neg j1]
            by_cases j2 : j % 2 = 0
            · rw [if_pos j2, if_pos j2, if_neg (show ¬ j = k by omega)]
            · rw [if_neg j2, if_neg j2, ih r (k / 2) (j / 2) a (by omega) (by omega) (by omega)]
              by_cases e : j = k
              · rw [if_pos e, if_pos (by omega)]
              · rw [if_neg e, if_neg (by omega)]
    intro t k j a hk hf hj
    cases t with
    | lf =>
      rw [Tr.setF_lf, main _ _ _ k j a hk hf hj]
      have e : (Tr.nd .lf none .lf : Tr α).get j = (Tr.lf : Tr α).get j := by
        rw [Tr.get_nd, Tr.get_lf, Tr.get_lf]
        split
        · rfl
        · split <;> rfl
      rw [e]
    | nd l v r => exact main l r v k j a hk hf hj

structure Hp where
  n : Nat
  t : Tr Ob
def Hp.get (h : Hp) (i : Nat) : Option Ob := h.t.get (i + 1)
def Hp.set (h : Hp) (i : Nat) (o : Ob) : Hp := ⟨h.n, Tr.setF (i + 1) h.t (i + 1) o⟩
def Hp.new (h : Hp) (o : Ob) : Hp := ⟨h.n + 1, Tr.setF (h.n + 1) h.t (h.n + 1) o⟩
theorem Hp.get_set (h : Hp) (i j : Nat) (o : Ob) : (h.set i o).get j = if j = i then some o else h.get j := by
  show (Tr.setF (i + 1) h.t (i + 1) o).get (j + 1) = _
  rw [Tr.get_setF _ _ _ _ _ (by omega) (by omega) (by omega)]
  by_cases e : j = i
  · rw [if_pos e, if_pos (by omega)]
  · rw [if_neg e, if_neg (by omega)]; rfl
theorem Hp.get_new (h : Hp) (j : Nat) (o : Ob) : (h.new o).get j = if j = h.n then some o else h.get j := by
  show (Tr.setF (h.n + 1) h.t (h.n + 1) o).get (j + 1) = _
  rw [Tr.get_setF _ _ _ _ _ (by omega) (by omega) (by omega)]
  by_cases e : j = h.n
  · rw [if_pos e, if_pos (by omega)]
  · rw [if_neg e, if_neg (by omega)]; rfl
theorem Hp.n_set (h : Hp) (i : Nat) (o : Ob) : (h.set i o).n = h.n := rfl
theorem Hp.n_new (h : Hp) (o : Ob) : (h.new o).n = h.n + 1 := rfl

/-! ### the tree language -/
inductive BO where | add | sub | mul | fdv | mod | pow
inductive CO where | eq | ne | lt | le | gt | ge | is | isn | inn | nin
inductive Bf where | len | tuple | list | isi | all | any | int | str | sum | repr | dict | max | min | sorted
/-- a clause of a def that calls its lambda: an exception's class, what is told -/
inductive MF where | cst (w : W) | fld (f : Nat)
structure Mh where
  c : Nat
  fs : List MF
mutual
inductive E where
  | bad | var (i : Nat) | cst (w : W)
  | bin (o : BO) (a b : E) | neg (a : E) | nt (a : E) | cmp (o : CO) (a b : E) | chn (o p : CO) (a b c : E)
  | and (a b : E) | or (a b : E) | ite (c a b : E)
  | tup (as : Es) | lst (as : Es) | dct0 (t : Bool) | dct (kvs : Es)
  | ix (a i : E) | sl (a : E) (lo hi : Option' ) | rev (a : E) | att (a : E) (f : Nat) | xat (f : Nat)
  | cal (g : Nat) (as : Es) | cav (f : E) (as : Es) | new (c : Nat) (as : Es) | mth (a : E) (m : Nat) (as : Es) | bfn (b : Bf) (as : Es)
  | met (hs : List Mh) (a : E)
  | lc (e : E) (t : T) (it : It) (c : Cs) (own : List Nat) | dc (k v : E) (t : T) (it : It) (own : List Nat)
inductive Es where | nil | cons (a : E) (as : Es)
inductive Option' where | non | som (a : E)
inductive Cs where | nil | one (a : E)
inductive It where | bad | ex (a : E) | rng (as : Es) | enm (a : E) | zip (a b : E) | itm (a : E) | rvs (a : E) | vls (a : E)
inductive T where | bad | nm (i : Nat) | tp (ts : Ts) | sb (a i : E) | at (a : E) (f : Nat)
inductive Ts where | nil | cons (t : T) (ts : Ts)
end
mutual
inductive S where
  | exp (e : E) | asg (t : T) (e : E) | aug (i : Nat) (o : BO) (e : E) | agf (a : E) (f : Nat) (o : BO) (e : E) | ags (a i : E) (o : BO) (e : E)
  | bad | ret (e : E) | retN | iff (c : E) (a b : Ss) | whl (c : E) (b : Ss) | for (t : T) (it : It) (b : Ss) | brk | cnt | pas
  | rai (c : Nat) (as : Es) | try (b : Ss) (hs : Hs)
inductive Ss where | nil | cons (s : S) (ss : Ss)
inductive Hs where | nil | cons (c : Nat) (b : Ss) (hs : Hs)
end
end TX
end
section
set_option maxRecDepth 100000
/-! EvRun: the reckoner. -/
namespace TX
open PySem

inductive Xn where
  | own (c : Nat) (fs : List (Nat × W))
inductive R (α : Type) where
  | ok (a : α) (h : Hp) | ex (e : Xn) (h : Hp) | no
def R.b {α β : Type} (x : R α) (f : α → Hp → R β) : R β := match x with
  | .ok a h => f a h
  | .ex e h => .ex e h
  | .no => .no
abbrev Sl := List (Option W)
inductive Fl where
  | nx (τ : Sl) | rt (w : W) | bk (τ : Sl) | ct (τ : Sl)
inductive RS where
  | fl (f : Fl) (h : Hp) | ex (e : Xn) (τ : Sl) (h : Hp) | no
/-- an expression's answer into a statement's -/
def R.s {α : Type} (x : R α) (τ : Sl) (f : α → Hp → RS) : RS := match x with
  | .ok a h => f a h
  | .ex e h => .ex e τ h
  | .no => .no
def RS.b (x : RS) (f : Sl → Hp → RS) : RS := match x with
  | .fl (.nx τ) h => f τ h
  | r => r

/-- the longest list, text that is made -/
def LIM : Nat := 1000000

/-! ### plain deeds -/
def eqL {α : Type} (p : α → α → Bool) : List α → List α → Bool
  | [], [] => true
  | x :: xs, y :: ys => p x y && eqL p xs ys
  | _, _ => false
def natEq : List Nat → List Nat → Bool
  | [], [] => true
  | x :: xs, y :: ys => bif Nat.beq x y then natEq xs ys else false
  | _, _ => false
def b2i (b : Bool) : Int := match b with
  | true => 1
  | false => 0
/-- the items of a list object -/
def Hp.lst? (h : Hp) (n : Nat) : Option (List W) := match h.get n with
  | some (.lst xs) => some xs
  | some (.fro xs) => some xs
  | _ => none
/-- data: none, bools, ints, texts, tuples and lists of data, to a depth -/
def dataQ (h : Hp) : Nat → W → Bool
  | 0, _ => false
  | f + 1, w => match w with
    | .non | .bl _ | .int _ => true
    | .str s => s.all fun c => Nat.blt c 1114112
    | .tup xs => xs.all (dataQ h f)
    | .obj n => match h.lst? n with
      | some xs => xs.all (dataQ h f)
      | none => false
    | _ => false
def eqD (h : Hp) : Nat → W → W → Bool
  | 0, _, _ => false
  | f + 1, a, b => match a, b with
    | .non, .non => true
    | .bl a, .bl b => a == b
    | .bl a, .int j => decide (b2i a = j)
    | .int i, .bl b => decide (i = b2i b)
    | .int i, .int j => decide (i = j)
    | .str x, .str y => natEq x y
    | .tup xs, .tup ys => eqL (eqD h f) xs ys
    | .obj n, .obj m => match h.lst? n, h.lst? m with
      | some xs, some ys => eqL (eqD h f) xs ys
      | _, _ => false
    | _, _ => false
def DEEP : Nat := 20
def eqW (h : Hp) (a b : W) : Option Bool := match a, b with
  | .int i, .int j => some (decide (i = j))
  | .str x, .str y => some (natEq x y)
  | a, b => bif dataQ h DEEP a && dataQ h DEEP b then some (eqD h DEEP a b) else none
/-- a flat value: what `in` compares in tuples -/
def flatW : W → Bool
  | .non | .bl _ | .int _ | .str _ => true
  | _ => false
/-- keys: ints and texts; tuples of such -/
def keyW : W → Bool
  | .int _ | .str _ => true
  | _ => false
def keyT : W → Bool
  | .tup xs => xs.all keyW
  | _ => false
def keyEq : W → W → Bool
  | .int i, .int j => decide (i = j)
  | .str x, .str y => natEq x y
  | _, _ => false
def keyEqT : W → W → Bool
  | .tup xs, .tup ys => eqL keyEq xs ys
  | _, _ => false
def look (p : W → W → Bool) (k : W) : List (W × W) → Option W
  | [] => none
  | (j, v) :: r => bif p j k then some v else look p k r
def put (p : W → W → Bool) (k v : W) (kvs : List (W × W)) : List (W × W) :=
  bif kvs.any (fun e => p e.1 k) then kvs.map (fun e => (e.1, bif p e.1 k then v else e.2)) else kvs ++ [(k, v)]
/-- places as slices and subscripts mean them -/
def sIx (n d : Nat) : Option Int → Nat
  | none => d
  | some v => if v < 0 then (v + (n : Int)).toNat else min v.toNat n
def cutL {α : Type} (xs : List α) (lo hi : Option Int) : List α := (xs.drop (sIx xs.length 0 lo)).take (sIx xs.length xs.length hi - sIx xs.length 0 lo)
def ixN (n : Nat) (i : Int) : Option Nat := if 0 ≤ i then (if i < n then some i.toNat else none) else if -(n : Int) ≤ i then some (i + n).toNat else none
def atI {α : Type} (xs : List α) (i : Int) : Option α := (ixN xs.length i).bind fun j => xs[j]?
/-- truth -/
def tru (h : Hp) : W → Option Bool
  | .non => some false
  | .bl b => some b
  | .int i => some (!decide (i = 0))
  | .str s => if s.length ≤ LIM then some (!s.isEmpty) else none
  | .tup xs => some (!xs.isEmpty)
  | .obj n => match h.get n with
    | some (.lst xs) | some (.fro xs) => some (!xs.isEmpty)
    | some (.dK xs) => some (!xs.isEmpty)
    | _ => none
  | _ => none
def okI (i : Int) : Bool := decide (-(2 ^ 64) < i) && decide (i < 2 ^ 64)
def rep {α : Type} (xs : List α) : Nat → List α
  | 0 => []
  | n + 1 => xs ++ rep xs n
abbrev P2 := Option (W × Hp)
def lf (o : P2) : R W := match o with
  | some (w, h) => .ok w h
  | none => .no
def binop (o : BO) (a b : W) (h : Hp) : P2 := match o, a, b with
  | .add, .int i, .int j => some ((.int (i + j)), h)
  | .add, .str x, .str y => if x.length + y.length ≤ LIM then some ((.str (x ++ y)), h) else none
  | .add, .tup x, .tup y => if x.length + y.length ≤ LIM then some ((.tup (x ++ y)), h) else none
  | .add, .obj n, .obj m => match h.get n, h.get m with
    | some (.lst xs), some (.lst ys) => if xs.length + ys.length ≤ LIM then some ((.obj h.n), (h.new (.lst (xs ++ ys)))) else none
    | _, _ => none
  | .sub, .int i, .int j => some ((.int (i - j)), h)
  | .mul, .int i, .int j => bif okI i || okI j then some ((.int (i * j)), h) else none
  | .mul, .obj n, .int k => match h.get n with
    | some (.lst xs) => if 0 ≤ k ∧ k ≤ 1000 ∧ xs.length ≤ 1000 then some ((.obj h.n), (h.new (.lst (rep xs k.toNat)))) else none
    | _ => none
  | .mul, .str s, .int k => if 2 ≤ k ∧ k ≤ 1000 ∧ 0 < s.length ∧ s.length ≤ 1000 then some ((.str (rep s k.toNat)), h) else none
  | .mod, .int i, .int j => if 0 < j then some ((.int (i % j)), h) else none
  | .fdv, .int i, .int j => if 0 < j ∧ j < 1073741824 then some ((.int (i / j)), h) else none
  | .pow, .int i, .int j => if 0 ≤ j ∧ j ≤ 1000 ∧ i.natAbs < 2 ^ 64 then some ((.int (i ^ j.toNat)), h) else none
  | _, _, _ => none
/-- x in y -/
def inW (h : Hp) (x y : W) : Option Bool := match y with
  | .str s => match x with
    | .str [c] => some (s.any (Nat.beq c))
    | _ => none
  | .tup ys => bif flatW x && ys.all flatW then some (ys.any fun y => eqD h 1 y x) else none
  | .obj n => match h.get n with
    | some (.lst ys) | some (.fro ys) => bif dataQ h DEEP x && ys.all (dataQ h DEEP) then some (ys.any fun y => eqD h DEEP y x) else none
    | some (.dK kvs) => bif keyW x then some (look keyEq x kvs).isSome else none
    | some (.dT kvs) => bif keyT x then some (look keyEqT x kvs).isSome else none
    | _ => none
  | _ => none
def isW (x y : W) : Option Bool := match y with
  | .non => some (match x with | .non => true | _ => false)
  | .bl b => match x with
    | .bl a => some (a == b)
    | _ => none
  | _ => none
def cmpop (o : CO) (a b : W) (h : Hp) : Option Bool := match o with
  | .eq => eqW h a b
  | .ne => (eqW h a b).map (!·)
  | .lt => match a, b with
    | .int i, .int j => some (decide (i < j))
    | _, _ => none
  | .le => match a, b with
    | .int i, .int j => some (decide (i ≤ j))
    | _, _ => none
  | .gt => match a, b with
    | .int i, .int j => some (decide (j < i))
    | _, _ => none
  | .ge => match a, b with
    | .int i, .int j => some (decide (j ≤ i))
    | _, _ => none
  | .is => isW a b
  | .isn => (isW a b).map (!·)
  | .inn => inW h a b
  | .nin => (inW h a b).map (!·)
def boolR (o : Option Bool) (h : Hp) : P2 := match o with
  | some b => some ((.bl b), h)
  | none => none
/-- a[i] -/
def getix (a i : W) (h : Hp) : P2 := match a, i with
  | .str s, .int k => if s.length ≤ LIM then (match atI s k with | some c => some ((.str [c]), h) | none => none) else none
  | .tup xs, .int k => match atI xs k with
    | some x => some (x, h)
    | none => none
  | .obj n, i => match h.get n with
    | some (.lst xs) | some (.fro xs) => match i with
      | .int k => match atI xs k with
        | some x => some (x, h)
        | none => none
      | _ => none
    | some (.dK kvs) => bif keyW i then (match look keyEq i kvs with | some v => some (v, h) | none => none) else none
    | some (.dT kvs) => bif keyT i then (match look keyEqT i kvs with | some v => some (v, h) | none => none) else none
    | _ => none
  | _, _ => none
/-- a[i] = v -/
def setix (a i v : W) (h : Hp) : Option Hp := match a with
  | .obj n => match h.get n with
    | some (.lst xs) => match i with
      | .int k => match ixN xs.length k with
        | some j => some (h.set n (.lst (xs.set j v)))
        | none => none
      | _ => none
    | some (.dK kvs) => bif keyW i && Nat.blt kvs.length LIM then some (h.set n (.dK (put keyEq i v kvs))) else none
    | some (.dT kvs) => bif keyT i && Nat.blt kvs.length LIM then some (h.set n (.dT (put keyEqT i v kvs))) else none
    | _ => none
  | _ => none
def getsl (a : W) (lo hi : Option Int) (h : Hp) : P2 := match a with
  | .str s => if s.length ≤ LIM then some ((.str (cutL s lo hi)), h) else none
  | .tup xs => some ((.tup (cutL xs lo hi)), h)
  | .obj n => match h.lst? n with
    | some xs => some ((.obj h.n), (h.new (.lst (cutL xs lo hi))))
    | none => none
  | _ => none
def putF (f : Nat) (v : W) : List (Nat × W) → List (Nat × W)
  | [] => [(f, v)]
  | (g, u) :: r => bif Nat.beq g f then (g, v) :: r else (g, u) :: putF f v r
def getF (f : Nat) : List (Nat × W) → Option W
  | [] => none
  | (g, u) :: r => bif Nat.beq g f then some u else getF f r
def getat (a : W) (f : Nat) (h : Hp) : P2 := match a with
  | .obj n => match h.get n with
    | some (.ins _ fs) => match getF f fs with
      | some v => some (v, h)
      | none => none
    | _ => none
  | _ => none
def setat (na : Nat → Nat → Bool) (a : W) (f : Nat) (v : W) (h : Hp) : Option Hp := match a with
  | .obj n => match h.get n with
    | some (.ins c fs) => if fs.length < 100 ∧ na c f = true then some (h.set n (.ins c (putF f v fs))) else none
    | _ => none
  | _ => none
/-- digits -/
def digF : Nat → Nat → List Nat → List Nat
  | 0, _, r => r
  | f + 1, n, r => bif Nat.blt n 10 then (n + 48) :: r else digF f (n / 10) ((n % 10 + 48) :: r)
def digs (n : Nat) : List Nat := digF (n + 1) n []
def num? : List Nat → Nat → Option Nat
  | [], n => some n
  | c :: r, n => bif Nat.ble 48 c && Nat.ble c 57 then num? r (n * 10 + (c - 48)) else none
def strs? : List W → Option (List (List Nat))
  | [] => some []
  | .str s :: r => (strs? r).map (s :: ·)
  | _ => none
def ints? : List W → Option (List Int)
  | [] => some []
  | .int s :: r => (ints? r).map (s :: ·)
  | _ => none
def bools? : List W → Option (List Bool)
  | [] => some []
  | .bl s :: r => (bools? r).map (s :: ·)
  | _ => none
def pairs? : List W → Option (List (W × W))
  | [] => some []
  | .tup [k, v] :: r => (pairs? r).map ((k, v) :: ·)
  | _ => none
def joinL (sep : List Nat) : List (List Nat) → List Nat
  | [] => []
  | [x] => x
  | x :: y :: r => x ++ sep ++ joinL sep (y :: r)
def sumN : List Nat → Nat
  | [] => 0
  | x :: r => x + sumN r
def leN : List Nat → List Nat → Bool
  | [], _ => true
  | _ :: _, [] => false
  | x :: xs, y :: ys => bif Nat.blt x y then true else bif Nat.beq x y then leN xs ys else false
def insB {α : Type} (le : α → α → Bool) (x : α) : List α → List α
  | [] => [x]
  | y :: r => bif le x y then x :: y :: r else y :: insB le x r
def sortB {α : Type} (le : α → α → Bool) : List α → List α
  | [] => []
  | x :: r => insB le x (sortB le r)
/-- the items of a list or a tuple -/
def seq? (h : Hp) : W → Option (List W)
  | .tup xs => some xs
  | .obj n => h.lst? n
  | _ => none
/-- whether a value is of a built-in class -/
inductive Tn where | non | bool | int | str | tuple | list | dict
def Tn.name : Tn → String
  | .non => "NoneType" | .bool => "bool" | .int => "int" | .str => "str" | .tuple => "tuple" | .list => "list" | .dict => "dict"
def tn? (h : Hp) : W → Option Tn
  | .non => some .non
  | .bl _ => some .bool
  | .int _ => some .int
  | .str _ => some .str
  | .tup _ => some .tuple
  | .obj n => match h.get n with
    | some (.lst _) | some (.fro _) => some .list
    | some (.dK _) | some (.dT _) => some .dict
    | _ => none
  | _ => none
def isT : Tn → String → Option Bool
  | t, "str" => some (match t with | .str => true | _ => false)
  | t, "int" => some (match t with | .int | .bool => true | _ => false)
  | t, "bool" => some (match t with | .bool => true | _ => false)
  | t, "tuple" => some (match t with | .tuple => true | _ => false)
  | t, "list" => some (match t with | .list => true | _ => false)
  | t, "dict" => some (match t with | .dict => true | _ => false)
  | _, _ => none
def isi1 (h : Hp) (x t : W) : Option Bool := match t with
  | .ty s => match tn? h x with
    | some t => isT t s
    | none => none
  | _ => none
def isiA (h : Hp) (x : W) : List W → Option Bool
  | [] => some false
  | t :: r => match isi1 h x t, isiA h x r with
    | some a, some b => some (a || b)
    | _, _ => none
abbrev S' (s : List Nat) : Str := ⟨s.toArray⟩
def toD (h : Hp) : Nat → W → PySem.PyData
  | 0, _ => .none
  | f + 1, w => match w with
    | .non => .none
    | .bl b => .bool b
    | .int i => .int i
    | .str s => .str (S' s)
    | .tup xs => .tuple (xs.map (toD h f))
    | .obj n => match h.lst? n with
      | some xs => .list (xs.map (toD h f))
      | none => .none
    | _ => .none
/-- what repr tells of data -/
def reprA (x : W) (h : Hp) : P2 := bif dataQ h DEEP x && (toD h DEEP x).showable && Nat.ble (toD h DEEP x).shown.cps.size LIM then some ((.str (toD h DEEP x).shown.cps.toList), h) else none
def bfn (b : Bf) (as : List W) (h : Hp) : P2 := match b, as with
  | .len, [x] => match x with
    | .str s => if s.length ≤ LIM then some ((.int s.length), h) else none
    | .tup xs => some ((.int xs.length), h)
    | .lis xs => some ((.int xs.length), h)
    | .obj n => match h.get n with
      | some (.lst xs) | some (.fro xs) => some ((.int xs.length), h)
      | some (.dK xs) | some (.dT xs) => some ((.int xs.length), h)
      | _ => none
    | _ => none
  | .tuple, [x] => match seq? h x with
    | some xs => some ((.tup xs), h)
    | none => none
  | .list, [x] => match x with
    | .lis xs => some ((.obj h.n), (h.new (.lst xs)))
    | x => match seq? h x with
      | some xs => some ((.obj h.n), (h.new (.lst xs)))
      | none => none
  | .isi, [x, t] => match t with
    | .tup ts => bif ts.isEmpty then none else boolR (isiA h x ts) h
    | t => boolR (isi1 h x t) h
  | .all, [.obj n] => match (h.lst? n).bind bools? with
    | some bs => some ((.bl (bs.all id)), h)
    | none => none
  | .any, [.obj n] => match (h.lst? n).bind bools? with
    | some bs => some ((.bl (bs.any id)), h)
    | none => none
  | .int, [x] => match x with
    | .int i => some ((.int i), h)
    | .bl b => some ((.int (b2i b)), h)
    | .str s => if s.length ≤ 640 ∧ s ≠ [] then (match num? s 0 with | some n => some ((.int n), h) | none => none) else none
    | _ => none
  | .str, [x] => match x with
    | .str s => some ((.str s), h)
    | .int (.ofNat n) => if n < 10 ^ 30 then some ((.str (digs n)), h) else none
    | _ => none
  | .sum, [.obj n] => match (h.lst? n).bind ints? with
    | some is => some ((.int is.sum), h)
    | none => none
  | .dict, [.obj n] => match (h.lst? n).bind pairs? with
    | some kvs => bif kvs.all (fun p => keyW p.1) then some ((.obj h.n), (h.new (.dK (kvs.foldl (fun d p => put keyEq p.1 p.2 d) [])))) else none
    | none => none
  | .repr, [x] => match x with
    | .obj n => reprA (.obj n) h
    | .tup xs => reprA (.tup xs) h
    | _ => none
  | .max, [.int i, .int j] => some ((.int (if j > i then j else i)), h)
  | .min, [.int i, .int j] => some ((.int (if j < i then j else i)), h)
  | .sorted, [.obj n] => match h.get n with
    | some (.lst xs) => match strs? xs with
      | some ss => if ss.length < 64 then some ((.obj h.n), (h.new (.lst ((sortB leN ss).map .str)))) else none
      | none => match ints? xs with
        | some is => if is.length < 64 then some ((.obj h.n), (h.new (.lst ((sortB (fun i j => decide (i ≤ j)) is).map .int)))) else none
        | none => none
    | some (.dK kvs) => match strs? (kvs.map (·.1)) with
      | some ss => if ss.length < 64 then some ((.obj h.n), (h.new (.lst ((sortB leN ss).map .str)))) else none
      | none => none
    | _ => none
  | _, _ => none
/-- the kinds of receivers -/
inductive Kd where | lst | str | dct
/-- methods of built-in types, by numbers of their names: 0 append, 1 extend, 2 join, 3 pop, 4 get -/
def bmeth (k : Kd) (a : W) (m : Nat) (as : List W) (h : Hp) : P2 := match k with
  | .str => match a with
    | .str s => match m, as with
      | 2, [x] => match (seq? h x).bind strs? with
        | some ss => if sumN (ss.map List.length) + ss.length * s.length ≤ LIM then some ((.str (joinL s ss)), h) else none
        | none => none
      | _, _ => none
    | _ => none
  | .lst => match a with
    | .obj n => match h.get n with
      | some (.lst xs) => match m, as with
        | 0, [x] => if xs.length < LIM then some (.non, (h.set n (.lst (xs ++ [x])))) else none
        | 1, [.obj k] => match h.get k with
          | some (.lst ys) => if xs.length + ys.length ≤ LIM then some (.non, (h.set n (.lst (xs ++ ys)))) else none
          | _ => none
        | 3, [] => match xs[xs.length - 1]? with
          | some x => some (x, (h.set n (.lst xs.dropLast)))
          | none => none
        | _, _ => none
      | _ => none
    | _ => none
  | .dct => none

/-! ### the program -/
structure Fd where
  np : Nat
  ns : Nat
  body : Ss
structure Pg where
  fns : Tr Fd
  /-- a class's methods by name; __init__; an exception's fields; its bases -/
  mth : Nat → Nat → Option Nat
  ini : Nat → Option Nat
  fld : Nat → Nat → Bool
  xfs : Nat → Option (List Nat)
  xsub : Nat → Nat → Bool
def Pg.na (pg : Pg) (c f : Nat) : Bool := pg.fld c f
/-- what a lambda's body calls -/
structure Lf where
  cf : Nat → List W → Hp → R W
  cg : Nat → List W → Hp → R W
structure Cf where
  pg : Pg
  F : Nat
  cf : Nat → List W → Hp → R W
  cg : Nat → List W → Hp → R W
  hx : Option Lf
def Cf.lam (c : Cf) (l : Lf) : Cf := ⟨c.pg, c.F, l.cf, l.cg, none⟩
/-- what a method's name means for a receiver -/
inductive Mn where | usr (g : Nat) | bt (k : Kd) | no
def mkind (pg : Pg) (h : Hp) (m : Nat) : W → Mn
  | .str _ => match m with
    | 2 => .bt .str
    | _ => .no
  | .obj n => match h.get n with
    | some (.lst _) => match m with
      | 0 | 1 | 3 => .bt .lst
      | _ => .no
    | some (.ins k _) => match pg.mth k m with
      | some g => .usr g
      | none => .no
    | _ => .no
  | _ => .no
def rngL : Nat → Int → Int → List W
  | 0, _, _ => []
  | n + 1, lo, c => .int lo :: rngL n (lo + c) c
inductive Sq where
  | live (n : Nat) | enml (n : Nat) | snap (xs : List W)
def small (i : Int) : Bool := decide (-(2 ^ 62) ≤ i) && decide (i < 2 ^ 62)
/-- what range walks -/
def rng? : List W → Option (List W)
  | [.int j] => if small j ∧ j ≤ LIM then some (rngL j.toNat 0 1) else none
  | [.int i, .int j] => if small i ∧ small j ∧ j - i ≤ LIM then some (rngL (j - i).toNat i 1) else none
  | [.int i, .int j, .int c] => if small i ∧ small j ∧ c = -1 ∧ i - j ≤ LIM then some (rngL (i - j).toNat i c) else none
  | _ => none
def walk? (h : Hp) : W → Option Sq
  | .tup xs => if xs.length ≤ LIM then some (.snap xs) else none
  | .lis xs => if xs.length ≤ LIM then some (.snap xs) else none
  | .str s => if s.length ≤ LIM then some (.snap (s.map fun c => .str [c])) else none
  | .obj n => match h.lst? n with
    | some xs => if xs.length ≤ LIM then some (.live n) else none
    | none => none
  | _ => none
/-- a turn's end -/
def RS.turn (x : RS) (go : Sl → Hp → RS) : RS := match x with
  | .fl (.nx τ) h => go τ h
  | .fl (.ct τ) h => go τ h
  | .fl (.bk τ) h => .fl (.nx τ) h
  | r => r
def forS (body : W → Sl → Hp → RS) : List W → Sl → Hp → RS
  | [], τ, h => .fl (.nx τ) h
  | x :: xs, τ, h => (body x τ h).turn (forS body xs)
def item (en : Bool) (i : Nat) (x : W) : W := match en with
  | true => .tup [.int i, x]
  | false => x
def forL (en : Bool) (n : Nat) (body : W → Sl → Hp → RS) : Nat → Nat → Sl → Hp → RS
  | 0, _, _, _ => .no
  | f + 1, i, τ, h => match h.lst? n with
    | some xs => match xs[i]? with
      | some x => (body (item en i x) τ h).turn (forL en n body f (i + 1))
      | none => .fl (.nx τ) h
    | none => .no
def forQ (q : Sq) (body : W → Sl → Hp → RS) (τ : Sl) (h : Hp) : RS := match q with
  | .snap xs => forS body xs τ h
  | .live n => forL false n body (((h.lst? n).getD []).length + 1) 0 τ h
  | .enml n => forL true n body (((h.lst? n).getD []).length + 1) 0 τ h
def lcS (body : W → Hp → R (Option W)) : List W → List W → Hp → R (List W)
  | [], acc, h => .ok acc.reverse h
  | x :: xs, acc, h => (body x h).b fun y h => lcS body xs (match y with | some y => y :: acc | none => acc) h
def lcL (en : Bool) (n : Nat) (body : W → Hp → R (Option W)) : Nat → Nat → List W → Hp → R (List W)
  | 0, _, _, _ => .no
  | f + 1, i, acc, h => match h.lst? n with
    | some xs => match xs[i]? with
      | some x => (body (item en i x) h).b fun y h => lcL en n body f (i + 1) (match y with | some y => y :: acc | none => acc) h
      | none => .ok acc.reverse h
    | none => .no
def lcQ (q : Sq) (body : W → Hp → R (Option W)) (h : Hp) : R (List W) := match q with
  | .snap xs => lcS body xs [] h
  | .live n => lcL false n body (((h.lst? n).getD []).length + 1) 0 [] h
  | .enml n => lcL true n body (((h.lst? n).getD []).length + 1) 0 [] h
def whF (c : Sl → Hp → R Bool) (b : Sl → Hp → RS) : Nat → Sl → Hp → RS
  | 0, _, _ => .no
  | f + 1, τ, h => (c τ h).s τ fun t h => match t with
    | true => (b τ h).turn (whF c b f)
    | false => .fl (.nx τ) h
def wipe (τ : Sl) : List Nat → Sl
  | [] => τ
  | v :: vs => (wipe τ vs).set v none
def truR (x : R W) : R Bool := x.b fun w h => match tru h w with
  | some b => .ok b h
  | none => .no
def pairsOf : List W → Option (List (W × W))
  | [] => some []
  | k :: v :: r => (pairsOf r).map ((k, v) :: ·)
  | _ => none
/-- nothing is raised here -/
def R.nox {α : Type} (x : R α) : R α := match x with
  | .ex _ _ => .no
  | r => r
/-- an instance's class, and one -/
def clsN (x : W) (h : Hp) : Nat := match x with
  | .obj n => match h.get n with
    | some (.ins c _) => c + 1
    | _ => 0
  | _ => 0
/-- in place, on what does not change in place -/
def iop (o : BO) (a b : W) (h : Hp) : P2 := match o, a, b with
  | .add, .int i, .int j => some ((.int (i + j)), h)
  | .sub, .int i, .int j => some ((.int (i - j)), h)
  | .mul, .int i, .int j => bif okI i || okI j then some ((.int (i * j)), h) else none
  | .add, .str x, .str y => if x.length + y.length ≤ LIM then some ((.str (x ++ y)), h) else none
  | _, _, _ => none
def putW (d : List (W × W)) (y : W) : List (W × W) := match y with
  | .tup [k, v] => put keyEq k v d
  | _ => d
def metF (fs : List (Nat × W)) : List MF → Option (List W)
  | [] => some []
  | m :: ms => match (match m with
      | .cst (.str s) => some (W.str s)
      | .cst _ => none
      | .fld f => getF f fs), metF fs ms with
    | some w, some ws => some (w :: ws)
    | _, _ => none
/-- the clauses, one after the other; only the very class is met -/
def metH (pg : Pg) (k : Nat) (fs : List (Nat × W)) (h : Hp) : List Mh → R W
  | [] => .no
  | m :: ms => bif Nat.beq k m.c then (match metF fs m.fs with
      | some ws => .ok (.tup ws) h
      | none => .no) else bif pg.xsub k m.c then .no else metH pg k fs h ms
def metX (pg : Pg) (hs : List Mh) (h : Hp) : Xn → R W
  | .own k fs => match pg.xfs k, fs with
    | some _, _ :: _ => metH pg k fs h hs
    | _, _ => .no
def metR (pg : Pg) (hs : List Mh) (r : R W) : R W := match r with
  | .ok w h => .ok w h
  | .ex x h => metX pg hs h x
  | .no => .no
mutual
def evE (c : Cf) : E → Sl → Hp → R W
  | .var i, τ, h => match τ[i]? with
    | some (some w) => .ok w h
    | _ => .no
  | .cst w, _, h => .ok w h
  | .bad, _, _ => .no
  | .bin o a b, τ, h => (evE c a τ h).b fun x h => (evE c b τ h).b fun y h => lf (binop o x y h)
  | .neg a, τ, h => (evE c a τ h).b fun x h => match x with
    | .int i => .ok (.int (-i)) h
    | _ => .no
  | .nt a, τ, h => (truR (evE c a τ h)).b fun b h => .ok (.bl (!b)) h
  | .cmp o a b, τ, h => (evE c a τ h).b fun x h => (evE c b τ h).b fun y h => lf (boolR (cmpop o x y h) h)
  | .chn o p a b d, τ, h => (evE c a τ h).b fun x h => (evE c b τ h).b fun y h => match cmpop o x y h with
    | some true => (evE c d τ h).b fun z h => lf (boolR (cmpop p y z h) h)
    | some false => .ok (.bl false) h
    | none => .no
  | .and a b, τ, h => (evE c a τ h).b fun x h => match tru h x with
    | some true => evE c b τ h
    | some false => .ok x h
    | none => .no
  | .or a b, τ, h => (evE c a τ h).b fun x h => match tru h x with
    | some true => .ok x h
    | some false => evE c b τ h
    | none => .no
  | .ite d a b, τ, h => (truR (evE c d τ h)).b fun t h => match t with
    | true => evE c a τ h
    | false => evE c b τ h
  | .tup as, τ, h => (evEs c as τ h).b fun xs h => if xs.length ≤ LIM then .ok (.tup xs) h else .no
  | .lst as, τ, h => (evEs c as τ h).b fun xs h => if xs.length ≤ LIM then .ok (.obj h.n) (h.new (.lst xs)) else .no
  | .dct0 t, _, h => .ok (.obj h.n) (h.new (match t with | true => .dT [] | false => .dK []))
  | .dct kvs, τ, h => (evEs c kvs τ h).b fun xs h => match pairsOf xs with
    | some ps => if ps.all (fun p => keyW p.1) ∧ ps.length ≤ 15 then .ok (.obj h.n) (h.new (.dK (ps.foldl (fun d p => put keyEq p.1 p.2 d) []))) else .no
    | none => .no
  | .ix a i, τ, h => (evE c a τ h).b fun x h => (evE c i τ h).b fun y h => lf (getix x y h)
  | .sl a lo hi, τ, h => (evE c a τ h).b fun x h => (evO c lo τ h).b fun l h => (evO c hi τ h).b fun r h => lf (getsl x l r h)
  | .rev a, τ, h => (evE c a τ h).b fun x h => match x with
    | .obj n => match h.lst? n with
      | some xs => .ok (.obj h.n) (h.new (.lst xs.reverse))
      | none => .no
    | _ => .no
  | .att a f, τ, h => (evE c a τ h).b fun x h => lf (getat x f h)
  | .xat f, _, h => .no
  | .cal g as, τ, h => (evEs c as τ h).b fun xs h => c.cf g xs h
  | .cav f as, τ, h => (evE c f τ h).b fun x h => (evEs c as τ h).b fun xs h => match x with
    | .fn g => c.cf g xs h
    | .obj n => match h.get n with
      | some (.clo g caps) => c.cf g (caps ++ xs) h
      | _ => .no
    | _ => .no
  | .new k as, τ, h => (evEs c as τ h).b fun xs h => match c.pg.ini k with
    | some g => (c.cg g (.obj h.n :: xs) (h.new (.ins k []))).b fun v h' => match v with
      | .non => .ok (.obj h.n) h'
      | _ => .no
    | none => .no
  | .mth a m as, τ, h => (evE c a τ h).b fun x h => match mkind c.pg h m x with
    | .usr g => (evEs c as τ h).b fun xs h => c.cf g (x :: xs) h
    | .bt k => (evEs c as τ h).b fun xs h => lf (bmeth k x m xs h)
    | .no => .no
  | .bfn b as, τ, h => (evEs c as τ h).b fun xs h => lf (bfn b xs h)
  | .met hs a, τ, h => match c.hx with
    | some l => metR c.pg hs (evE (c.lam l) a τ h)
    | none => .no
  | .lc e t it d own, τ, h => (evI c it τ h).b fun q h => (lcQ q (fun x h => (evT c t x (wipe τ own) h).b fun τ' h => (evC c d τ' h).b fun b h => match b with
      | true => (evE c e τ' h).b fun y h => .ok (some y) h
      | false => .ok none h) h).nox.b fun ys h => .ok (.obj h.n) (h.new (.lst ys))
  | .dc k v t it own, τ, h => (evI c it τ h).b fun q h => (lcQ q (fun x h => (evT c t x (wipe τ own) h).b fun τ' h => (evE c k τ' h).b fun k h => (evE c v τ' h).b fun v h => match keyW k with
      | true => .ok (some (.tup [k, v])) h
      | false => .no) h).nox.b fun ys h => .ok (.obj h.n) (h.new (.dK (ys.foldl putW [])))
def evEs (c : Cf) : Es → Sl → Hp → R (List W)
  | .nil, _, h => .ok [] h
  | .cons a as, τ, h => (evE c a τ h).b fun x h => (evEs c as τ h).b fun xs h => .ok (x :: xs) h
def evO (c : Cf) : Option' → Sl → Hp → R (Option Int)
  | .non, _, h => .ok none h
  | .som a, τ, h => (evE c a τ h).b fun x h => match x with
    | .int i => .ok (some i) h
    | _ => .no
def evC (c : Cf) : Cs → Sl → Hp → R Bool
  | .nil, _, h => .ok true h
  | .one a, τ, h => truR (evE c a τ h)
def evI (c : Cf) : It → Sl → Hp → R Sq
  | .bad, _, _ => .no
  | .ex a, τ, h => (evE c a τ h).b fun x h => match walk? h x with
    | some q => .ok q h
    | none => .no
  | .rng as, τ, h => (evEs c as τ h).b fun xs h => match rng? xs with
    | some xs => .ok (.snap xs) h
    | none => .no
  | .enm a, τ, h => (evE c a τ h).b fun x h => match walk? h x with
    | some (.live n) => .ok (.enml n) h
    | _ => .no
  | _, _, _ => .no
def evT (c : Cf) : T → W → Sl → Hp → R Sl
  | .bad, _, _, _ => .no
  | .nm i, w, τ, h => .ok (τ.set i (some w)) h
  | .tp ts, w, τ, h => match seq? h w with
    | some xs => evTs c ts xs τ h
    | none => .no
  | .sb a i, w, τ, h => (evE c a τ h).b fun x h => (evE c i τ h).b fun y h => match setix x y w h with
    | some h => .ok τ h
    | none => .no
  | .at a f, w, τ, h => (evE c a τ h).b fun x h => match setat c.pg.na x f w h with
    | some h => .ok τ h
    | none => .no
def evTs (c : Cf) : Ts → List W → Sl → Hp → R Sl
  | .nil, ws, τ, h => match ws with
    | [] => .ok τ h
    | _ => .no
  | .cons t ts, ws, τ, h => match ws with
    | w :: ws => (evT c t w τ h).b fun τ h => evTs c ts ws τ h
    | [] => .no
end
def evB (c : Cf) (e : E) (τ : Sl) (h : Hp) : R Bool := truR (evE c e τ h)
/-- a handler's clause -/
def Xn.fits (pg : Pg) (x : Xn) (k : Nat) : Bool := match x with
  | .own c _ => pg.xsub c k
mutual
def evS (c : Cf) : S → Sl → Hp → RS
  | .exp e, τ, h => (evE c e τ h).s τ fun _ h => .fl (.nx τ) h
  | .asg t e, τ, h => (evE c e τ h).s τ fun x h => (evT c t x τ h).s τ fun τ h => .fl (.nx τ) h
  | .aug i o e, τ, h => match τ[i]? with
    | some (some x) => (evE c e τ h).s τ fun y h => (lf (iop o x y h)).s τ fun z h => .fl (.nx (τ.set i (some z))) h
    | _ => .no
  | .agf a f o e, τ, h => (evE c a τ h).s τ fun x h0 => (lf (getat x f h0)).s τ fun v h => (evE c e τ h).s τ fun y h => (lf (iop o v y h)).s τ fun z h => if clsN x h0 = clsN x h then (match setat c.pg.na x f z h with
    | some h => .fl (.nx τ) h
    | none => .no) else .no
  | .ags a i o e, τ, h => (evE c a τ h).s τ fun x h => (evE c i τ h).s τ fun j h => (lf (getix x j h)).s τ fun v h => (evE c e τ h).s τ fun y h => (lf (iop o v y h)).s τ fun z h => match setix x j z h with
    | some h => .fl (.nx τ) h
    | none => .no
  | .ret e, τ, h => (evE c e τ h).s τ fun x h => .fl (.rt x) h
  | .retN, _, h => .fl (.rt .non) h
  | .iff d a b, τ, h => (evB c d τ h).s τ fun t h => match t with
    | true => evSs c a τ h
    | false => evSs c b τ h
  | .whl d b, τ, h => whF (evB c d) (evSs c b) c.F τ h
  | .for t it b, τ, h => (evI c it τ h).s τ fun q h => forQ q (fun x τ h => (evT c t x τ h).s τ fun τ h => evSs c b τ h) τ h
  | .brk, τ, h => .fl (.bk τ) h
  | .cnt, τ, h => .fl (.ct τ) h
  | .pas, τ, h => .fl (.nx τ) h
  | .bad, _, _ => .no
  | .rai k as, τ, h => match c.hx, c.pg.xfs k with
    | some _, some fs => (evEs c as τ h).s τ fun xs h => if fs.length = xs.length then .ex (.own k (fs.zip xs)) τ h else .no
    | _, _ => .no
  | .try b hs, τ, h => match evSs c b τ h with
    | .ex e τ' h' => evH c e hs τ' h'
    | r => r
def evSs (c : Cf) : Ss → Sl → Hp → RS
  | .nil, τ, h => .fl (.nx τ) h
  | .cons s ss, τ, h => (evS c s τ h).b fun τ h => evSs c ss τ h
def evH (c : Cf) (e : Xn) : Hs → Sl → Hp → RS
  | .nil, τ, h => .ex e τ h
  | .cons k b hs, τ, h => match e.fits c.pg k with
    | true => evSs c b τ h
    | false => evH c e hs τ h
end
def start (ns : Nat) (ws : List W) : Sl := ws.map some ++ List.replicate (ns - ws.length) none
def fin (r : RS) : R W := match r with
  | .fl (.rt w) h => .ok w h
  | .fl (.nx _) h => .ok .non h
  | .ex e _ h => .ex e h
  | _ => .no
/-- a def called, so many calls deep at most -/
def call1 (pg : Pg) (F : Nat) (cf cg : Nat → List W → Hp → R W) (hx : Option Lf) (g : Nat) (ws : List W) (h : Hp) : R W := match pg.fns.get (g + 1) with
  | some d => if ws.length = d.np then fin (evSs ⟨pg, F, cf, cg, hx⟩ d.body (start d.ns ws) h) else .no
  | none => .no
def run (pg : Pg) (F : Nat) : Nat → Nat → List W → Hp → R W
  | 0, _, _, _ => .no
  | 1, _, _, _ => .no
  | 2, g, ws, h => call1 pg F (run pg F 1) (run pg F 0) none g ws h
  | 3, g, ws, h => call1 pg F (run pg F 2) (run pg F 1) none g ws h
  | k + 4, g, ws, h => call1 pg F (run pg F (k + 3)) (run pg F (k + 2)) (some ⟨run pg F (k + 1), run pg F k⟩) g ws h
def lamOf (pg : Pg) (F : Nat) : Nat → Option Lf
  | 0 => none
  | 1 => none
  | k + 2 => some ⟨run pg F (k + 1), run pg F k⟩
theorem run_ss (pg : Pg) (F k g : Nat) (ws : List W) (h : Hp) : run pg F (k + 2) g ws h = call1 pg F (run pg F (k + 1)) (run pg F k) (lamOf pg F k) g ws h := by
  match k with
  | 0 => rw [run]; rfl
  | 1 => rw [run]; rfl
  | k + 2 => rw [run]; rfl
end TX
end
section
set_option maxRecDepth 100000
/-! EvRel: how the reckoner's values and heap stand for the hand layer's. -/
namespace TX
open PySem

abbrev LH := L2.Hp
abbrev LV := L2.V
/-- the program in memory: where defs and classes stand, the attributes' names -/
structure Gx where
  K : PySem.W.Frag
  fa : Nat → Option Addr
  ca : Nat → Option Addr
  an : Nat → Str
  nn : Nat
  inj : ∀ i j, i < nn → j < nn → an i = an j → i = j
  /-- the tables of code objects, and the names of what is made by them -/
  tb : List (Addr × Str)
  /-- code objects and their tables -/
  cs : List (Addr × Addr)
def TupAt (_G : Gx) (H : LH) (a : Addr) (ys : List LV) : Prop := H a = some (.tup ys)
theorem TupAt.sq {G : Gx} {H : LH} {a : Addr} {ys : List LV} (h : TupAt G H a ys) : L2.SqT G.K H a ys := .inl (.inl h)
/-- a list that stays as it is: frozen, or written by the text -/
def LisAt (G : Gx) (H : LH) (a : Addr) (ys : List LV) : Prop := (∃ o, H a = some (.frz o (.lst ys))) ∨ ∃ (o : Obj) (its : Array Value) (n : Nat), G.K.lookup a = some o ∧ o.cls = .type "list" ∧ o.dict = none ∧ o.data = .seq its n ∧ its.size ≤ sizeLine ∧ L2.Vals ys its.toList
theorem LisAt.sq {G : Gx} {H : LH} {a : Addr} {ys : List LV} (h : LisAt G H a ys) : L2.SqL G.K H a ys := h.elim (fun h => .inl (.inr h)) .inr
variable (G : Gx)
mutual
def RV (ρ : List Addr) (H : LH) : W → LV → Prop
  | .non, x => x = .non
  | .bl b, x => x = .bl b
  | .int i, x => x = .int i
  | .str s, x => x = .str (S' s)
  | .tup ws, x => ∃ a ys, x = .ref a ∧ TupAt G H a ys ∧ RVs ρ H ws ys
  | .lis ws, x => ∃ a ys, x = .ref a ∧ LisAt G H a ys ∧ RVs ρ H ws ys
  | .obj n, x => ∃ a, x = .ref a ∧ ρ[n]? = some a
  | .fn g, x => ∃ a, x = .ref a ∧ G.fa g = some a
  | .cls c, x => ∃ a, x = .ref a ∧ G.ca c = some a
  | .ty t, x => x = .ty t
def RVs (ρ : List Addr) (H : LH) : List W → List LV → Prop
  | [], ys => ys = []
  | w :: ws, ys => ∃ y r, ys = y :: r ∧ RV ρ H w y ∧ RVs ρ H ws r
end
/-- keys -/
def RK : W → L2.Key → Prop
  | .int i, k => k = .inl i
  | .str s, k => k = .inr (S' s)
  | _, _ => False
def RKs : List W → List L2.Key → Prop
  | [], ks => ks = []
  | w :: ws, ks => ∃ k r, ks = k :: r ∧ RK w k ∧ RKs ws r
def RT : W → List L2.Key → Prop
  | .tup ws, ks => RKs ws ks
  | _, _ => False
def RPs {κ : Type} (rk : W → κ → Prop) (ρ : List Addr) (H : LH) : List (W × W) → List (κ × LV) → Prop
  | [], ks => ks = []
  | (k, w) :: ws, ks => ∃ q x r, ks = (q, x) :: r ∧ rk k q ∧ RV G ρ H w x ∧ RPs rk ρ H ws r
def RFs (ρ : List Addr) (H : LH) : List (Nat × W) → List (Str × LV) → Prop
  | [], ks => ks = []
  | (f, w) :: ws, ks => ∃ x r, ks = (G.an f, x) :: r ∧ f < G.nn ∧ RV G ρ H w x ∧ RFs ρ H ws r
def isExt (o : Option L2.HO) : Prop := ∃ φ, o = some (.ext φ)
def RO (ρ : List Addr) (H : LH) (a : Addr) : Ob → Prop
  | .lst ws => ∃ ys, H a = some (.lst ys) ∧ RVs G ρ H ws ys
  | .fro _ => False
  | .dK kvs => ∃ ks, H a = some (.dK ks) ∧ RPs G RK ρ H kvs ks
  | .dT kvs => ∃ ks, H a = some (.dT ks) ∧ RPs G RT ρ H kvs ks
  | .ins c fs => ∃ C dx ys, G.ca c = some C ∧ H a = some (.ins C dx ys) ∧ RFs G ρ H fs ys ∧ (∀ p ∈ fs, L2.NoAttr G.K C (G.an p.1)) ∧ L2.Cls G.K C
  | .clo _ _ => False
  | .dead => False
structure Rep (ρ : List Addr) (h : Hp) (H : LH) : Prop where
  len : ρ.length = h.n
  nd : ρ.Nodup
  ob : ∀ (i : Nat) (a : Addr), ρ[i]? = some a → ∃ o, h.get i = some o ∧ RO G ρ H a o
  tabs : LamX.Tabs G.tb H
def isTb : L2.HO → Bool
  | .tbl _ => true
  | _ => false
/-- the way from one heap to a later one: what the reckoner does not know stays -/
structure To (ρ : List Addr) (H : LH) (ρ' : List Addr) (H' : LH) : Prop where
  pre : ρ <+: ρ'
  fr : ∀ a o, H a = some o → a ∉ ρ → isTb o = false → H' a = some o
  nw : ∀ b ∈ ρ', b ∉ ρ → ∀ o, H b = some o → isTb o = true
variable {G} {ρ ρ' ρ'' : List Addr} {H H' H'' : LH} {h h' : Hp} {a : Addr}

/-- what never changes: tuples, what is frozen -/
def isSt : Option L2.HO → Bool
  | some (.tup _) => true
  | some (.frz _ _) => true
  | _ => false
theorem RO.nt {o : Ob} (r : RO G ρ H a o) : isSt (H a) = false := by
  cases o with
  | lst _ => obtain ⟨_, e, _⟩ := r; rw [e]; rfl
  | fro _ => exact r.elim
  | dK _ => obtain ⟨_, e, _⟩ := r; rw [e]; rfl
  | dT _ => obtain ⟨_, e, _⟩ := r; rw [e]; rfl
  | ins _ _ => obtain ⟨_, _, _, _, e, _⟩ := r; rw [e]; rfl
  | clo _ _ => exact r.elim
  | dead => exact r.elim
theorem Rep.not_st (R : Rep G ρ h H) (e : isSt (H a) = true) : a ∉ ρ := fun hm => by
  obtain ⟨i, hi⟩ := List.getElem?_of_mem hm
  obtain ⟨o, _, ro⟩ := R.ob i a hi
  rw [ro.nt] at e; cases e
theorem Rep.not_tup (R : Rep G ρ h H) {ys : List LV} (e : H a = some (.tup ys)) : a ∉ ρ := fun hm => by
  exact R.not_st (by rw [e]; rfl) hm
theorem To.refl : To ρ H ρ H := ⟨List.prefix_refl _, fun _ _ e _ _ => e, fun _ h n => absurd h n⟩
theorem To.trans (t : To ρ H ρ' H') (u : To ρ' H' ρ'' H'') : To ρ H ρ'' H'' := by
  refine ⟨t.pre.trans u.pre, fun a o e n z => u.fr a o (t.fr a o e n z) (fun hm => ?_) z, fun b hb n o e => ?_⟩
  · rw [t.nw a hm n o e] at z; cases z
  · by_cases hm : b ∈ ρ'
    · exact t.nw b hm n o e
    · cases z : isTb o with
      | true => rfl
      | false =>
        have := u.nw b hb hm o (t.fr b o e n z)
        rw [z] at this; cases this
theorem Rep.there (R : Rep G ρ h H) (hm : a ∈ ρ) : ∃ o, H a = some o := by
  obtain ⟨i, hi⟩ := List.getElem?_of_mem hm
  obtain ⟨o, _, ro⟩ := R.ob i a hi
  cases o with
  | lst _ => obtain ⟨_, e, _⟩ := ro; exact ⟨_, e⟩
  | fro _ => exact ro.elim
  | dK _ => obtain ⟨_, e, _⟩ := ro; exact ⟨_, e⟩
  | dT _ => obtain ⟨_, e, _⟩ := ro; exact ⟨_, e⟩
  | ins _ _ => obtain ⟨_, _, _, _, e, _⟩ := ro; exact ⟨_, e⟩
  | clo _ _ => exact ro.elim
  | dead => exact ro.elim
/-- what is numbered is no table, no object of another kind -/
def isOt : L2.HO → Bool
  | .tbl _ => true
  | .ext _ => true
  | _ => false
theorem Rep.not_ot (R : Rep G ρ h H) {o : L2.HO} (e : H a = some o) (z : isOt o = true) : a ∉ ρ := fun hm => by
  obtain ⟨i, hi⟩ := List.getElem?_of_mem hm
  obtain ⟨u, _, ro⟩ := R.ob i a hi
  cases u with
  | lst _ => obtain ⟨_, q, _⟩ := ro; rw [e] at q; cases q; cases z
  | fro _ => exact ro.elim
  | dK _ => obtain ⟨_, q, _⟩ := ro; rw [e] at q; cases q; cases z
  | dT _ => obtain ⟨_, q, _⟩ := ro; rw [e] at q; cases q; cases z
  | ins _ _ => obtain ⟨_, _, _, _, q, _⟩ := ro; rw [e] at q; cases q; cases z
  | clo _ _ => exact ro.elim
  | dead => exact ro.elim
/-- tables stay where only other things change -/
theorem tabs_at {T : List (Addr × Str)} {b : Addr} {o : L2.HO} (t : LamX.Tabs T H) (n : ∀ u, H b = some u → isOt u = false) : LamX.Tabs T (L2.upd H b o) := fun p hp => by
  obtain ⟨ps, h1, h2, h3⟩ := t p hp
  refine ⟨ps, ?_, h2, fun pos cv hc => ?_⟩
  · rw [L2.upd_ne (fun z => by have := n _ (z ▸ h1); cases this)]; exact h1
  · obtain ⟨c, e1, e2⟩ := h3 pos cv hc
    exact ⟨c, e1, by rw [L2.upd_ne (fun z => by have := n _ (z ▸ e2); cases this)]; exact e2⟩
/-- tuples stay -/
def Tk (H H' : LH) : Prop := ∀ a, isSt (H a) = true → H' a = H a
theorem Tk.refl : Tk H H := fun _ _ => rfl
theorem To.tk (t : To ρ H ρ' H') (R : Rep G ρ h H) : Tk H H' := fun a e => by
  cases q : H a with
  | none => rw [q] at e; cases e
  | some o => exact t.fr a o q (R.not_st e) (by cases o <;> first | rfl | (rw [q] at e; cases e))
theorem TupAt.mono (k : Tk H H') {ys : List LV} (t : TupAt G H a ys) : TupAt G H' a ys := (k a (by rw [show H a = _ from t]; rfl)).trans t
theorem LisAt.mono (k : Tk H H') {ys : List LV} (t : LisAt G H a ys) : LisAt G H' a ys := by
  rcases t with ⟨o, e⟩ | t
  · exact .inl ⟨o, (k a (by rw [e]; rfl)).trans e⟩
  · exact .inr t
theorem pre_get {ρ ρ' : List Addr} (p : ρ <+: ρ') {n : Nat} (e : ρ[n]? = some a) : ρ'[n]? = some a := by
  obtain ⟨r, rfl⟩ := p
  rw [List.getElem?_append_left (List.getElem?_eq_some_iff.mp e).1]; exact e
mutual
theorem RV.mono (p : ρ <+: ρ') (k : Tk H H') : ∀ (w : W) (x : LV), RV G ρ H w x → RV G ρ' H' w x
  | .non, _, r => r
  | .bl _, _, r => r
  | .int _, _, r => r
  | .str _, _, r => r
  | .tup ws, _, r => by
    simp only [RV] at r ⊢
    obtain ⟨a, ys, e, t, q⟩ := r
    exact ⟨a, ys, e, t.mono k, RVs.mono p k ws ys q⟩
  | .lis ws, _, r => by
    simp only [RV] at r ⊢
    obtain ⟨a, ys, e, t, q⟩ := r
    exact ⟨a, ys, e, t.mono k, RVs.mono p k ws ys q⟩
  | .obj n, _, r => by
    simp only [RV] at r ⊢
    obtain ⟨a, e, q⟩ := r
    exact ⟨a, e, pre_get p q⟩
  | .fn _, _, r => r
  | .cls _, _, r => r
  | .ty _, _, r => r
theorem RVs.mono (p : ρ <+: ρ') (k : Tk H H') : ∀ (ws : List W) (xs : List LV), RVs G ρ H ws xs → RVs G ρ' H' ws xs
  | [], _, r => r
  | w :: ws, xs, r => by
    simp only [RVs] at r ⊢
    obtain ⟨y, q, e, r1, r2⟩ := r
    exact ⟨y, q, e, RV.mono p k w y r1, RVs.mono p k ws q r2⟩
end
theorem RPs.mono {κ : Type} {rk : W → κ → Prop} (p : ρ <+: ρ') (k : Tk H H') : ∀ (ws : List (W × W)) (xs : List (κ × LV)), RPs G rk ρ H ws xs → RPs G rk ρ' H' ws xs
  | [], _, r => r
  | (_, w) :: ws, xs, r => by
    simp only [RPs] at r ⊢
    obtain ⟨q, x, r', e, r1, r2, r3⟩ := r
    exact ⟨q, x, r', e, r1, RV.mono p k w x r2, RPs.mono p k ws r' r3⟩
theorem RFs.mono (p : ρ <+: ρ') (k : Tk H H') : ∀ (ws : List (Nat × W)) (xs : List (Str × LV)), RFs G ρ H ws xs → RFs G ρ' H' ws xs
  | [], _, r => r
  | (_, w) :: ws, xs, r => by
    simp only [RFs] at r ⊢
    obtain ⟨x, r', e, r1, r2, r3⟩ := r
    exact ⟨x, r', e, r1, RV.mono p k w x r2, RFs.mono p k ws r' r3⟩
theorem RO.mono (p : ρ <+: ρ') (k : Tk H H') (e : ∀ o, H a = some o → H' a = some o) {o : Ob} (r : RO G ρ H a o) : RO G ρ' H' a o := by
  cases o with
  | lst ws => obtain ⟨ys, q, r⟩ := r; exact ⟨ys, e _ q, RVs.mono p k _ _ r⟩
  | fro ws => exact r.elim
  | dK kvs => obtain ⟨ys, q, r⟩ := r; exact ⟨ys, e _ q, RPs.mono p k _ _ r⟩
  | dT kvs => obtain ⟨ys, q, r⟩ := r; exact ⟨ys, e _ q, RPs.mono p k _ _ r⟩
  | ins c fs => obtain ⟨C, dx, ys, c, q, r, z⟩ := r; exact ⟨C, dx, ys, c, e _ q, RFs.mono p k _ _ r, z⟩
  | clo _ _ => exact r.elim
  | dead => exact r.elim
theorem nodup_get {l : List Addr} (n : l.Nodup) {i j : Nat} (e : l[i]? = some a) (e' : l[j]? = some a) : i = j := by
  obtain ⟨h1, r1⟩ := List.getElem?_eq_some_iff.mp e
  obtain ⟨h2, r2⟩ := List.getElem?_eq_some_iff.mp e'
  exact (List.getElem_inj n).mp (r1.trans r2.symm)
theorem Rep.notin (R : Rep G ρ h H) (hp : H a = none) : a ∉ ρ := fun hm => by
  obtain ⟨o, e⟩ := R.there hm
  rw [hp] at e; cases e
theorem Rep.lt (R : Rep G ρ h H) {n : Nat} (e : ρ[n]? = some a) : n < h.n := by rw [← R.len]; exact (List.getElem?_eq_some_iff.mp e).1
theorem tk_upd {o : L2.HO} (hp : isSt (H a) = false) : Tk H (L2.upd H a o) := fun b e => by
  by_cases hb : b = a
  · subst hb; rw [hp] at e; cases e
  · rw [L2.upd_ne hb]
theorem snoc_get {l : List Addr} {a b : Addr} {i : Nat} (e : (l ++ [a])[i]? = some b) : l[i]? = some b ∨ (i = l.length ∧ b = a) := by
  rw [List.getElem?_append] at e
  by_cases q : i < l.length
  · rw [if_pos q] at e; exact .inl e
  · rw [if_neg q] at e
    cases z : i - l.length with
    | zero => rw [z] at e; simp at e; exact .inr ⟨by omega, e.symm⟩
    | succ k => rw [z] at e; simp at e
/-- something new -/
theorem Rep.new {o : L2.HO} {ob : Ob} (R : Rep G ρ h H) (hp : H a = none) (r : RO G (ρ ++ [a]) (L2.upd H a o) a ob) : Rep G (ρ ++ [a]) (h.new ob) (L2.upd H a o) ∧ To ρ H (ρ ++ [a]) (L2.upd H a o) ∧ (ρ ++ [a])[h.n]? = some a := by
  have na := R.notin hp
  have tk : Tk H (L2.upd H a o) := tk_upd (by rw [hp]; rfl)
  refine ⟨⟨by simp [R.len, Hp.n_new], ?_, fun i b e => ?_, tabs_at R.tabs fun u e => by rw [hp] at e; cases e⟩, ⟨List.prefix_append _ _, fun b u e n _ => ?_, fun b hb n u e => ?_⟩, ?_⟩
  · rw [List.nodup_append]
    exact ⟨R.nd, by simp, fun x hx y hy => by simp at hy; subst hy; exact fun e => na (e ▸ hx)⟩
  · rcases snoc_get e with e | ⟨rfl, rfl⟩
    · obtain ⟨u, g, ro⟩ := R.ob i b e
      have hi := R.lt e
      refine ⟨u, by rw [Hp.get_new, if_neg (by omega)]; exact g, ro.mono (List.prefix_append _ _) tk fun q hq => ?_⟩
      rw [L2.upd_ne (L2.ne_of_none hq hp)]; exact hq
    · exact ⟨ob, by rw [Hp.get_new, if_pos R.len], r⟩
  · rw [L2.upd_ne (L2.ne_of_none e hp)]; exact e
  · simp at hb
    rcases hb with hb | rfl
    · exact absurd hb n
    · rw [hp] at e; cases e
  · rw [← R.len]; simp
/-- something written -/
theorem Rep.set {o : L2.HO} {ob : Ob} {i : Nat} (R : Rep G ρ h H) (hi : ρ[i]? = some a) (r : RO G ρ (L2.upd H a o) a ob) : Rep G ρ (h.set i ob) (L2.upd H a o) ∧ To ρ H ρ (L2.upd H a o) := by
  obtain ⟨u0, g0, ro0⟩ := R.ob i a hi
  have tk : Tk H (L2.upd H a o) := tk_upd ro0.nt
  refine ⟨⟨R.len, R.nd, fun j b e => ?_, tabs_at R.tabs fun u e => ?_⟩, ⟨List.prefix_refl _, fun b u e n _ => ?_, fun b hb n => absurd hb n⟩⟩
  · by_cases hj : j = i
    · subst hj
      rw [hi] at e; cases e
      exact ⟨ob, by rw [Hp.get_set, if_pos rfl], r⟩
    · obtain ⟨u, g, ro⟩ := R.ob j b e
      have hb : b ≠ a := fun q => hj (nodup_get R.nd e (q ▸ hi))
      exact ⟨u, by rw [Hp.get_set, if_neg hj]; exact g, ro.mono (List.prefix_refl _) tk fun q hq => by rw [L2.upd_ne hb]; exact hq⟩
  · cases z : isOt u with
    | false => rfl
    | true => exact absurd (List.mem_of_getElem? hi) (R.not_ot e z)
  · have hb : b ≠ a := fun q => n (q ▸ List.mem_of_getElem? hi)
    rw [L2.upd_ne hb]; exact e
/-- something new that the reckoner does not number: a tuple -/
theorem Rep.aside {o : L2.HO} (R : Rep G ρ h H) (hp : H a = none) : Rep G ρ h (L2.upd H a o) ∧ To ρ H ρ (L2.upd H a o) := by
  have tk : Tk H (L2.upd H a o) := tk_upd (by rw [hp]; rfl)
  refine ⟨⟨R.len, R.nd, fun j b e => ?_, tabs_at R.tabs fun u e => by rw [hp] at e; cases e⟩, ⟨List.prefix_refl _, fun b u e n _ => ?_, fun b hb n => absurd hb n⟩⟩
  · obtain ⟨u, g, ro⟩ := R.ob j b e
    exact ⟨u, g, ro.mono (List.prefix_refl _) tk fun q hq => by rw [L2.upd_ne (L2.ne_of_none hq hp)]; exact hq⟩
  · rw [L2.upd_ne (L2.ne_of_none e hp)]; exact e

/-! ### slots -/
def RSl (G : Gx) (ρ : List Addr) (H : LH) (τ : Sl) (σ : L2.St) : Prop := τ.length = σ.length ∧ ∀ (i : Nat) (w : W), τ[i]? = some (some w) → ∃ x, σ[i]? = some (some x) ∧ RV G ρ H w x
theorem RSl.mono (p : ρ <+: ρ') (k : Tk H H') {τ : Sl} {σ : L2.St} (r : RSl G ρ H τ σ) : RSl G ρ' H' τ σ := ⟨r.1, fun i w e => let ⟨x, a, b⟩ := r.2 i w e; ⟨x, a, RV.mono p k _ _ b⟩⟩
theorem RSl.set {τ : Sl} {σ : L2.St} (r : RSl G ρ H τ σ) (i : Nat) {w : W} {x : LV} (q : RV G ρ H w x) : RSl G ρ H (τ.set i (some w)) (σ.set i (some x)) := by
  refine ⟨by simp [r.1], fun j v e => ?_⟩
  by_cases hj : i = j
  · subst hj
    by_cases hl : i < τ.length
    · rw [List.getElem?_set_self hl] at e
      cases e
      exact ⟨x, by rw [List.getElem?_set_self (by rw [← r.1]; exact hl)], q⟩
    · rw [List.getElem?_eq_none (by simp; omega)] at e; cases e
  · rw [List.getElem?_set_ne hj] at e ⊢
    exact r.2 j v e
theorem RSl.wipe {τ : Sl} {σ : L2.St} (r : RSl G ρ H τ σ) : ∀ vs : List Nat, RSl G ρ H (TX.wipe τ vs) (L2.wipe σ vs)
  | [] => r
  | v :: vs => by
    have q := RSl.wipe r vs
    refine ⟨by simp [TX.wipe, L2.wipe, q.1], fun j w e => ?_⟩
    unfold TX.wipe at e
    unfold L2.wipe
    by_cases hj : v = j
    · subst hj
      by_cases hl : v < (TX.wipe τ vs).length
      · rw [List.getElem?_set_self hl] at e; cases e
      · rw [List.getElem?_eq_none (by simp; omega)] at e; cases e
    · rw [List.getElem?_set_ne hj] at e ⊢
      exact q.2 j w e

/-! ### what follows an answer -/
/-- an exception: its class, its own dict -/
def RX (G : Gx) (ρ : List Addr) (H : LH) : Xn → Value → Option Addr → Prop
  | .own c fs, cl, d => ∃ C, G.ca c = some C ∧ cl = .ref C ∧ (fs = [] ∨ ∃ dd ys, d = some dd ∧ H dd = some (.xd ys) ∧ ∀ f w, getF f fs = some w → f < G.nn ∧ ∃ x, ys.lookup (G.an f) = some x ∧ RV G ρ H w x)
def Post (G : Gx) (W : L2.WX) (σ : L2.St) (ρ : List Addr) (H : LH) {α : Type} (P : α → Hp → List Addr → LH → Prop) : R α → Prop
  | .ok a h' => ∀ ρ' H', To ρ H ρ' H' → Rep G ρ' h' H' → P a h' ρ' H'
  | .ex e h' => ∀ ρ' H' cl d, To ρ H ρ' H' → Rep G ρ' h' H' → RX G ρ' H' e cl d → W cl d σ H'
  | .no => False
variable {W : L2.WX} {σ : L2.St} {α β : Type}
theorem Post.shift {P : α → Hp → List Addr → LH → Prop} {x : R α} (p : Post G W σ ρ H P x) (t : To ρ H ρ' H') : Post G W σ ρ' H' P x := by
  cases x with
  | ok a h1 => exact fun ρ2 H2 t2 R2 => p ρ2 H2 (t.trans t2) R2
  | ex e h1 => exact fun ρ2 H2 cl d t2 R2 rx => p ρ2 H2 cl d (t.trans t2) R2 rx
  | no => exact p
theorem Post.bind {P : β → Hp → List Addr → LH → Prop} {x : R α} {f : α → Hp → R β} (p : Post G W σ ρ H P (x.b f)) : Post G W σ ρ H (fun a h1 ρ1 H1 => Post G W σ ρ1 H1 P (f a h1)) x := by
  cases x with
  | ok a h1 => exact fun ρ2 H2 t2 R2 => Post.shift (x := f a h1) p t2
  | ex e h1 => exact p
  | no => exact p
theorem Post.imp {P P' : α → Hp → List Addr → LH → Prop} {x : R α} (p : Post G W σ ρ H P x) (h : ∀ a h' ρ' H', x = .ok a h' → To ρ H ρ' H' → Rep G ρ' h' H' → P a h' ρ' H' → P' a h' ρ' H') : Post G W σ ρ H P' x := by
  cases x with
  | ok a h1 => exact fun ρ2 H2 t2 R2 => h a h1 ρ2 H2 rfl t2 R2 (p ρ2 H2 t2 R2)
  | ex e h1 => exact p
  | no => exact p
end TX
end
section
set_option maxRecDepth 100000
set_option linter.unusedVariables false
/-! EvOps: each deed of the reckoner is the model's, by the hand layer's rules. -/
namespace TX
open PySem
variable {G : Gx} {ρ ρ' ρ'' : List Addr} {H H' H'' : LH} {h h' : Hp} {a : Addr}

/-! ### rows of values -/
theorem RVs.nil : RVs G ρ H [] [] := by simp [RVs]
theorem RVs.cons {w : W} {ws : List W} {x : LV} {xs : List LV} (r : RV G ρ H w x) (q : RVs G ρ H ws xs) : RVs G ρ H (w :: ws) (x :: xs) := by
  simp only [RVs]; exact ⟨x, xs, rfl, r, q⟩
theorem RVs.inv {w : W} {ws : List W} {xs : List LV} (r : RVs G ρ H (w :: ws) xs) : ∃ x r, xs = x :: r ∧ RV G ρ H w x ∧ RVs G ρ H ws r := by
  simpa only [RVs] using r
theorem RVs.inv0 {xs : List LV} (r : RVs G ρ H [] xs) : xs = [] := by simpa only [RVs] using r
theorem RVs.len : ∀ {ws : List W} {xs : List LV}, RVs G ρ H ws xs → xs.length = ws.length
  | [], xs, r => by rw [r.inv0]; rfl
  | w :: ws, xs, r => by obtain ⟨x, q, rfl, _, r⟩ := r.inv; simp [r.len]
theorem RVs.app : ∀ {ws vs : List W} {xs ys : List LV}, RVs G ρ H ws xs → RVs G ρ H vs ys → RVs G ρ H (ws ++ vs) (xs ++ ys)
  | [], _, xs, _, r, q => by rw [r.inv0]; exact q
  | w :: ws, _, xs, _, r, q => by obtain ⟨x, z, rfl, r1, r⟩ := r.inv; exact .cons r1 (r.app q)
theorem RVs.get : ∀ {ws : List W} {xs : List LV} {i : Nat} {w : W}, RVs G ρ H ws xs → ws[i]? = some w → ∃ x, xs[i]? = some x ∧ RV G ρ H w x
  | [], _, _, _, _, e => by simp at e
  | w :: ws, xs, 0, v, r, e => by obtain ⟨x, z, rfl, r1, r⟩ := r.inv; simp at e; subst e; exact ⟨x, rfl, r1⟩
  | w :: ws, xs, i + 1, v, r, e => by
    obtain ⟨x, z, rfl, r1, r⟩ := r.inv
    obtain ⟨y, e1, e2⟩ := r.get (i := i) (by simpa using e)
    exact ⟨y, by simpa using e1, e2⟩
theorem RVs.take : ∀ {ws : List W} {xs : List LV} (n : Nat), RVs G ρ H ws xs → RVs G ρ H (ws.take n) (xs.take n)
  | [], xs, n, r => by rw [r.inv0]; simp [RVs.nil]
  | w :: ws, xs, 0, r => by simp [RVs.nil]
  | w :: ws, xs, n + 1, r => by obtain ⟨x, z, rfl, r1, r⟩ := r.inv; exact .cons r1 (r.take n)
theorem RVs.drop : ∀ {ws : List W} {xs : List LV} (n : Nat), RVs G ρ H ws xs → RVs G ρ H (ws.drop n) (xs.drop n)
  | [], xs, n, r => by rw [r.inv0]; simp [RVs.nil]
  | w :: ws, xs, 0, r => r
  | w :: ws, xs, n + 1, r => by obtain ⟨x, z, rfl, r1, r⟩ := r.inv; exact r.drop n
theorem RVs.rev : ∀ {ws : List W} {xs : List LV}, RVs G ρ H ws xs → RVs G ρ H ws.reverse xs.reverse
  | [], xs, r => by rw [r.inv0]; exact .nil
  | w :: ws, xs, r => by
    obtain ⟨x, z, rfl, r1, r⟩ := r.inv
    rw [List.reverse_cons, List.reverse_cons]
    exact r.rev.app (.cons r1 .nil)
theorem RVs.set : ∀ {ws : List W} {xs : List LV} (i : Nat) {w : W} {x : LV}, RVs G ρ H ws xs → RV G ρ H w x → RVs G ρ H (ws.set i w) (xs.set i x)
  | [], xs, i, _, _, r, _ => by rw [r.inv0]; exact .nil
  | w :: ws, xs, 0, _, _, r, q => by obtain ⟨y, z, rfl, r1, r⟩ := r.inv; exact .cons q r
  | w :: ws, xs, i + 1, _, _, r, q => by obtain ⟨y, z, rfl, r1, r⟩ := r.inv; exact .cons r1 (r.set i q)
theorem RVs.dropLast {ws : List W} {xs : List LV} (r : RVs G ρ H ws xs) : RVs G ρ H ws.dropLast xs.dropLast := by
  rw [List.dropLast_eq_take, List.dropLast_eq_take, r.len]; exact r.take _
theorem RVs.rep {ws : List W} {xs : List LV} (r : RVs G ρ H ws xs) : ∀ n, RVs G ρ H (TX.rep ws n) ((List.replicate n xs).flatten)
  | 0 => .nil
  | n + 1 => by rw [List.replicate_succ, List.flatten_cons]; exact r.app (r.rep n)
theorem RVs.strs : ∀ {ws : List W} {xs : List LV} {ss : List (List Nat)}, RVs G ρ H ws xs → strs? ws = some ss → xs = (ss.map S').map L2.V.str
  | [], xs, ss, r, e => by simp only [strs?, Option.some.injEq] at e; subst e; exact r.inv0
  | w :: ws, xs, ss, r, e => by
    obtain ⟨x, z, rfl, r1, r2⟩ := r.inv
    cases w with
    | str s =>
      simp only [strs?] at e
      obtain ⟨ts, e1, e2⟩ := Option.map_eq_some_iff.mp e
      subst e2
      simp only [RV] at r1
      rw [r1, RVs.strs r2 e1]; rfl
    | _ => simp only [strs?] at e; cases e
theorem RVs.ints : ∀ {ws : List W} {xs : List LV} {ss : List Int}, RVs G ρ H ws xs → ints? ws = some ss → xs = ss.map L2.V.int
  | [], xs, ss, r, e => by simp only [ints?, Option.some.injEq] at e; subst e; exact r.inv0
  | w :: ws, xs, ss, r, e => by
    obtain ⟨x, z, rfl, r1, r2⟩ := r.inv
    cases w with
    | int s =>
      simp only [ints?] at e
      obtain ⟨ts, e1, e2⟩ := Option.map_eq_some_iff.mp e
      subst e2
      simp only [RV] at r1
      rw [r1, RVs.ints r2 e1]; rfl
    | _ => simp only [ints?] at e; cases e
theorem RVs.bools : ∀ {ws : List W} {xs : List LV} {ss : List Bool}, RVs G ρ H ws xs → bools? ws = some ss → xs = ss.map L2.V.bl
  | [], xs, ss, r, e => by simp only [bools?, Option.some.injEq] at e; subst e; exact r.inv0
  | w :: ws, xs, ss, r, e => by
    obtain ⟨x, z, rfl, r1, r2⟩ := r.inv
    cases w with
    | bl s =>
      simp only [bools?] at e
      obtain ⟨ts, e1, e2⟩ := Option.map_eq_some_iff.mp e
      subst e2
      simp only [RV] at r1
      rw [r1, RVs.bools r2 e1]; rfl
    | _ => simp only [bools?] at e; cases e
theorem RVs.ofStrs : ∀ ss : List (List Nat), RVs G ρ H (ss.map W.str) ((ss.map S').map L2.V.str)
  | [] => .nil
  | s :: ss => .cons (by simp [RV]) (RVs.ofStrs ss)
theorem RVs.ofInts : ∀ ss : List Int, RVs G ρ H (ss.map W.int) (ss.map L2.V.int)
  | [] => .nil
  | s :: ss => .cons (by simp [RV]) (RVs.ofInts ss)
theorem RVs.mono' (t : To ρ H ρ' H') (R : Rep G ρ h H) {ws : List W} {xs : List LV} (r : RVs G ρ H ws xs) : RVs G ρ' H' ws xs := RVs.mono t.pre (t.tk R) _ _ r
theorem RV.mono' (t : To ρ H ρ' H') (R : Rep G ρ h H) {ws : W} {xs : LV} (r : RV G ρ H ws xs) : RV G ρ' H' ws xs := RV.mono t.pre (t.tk R) _ _ r

/-! ### an object of the reckoner's -/
theorem Rep.at (R : Rep G ρ h H) {n : Nat} (e : ρ[n]? = some a) {o : Ob} (g : h.get n = some o) : RO G ρ H a o := by
  obtain ⟨u, g', r⟩ := R.ob n a e
  rw [g] at g'; cases g'; exact r
theorem Rep.lst (R : Rep G ρ h H) {n : Nat} (e : ρ[n]? = some a) {ws : List W} (g : h.get n = some (.lst ws)) : ∃ ys, H a = some (.lst ys) ∧ RVs G ρ H ws ys := R.at e g
theorem Rep.seq (R : Rep G ρ h H) {n : Nat} (e : ρ[n]? = some a) {ws : List W} (g : h.lst? n = some ws) : ∃ ys, L2.SqL G.K H a ys ∧ RVs G ρ H ws ys := by
  unfold Hp.lst? at g
  split at g
  · rename_i xs q
    cases g
    obtain ⟨ys, e1, e2⟩ := R.lst e q
    exact ⟨ys, .inl (.inl e1), e2⟩
  · rename_i xs q
    exact (R.at e q).elim
  · cases g

/-! ### a deed's answer -/
def Val (G : Gx) (Q : L2.VK) (ρ : List Addr) (H : LH) (o : P2) : Prop := match o with
  | some (w, h') => ∀ ρ' H' x, To ρ H ρ' H' → Rep G ρ' h' H' → RV G ρ' H' w x → Q x H'
  | none => False
theorem Val.here {Q : L2.VK} {w : W} {x : LV} (v : Val G Q ρ H (some (w, h))) (R : Rep G ρ h H) (r : RV G ρ H w x) : Q x H := v ρ H x .refl R r
theorem Val.new {Q : L2.VK} {ob : Ob} {o : L2.HO} (v : Val G Q ρ H (some (.obj h.n, h.new ob))) (R : Rep G ρ h H) {p : Addr} (hp : H p = none) (r : RO G (ρ ++ [p]) (L2.upd H p o) p ob) : Q (.ref p) (L2.upd H p o) := by
  obtain ⟨R', t, e⟩ := R.new hp r
  exact v _ _ _ t R' (by simp only [RV]; exact ⟨p, rfl, e⟩)
theorem Rep.newL (R : Rep G ρ h H) {p : Addr} (hp : H p = none) {ws : List W} {ys : List LV} (r : RVs G ρ H ws ys) : RO G (ρ ++ [p]) (L2.upd H p (.lst ys)) p (.lst ws) :=
  ⟨ys, L2.upd_same, RVs.mono (List.prefix_append _ _) (tk_upd (by rw [hp]; rfl)) _ _ r⟩
theorem Val.newL {Q : L2.VK} {ws : List W} {ys : List LV} (v : Val G Q ρ H (some (.obj h.n, h.new (.lst ws)))) (R : Rep G ρ h H) (r : RVs G ρ H ws ys) {p : Addr} (hp : H p = none) : Q (.ref p) (L2.upd H p (.lst ys)) := v.new R hp (R.newL hp r)
theorem Val.tup {Q : L2.VK} {ws : List W} {ys : List LV} (v : Val G Q ρ H (some (.tup ws, h))) (R : Rep G ρ h H) (r : RVs G ρ H ws ys) {p : Addr} (hp : H p = none) : Q (.ref p) (L2.upd H p (.tup ys)) := by
  obtain ⟨R', t⟩ := R.aside (o := .tup ys) hp
  refine v _ _ _ t R' ?_
  simp only [RV]
  exact ⟨p, ys, rfl, L2.upd_same, r.mono' t R⟩
/-- written in its place -/
theorem Val.set {Q : L2.VK} {w : W} {x : LV} {n : Nat} {ob : Ob} {o : L2.HO} (v : Val G Q ρ H (some (w, h.set n ob))) (R : Rep G ρ h H) (e : ρ[n]? = some a) (r : RO G ρ (L2.upd H a o) a ob) (q : RV G ρ (L2.upd H a o) w x) : Q x (L2.upd H a o) := by
  obtain ⟨R', t⟩ := R.set e r
  exact v _ _ _ t R' q

theorem lim_line : LIM ≤ sizeLine := by rw [sizeLine_eq]; decide
theorem lim_le {n : Nat} (e : n ≤ LIM) : n ≤ sizeLine := Nat.le_trans e lim_line

/-! ### operators -/
theorem S'_len (s : List Nat) : (S' s).length = s.length := rfl
theorem S'_app (s t : List Nat) : S' s ++ S' t = S' (s ++ t) := by
  show (⟨s.toArray ++ t.toArray⟩ : Str) = ⟨(s ++ t).toArray⟩
  simp
theorem foldl_app {α : Type} : ∀ (n : Nat) (s : List α) (acc : Array α), (List.replicate n s.toArray).foldl (· ++ ·) acc = (acc.toList ++ rep s n).toArray
  | 0, s, acc => by simp [rep]
  | n + 1, s, acc => by
    rw [List.replicate_succ, List.foldl_cons, foldl_app n s, rep]
    simp
theorem rep_len {α : Type} (s : List α) : ∀ n, (rep s n).length = n * s.length
  | 0 => by simp [rep]
  | n + 1 => by rw [rep, List.length_append, rep_len s n, Nat.succ_mul]; omega
theorem op_mulS {X : L2.Cx} : L2.OpR X (binaryOp .Mult) (fun x y H Q => ∃ (s : List Nat) (k : Int), x = .str (S' s) ∧ y = .int k ∧ 2 ≤ k ∧ k ≤ 1000 ∧ 0 < s.length ∧ s.length ≤ 1000 ∧ Q (.str (S' (rep s k.toNat))) H) := by
  intro pins s σ H x y v u Q I rx ry h
  obtain ⟨s, k, rfl, rfl, h1, h2, h3, h4, q⟩ := h
  obtain ⟨t, rfl⟩ := rx
  obtain ⟨t', rfl⟩ := ry
  have hn1 : ¬ k < 1 := by omega
  have hlen : (S' s).length = s.length := rfl
  have hne : (k == 1 || (S' s).length == 0) = false := by
    rw [hlen, show (k == 1) = false from beq_eq_false_iff_ne.mpr (by omega), show (s.length == 0) = false from beq_eq_false_iff_ne.mpr (by omega)]; rfl
  refine P.mul_str ?_ (fun _ _ => ?_) (fun _ _ => ?_) ?_
  · rw [decide_eq_false (show ¬ k < -(2 ^ 63 : Int) by omega), decide_eq_false (show ¬ k ≥ 2 ^ 63 by omega)]; rfl
  · rw [hlen]
    have : (2 ^ 63 - 1 : Int) / k ≥ 1000 := by
      refine (Int.le_ediv_iff_mul_le (by omega)).mpr ?_
      omega
    omega
  · rw [hlen]
    have h5 : s.length * k.toNat ≤ 1000 * 1000 := Nat.mul_le_mul h4 (by omega)
    have h6 : s.length * k.toNat ≤ sizeLine := Nat.le_trans h5 (by rw [sizeLine_eq]; decide)
    unfold Builtin.Str.tooLong
    exact decide_eq_false (by omega)
  · rw [if_neg hn1, if_neg (by rw [hne]; decide)]
    have h5 : s.length * k.toNat ≤ 1000 * 1000 := Nat.mul_le_mul h4 (by omega)
    have h6 : s.length * k.toNat ≤ sizeLine := Nat.le_trans h5 (by rw [sizeLine_eq]; decide)
    have e : (⟨(List.replicate k.toNat (S' s).cps).foldl (· ++ ·) #[]⟩ : Str) = S' (rep s k.toNat) := by
      show (⟨(List.replicate k.toNat s.toArray).foldl (· ++ ·) #[]⟩ : Str) = _
      rw [foldl_app]
      rfl
    rw [e]
    refine ⟨?_, .str _, H, I.tok _, ⟨_, rfl⟩, q⟩
    rw [S'_len, rep_len]
    rw [Nat.mul_comm]; exact h6
theorem rv_tup {ws : List W} {x : LV} (r : RV G ρ H (.tup ws) x) : ∃ a ys, x = .ref a ∧ L2.SqT G.K H a ys ∧ RVs G ρ H ws ys := by
  simp only [RV] at r
  obtain ⟨a, ys, e, t, q⟩ := r
  exact ⟨a, ys, e, t.sq, q⟩
theorem rv_tup' {ws : List W} {x : LV} (r : RV G ρ H (.tup ws) x) : ∃ a ys, x = .ref a ∧ H a = some (.tup ys) ∧ RVs G ρ H ws ys := by
  simp only [RV] at r
  exact r
theorem rv_obj {n : Nat} {x : LV} (r : RV G ρ H (.obj n) x) : ∃ a, x = .ref a ∧ ρ[n]? = some a := by simpa only [RV] using r
theorem lf_lit {s : List Nat} : (S' s : Str) = ⟨s.toArray⟩ := rfl

section
variable {X : L2.Cx}
def rB (G : Gx) (f : W → W → Hp → P2) : L2.R2 := fun x y H Q => ∃ ρ h a b, Rep G ρ h H ∧ RV G ρ H a x ∧ RV G ρ H b y ∧ Val G Q ρ H (f a b h)
def bo : BO → Operator
  | .add => .Add | .sub => .Sub | .mul => .Mult | .fdv => .FloorDiv | .mod => .Mod | .pow => .Pow
theorem op_all (hK : X.K = G.K) (o : BO) : L2.OpR X (binaryOp (bo o)) (rB G (binop o)) := by
  intro pins s σ H x y v u Q I rx ry q
  obtain ⟨ρ, h, wa, wb, R, ra, rb, V⟩ := q
  unfold binop at V
  split at V
  · simp only [RV] at ra rb; subst ra rb
    exact L2.op_add pins s σ H _ _ v u Q I rx ry ⟨_, _, rfl, rfl, V.here R (by simp [RV])⟩
  · split at V
    · rename_i hl
      simp only [RV] at ra rb; subst ra rb
      exact L2.op_add_str pins s σ H _ _ v u Q I rx ry ⟨_, _, rfl, rfl, lim_le hl, V.here R (by simp only [RV]; rw [S'_app])⟩
    · exact V.elim
  · split at V
    · rename_i hl
      obtain ⟨a, xs, rfl, ta, qa⟩ := rv_tup ra
      obtain ⟨b, ys, rfl, tb, qb⟩ := rv_tup rb
      refine L2.op_catA pins s σ H _ _ v u Q I rx ry ⟨a, b, xs, ys, rfl, rfl, hK ▸ ta, hK ▸ tb, by rw [qa.len, qb.len]; exact lim_le hl, fun e => ?_, fun e e' => ?_, fun _ _ p hp => ?_⟩
      · have e2 : xs.length = 0 := by rw [e]; rfl
        rw [qa.len] at e2
        have e3 := List.eq_nil_of_length_eq_zero e2
        subst e3
        exact V.here R rb
      · have e2 : ys.length = 0 := by rw [e']; rfl
        rw [qb.len] at e2
        have e3 := List.eq_nil_of_length_eq_zero e2
        subst e3
        rw [List.append_nil] at V
        exact V.here R ra
      · exact V.tup R (qa.app qb) hp
    · exact V.elim
  · split at V
    · rename_i g1 g2
      split at V
      · rename_i hl
        obtain ⟨a, rfl, ea⟩ := rv_obj ra
        obtain ⟨b, rfl, eb⟩ := rv_obj rb
        obtain ⟨xs, e1, qa⟩ := R.lst ea g1
        obtain ⟨ys, e2, qb⟩ := R.lst eb g2
        exact L2.op_cat pins s σ H _ _ v u Q I rx ry ⟨a, b, xs, ys, rfl, rfl, e1, e2, by rw [qa.len, qb.len]; exact lim_le hl, fun p hp => V.newL R (qa.app qb) hp⟩
      · exact V.elim
    · exact V.elim
  · simp only [RV] at ra rb; subst ra rb
    exact L2.op_sub pins s σ H _ _ v u Q I rx ry ⟨_, _, rfl, rfl, V.here R (by simp [RV])⟩
  · rename_i i j
    cases hb : okI i || okI j with
    | false => rw [hb] at V; exact V.elim
    | true =>
      rw [hb] at V
      simp only [RV] at ra rb; subst ra rb
      refine L2.op_mul pins s σ H _ _ v u Q I rx ry ⟨_, _, rfl, rfl, ?_, V.here R (by simp [RV])⟩
      unfold okI at hb
      simp only [Bool.or_eq_true, Bool.and_eq_true, decide_eq_true_eq] at hb
      exact hb
  · split at V
    · rename_i g1
      split at V
      · rename_i hl
        simp only [RV] at rb; subst rb
        obtain ⟨a, rfl, ea⟩ := rv_obj ra
        obtain ⟨xs, e1, qa⟩ := R.lst ea g1
        refine L2.op_rep pins s σ H _ _ v u Q I rx ry ⟨a, _, xs, rfl, rfl, e1, by omega, by omega, ?_, fun p hp => V.newL R (qa.rep _) hp⟩
        rw [qa.len, sizeLine_eq]
        exact Nat.le_trans (Nat.mul_le_mul hl.2.2 (show _ ≤ 1000 by omega)) (by decide)
      · exact V.elim
    · exact V.elim
  · split at V
    · rename_i hl
      simp only [RV] at ra rb; subst ra rb
      exact op_mulS pins s σ H _ _ v u Q I rx ry ⟨_, _, rfl, rfl, hl.1, hl.2.1, hl.2.2.1, hl.2.2.2, V.here R (by simp only [RV])⟩
    · exact V.elim
  · split at V
    · rename_i hl
      simp only [RV] at ra rb; subst ra rb
      exact L2.op_mod pins s σ H _ _ v u Q I rx ry ⟨_, _, rfl, rfl, hl, V.here R (by simp [RV])⟩
    · exact V.elim
  · split at V
    · rename_i hl
      simp only [RV] at ra rb; subst ra rb
      exact L2.op_fdiv pins s σ H _ _ v u Q I rx ry ⟨_, _, rfl, rfl, hl, V.here R (by simp [RV])⟩
    · exact V.elim
  · split at V
    · rename_i hl
      simp only [RV] at ra rb; subst ra rb
      exact L2.op_pow pins s σ H _ _ v u Q I rx ry ⟨_, _, rfl, rfl, ⟨hl.1, by omega, hl.2.2⟩, V.here R (by simp [RV])⟩
    · exact V.elim
  · exact V.elim
end
end TX
end
section
set_option maxRecDepth 100000
set_option linter.unusedVariables false
/-! EvCmp: comparisons. -/
namespace TX
open PySem
variable {G : Gx} {ρ ρ' ρ'' : List Addr} {H H' H'' : LH} {h h' : Hp} {a : Addr}
theorem dp_all {ds : W → PyData} {q : W → Bool} (one : ∀ w x, q w = true → RV G ρ H w x → L2.Dp G.K H x (ds w)) : ∀ (ws : List W) (xs : List LV), ws.all q = true → RVs G ρ H ws xs → L2.DpAll G.K H xs (ws.map ds)
  | [], xs, _, r => by rw [r.inv0]; exact .nil
  | w :: ws, xs, hq, r => by
    obtain ⟨x, z, rfl, r1, r2⟩ := r.inv
    rw [List.all_cons, Bool.and_eq_true] at hq
    exact .cons (one w x hq.1 r1) (dp_all one ws z hq.2 r2)
theorem data_dp (R : Rep G ρ h H) : ∀ (f : Nat) (w : W) (x : LV), dataQ h f w = true → RV G ρ H w x → L2.Dp G.K H x (toD h f w)
  | 0, _, _, e, _ => by simp [dataQ] at e
  | f + 1, w, x, e, r => by
    cases w with
    | non => simp only [RV] at r; subst r; exact .non
    | bl b => simp only [RV] at r; subst r; exact .bl b
    | int i => simp only [RV] at r; subst r; exact .int i
    | str s => simp only [RV] at r; subst r; exact .str _
    | tup xs =>
      obtain ⟨a, ys, rfl, t, q⟩ := rv_tup r
      exact .tup t (dp_all (data_dp R f) xs ys (by simpa [dataQ] using e) q)
    | obj n =>
      obtain ⟨a, rfl, ea⟩ := rv_obj r
      simp only [dataQ] at e
      cases g : h.lst? n with
      | none => rw [g] at e; cases e
      | some xs =>
        rw [g] at e
        obtain ⟨ys, s, q⟩ := R.seq ea g
        simp only [toD, g]
        exact .lst s (dp_all (data_dp R f) xs ys e q)
    | _ => simp [dataQ] at e
theorem lay_all {ds : W → PyData} {q : W → Bool} (one : ∀ w, q w = true → (ds w).canLay0 = true) : ∀ (ws : List W), ws.all q = true → PyData.canLayAll0 (ws.map ds) = true
  | [], _ => by simp [PyData.canLayAll0]
  | w :: ws, hq => by
    rw [List.all_cons, Bool.and_eq_true] at hq
    simp only [List.map_cons, PyData.canLayAll0, Bool.and_eq_true]
    exact ⟨one w hq.1, lay_all one ws hq.2⟩
theorem data_lay : ∀ (f : Nat) (w : W), dataQ h f w = true → (toD h f w).canLay0 = true
  | 0, _, e => by simp [dataQ] at e
  | f + 1, w, e => by
    cases w with
    | non => simp [toD, PyData.canLay0]
    | bl b => simp [toD, PyData.canLay0]
    | int i => simp [toD, PyData.canLay0]
    | str s =>
      simp only [toD, PyData.canLay0, PyData.strOk]
      simp only [dataQ, List.all_eq_true] at e
      rw [Array.all_eq_true_iff_forall_mem]
      intro c hc
      have := e c (by simpa using hc)
      rw [Nat.blt_eq] at this
      exact decide_eq_true this
    | tup xs =>
      simp only [toD, PyData.canLay0]
      exact lay_all (data_lay f) xs (by simpa [dataQ] using e)
    | obj n =>
      simp only [dataQ] at e
      cases g : h.lst? n with
      | none => rw [g] at e; cases e
      | some xs =>
        rw [g] at e
        simp only [toD, g, PyData.canLay0]
        exact lay_all (data_lay f) xs e
    | _ => simp [dataQ] at e
theorem dep_all {ds : W → PyData} {m : Nat} (one : ∀ w, (ds w).depth ≤ m) : ∀ (ws : List W), PyData.depthAll (ws.map ds) ≤ m
  | [] => by simp [PyData.depthAll]
  | w :: ws => by
    have h1 := dep_all one ws
    have h2 := one w
    simp only [List.map_cons, PyData.depthAll]
    omega
theorem data_dep : ∀ (f : Nat) (w : W), (toD h f w).depth ≤ f
  | 0, _ => by simp [toD, PyData.depth]
  | f + 1, w => by
    cases w with
    | tup xs =>
      have := dep_all (data_dep f) xs
      simp only [toD, PyData.depth]; omega
    | obj n =>
      simp only [toD]
      cases g : h.lst? n with
      | none => simp [PyData.depth]
      | some xs =>
        have := dep_all (data_dep f) xs
        simp only [PyData.depth]; omega
    | _ => simp [toD, PyData.depth]
theorem data_shaped {f : Nat} {w : W} (hf : f ≤ 64) (e : dataQ h f w = true) : SeqAt.shaped (toD h f w) = true := by
  unfold SeqAt.shaped
  rw [Bool.and_eq_true]
  exact ⟨data_lay f w e, decide_eq_true (Nat.le_trans (data_dep f w) hf)⟩
theorem natEq_iff : ∀ x y : List Nat, natEq x y = decide (x = y)
  | [], [] => by simp [natEq]
  | [], _ :: _ => by simp [natEq]
  | _ :: _, [] => by simp [natEq]
  | a :: x, b :: y => by
    rw [natEq, natEq_iff x y]
    by_cases e : a = b
    · subst e
      rw [show Nat.beq a a = true from Nat.beq_refl a]
      simp
    · have q : Nat.beq a b = false := by
        cases z : Nat.beq a b with
        | false => rfl
        | true => exact absurd (Nat.eq_of_beq_eq_true z) e
      rw [q]
      simp [e]
theorem S'_inj {x y : List Nat} : S' x = S' y ↔ x = y := by
  constructor
  · intro e
    have := congrArg (fun z : Str => z.cps.toList) e
    simpa using this
  · intro e; rw [e]
theorem natEq_S (x y : List Nat) : natEq x y = (S' x == S' y) := by
  rw [natEq_iff]
  by_cases e : x = y
  · subst e; simp
  · rw [decide_eq_false e]
    exact (beq_eq_false_iff_ne.mpr fun q => e (S'_inj.mp q)).symm
theorem eqL_all {ds : W → PyData} {q : W → Bool} {p : W → W → Bool} (one : ∀ a b, q a = true → q b = true → p a b = PyData.eqv (ds a) (ds b)) : ∀ (xs ys : List W), xs.all q = true → ys.all q = true → eqL p xs ys = PyData.eqvAll (xs.map ds) (ys.map ds)
  | [], [], _, _ => by simp [eqL, PyData.eqvAll]
  | [], _ :: _, _, _ => by simp [eqL, PyData.eqvAll]
  | _ :: _, [], _, _ => by simp [eqL, PyData.eqvAll]
  | x :: xs, y :: ys, h1, h2 => by
    rw [List.all_cons, Bool.and_eq_true] at h1 h2
    rw [eqL, List.map_cons, List.map_cons, PyData.eqvAll, one x y h1.1 h2.1, eqL_all one xs ys h1.2 h2.2]
theorem eqD_eqv : ∀ (f : Nat) (a b : W), dataQ h f a = true → dataQ h f b = true → eqD h f a b = PyData.eqv (toD h f a) (toD h f b)
  | 0, _, _, e, _ => by simp [dataQ] at e
  | f + 1, a, b, ea, eb => by
    cases a <;> cases b <;> first
      | (simp [dataQ] at ea; done)
      | (simp [dataQ] at eb; done)
      | (simp only [toD, eqD, PyData.eqv, b2i]; done)
      | (simp only [dataQ] at ea eb; split at ea <;> rename_i g <;> first | (cases ea; done) | (simp only [toD, eqD, g, PyData.eqv]; done))
      | (simp only [dataQ] at ea eb; split at eb <;> rename_i g <;> first | (cases eb; done) | (simp only [toD, eqD, g, PyData.eqv]; done))
      | skip
    all_goals try simp only [toD, eqD, PyData.eqv]
    · rename_i b i
      cases b <;> (rw [Bool.eq_iff_iff]; simp only [b2i]; exact ⟨fun z => by simpa using of_decide_eq_true z, fun z => decide_eq_true (by simpa using z)⟩)
    · rename_i i b
      cases b <;> (rw [Bool.eq_iff_iff]; simp only [b2i]; exact ⟨fun z => by simpa using of_decide_eq_true z, fun z => decide_eq_true (by simpa using z)⟩)
    · exact Bool.eq_iff_iff.mpr (by simp)
    · exact natEq_S _ _
    · rename_i xs ys
      exact eqL_all (eqD_eqv f) xs ys (by simpa [dataQ] using ea) (by simpa [dataQ] using eb)
    · rename_i n m
      simp only [dataQ] at ea eb
      cases g1 : h.lst? n with
      | none => rw [g1] at ea; cases ea
      | some xs =>
        cases g2 : h.lst? m with
        | none => rw [g2] at eb; cases eb
        | some ys =>
          rw [g1] at ea
          rw [g2] at eb
          simp only [PyData.eqv]
          exact eqL_all (eqD_eqv f) xs ys ea eb

theorem eq_rel {K : PySem.W.Frag} (R : Rep G ρ h H) {a b : W} {x y : LV} {r : Bool} (e : eqW h a b = some r) (ra : RV G ρ H a x) (rb : RV G ρ H b y) :
    (L2.scal x y = true ∧ decide (x = y) = r) ∨ ∃ d e, L2.Dp G.K H x d ∧ L2.Dp G.K H y e ∧ SeqAt.shaped d = true ∧ SeqAt.shaped e = true ∧ PyData.eqv d e = r := by
  have gen : (bif dataQ h DEEP a && dataQ h DEEP b then some (eqD h DEEP a b) else none) = some r → ∃ d e, L2.Dp G.K H x d ∧ L2.Dp G.K H y e ∧ SeqAt.shaped d = true ∧ SeqAt.shaped e = true ∧ PyData.eqv d e = r := fun q => by
    cases z : dataQ h DEEP a && dataQ h DEEP b with
    | false => rw [z] at q; cases q
    | true =>
      rw [z] at q
      rw [Bool.and_eq_true] at z
      refine ⟨_, _, data_dp R DEEP a x z.1 ra, data_dp R DEEP b y z.2 rb, data_shaped (by decide) z.1, data_shaped (by decide) z.2, ?_⟩
      rw [← eqD_eqv DEEP a b z.1 z.2]
      exact Option.some.inj q
  unfold eqW at e
  split at e
  · simp only [RV] at ra rb; subst ra rb
    exact .inl ⟨rfl, by rw [← Option.some.inj e]; simp⟩
  · simp only [RV] at ra rb; subst ra rb
    refine .inl ⟨rfl, ?_⟩
    rw [← Option.some.inj e, natEq_iff]
    exact Bool.eq_iff_iff.mpr (by simp)
  · exact .inr (gen e)

section
variable {X : L2.Cx}
def co : CO → CmpOp
  | .eq => .Eq | .ne => .NotEq | .lt => .Lt | .le => .LtE | .gt => .Gt | .ge => .GtE | .is => .Is | .isn => .IsNot | .inn => .In | .nin => .NotIn
def rC (G : Gx) (f : W → W → Hp → Option Bool) : L2.R2 := fun x y H Q => ∃ ρ h a b, Rep G ρ h H ∧ RV G ρ H a x ∧ RV G ρ H b y ∧ ∃ r, f a b h = some r ∧ Q (.bl r) H
theorem eq_ok (hK : X.K = G.K) (hu : X.A.units + 65 < cLine) : L2.OpR X (compareOp .Eq) (rC G fun a b h => eqW h a b) := by
  intro pins s σ H x y v u Q I rx ry q
  obtain ⟨ρ, h, wa, wb, R, ra, rb, r, e, q⟩ := q
  rcases eq_rel (K := G.K) R e ra rb with ⟨e1, e2⟩ | ⟨d, e', e1, e2, e3, e4, e5⟩
  · exact L2.op_eq pins s σ H _ _ v u Q I rx ry ⟨e1, by rw [e2]; exact q⟩
  · exact L2.op_eqD (by omega) pins s σ H _ _ v u Q I rx ry ⟨d, e', hK ▸ e1, hK ▸ e2, e3, e4, by rw [e5]; exact q⟩
theorem ne_ok (hK : X.K = G.K) (hu : X.A.units + 65 < cLine) : L2.OpR X (compareOp .NotEq) (rC G fun a b h => (eqW h a b).map (!·)) := by
  intro pins s σ H x y v u Q I rx ry q
  obtain ⟨ρ, h, wa, wb, R, ra, rb, r, e, q⟩ := q
  obtain ⟨r', e0, rfl⟩ := Option.map_eq_some_iff.mp e
  rcases eq_rel (K := G.K) R e0 ra rb with ⟨e1, e2⟩ | ⟨d, e', e1, e2, e3, e4, e5⟩
  · exact L2.op_ne pins s σ H _ _ v u Q I rx ry ⟨e1, by rw [e2]; exact q⟩
  · exact L2.op_neD (by omega) pins s σ H _ _ v u Q I rx ry ⟨d, e', hK ▸ e1, hK ▸ e2, e3, e4, by rw [e5]; exact q⟩
theorem is_rel {a b : W} {x y : LV} {r : Bool} (e : isW a b = some r) (ra : RV G ρ H a x) (rb : RV G ρ H b y) : (y = .non ∧ decide (x = .non) = r) ∨ ∃ p q, x = .bl p ∧ y = .bl q ∧ decide (p = q) = r := by
  unfold isW at e
  split at e
  · simp only [RV] at rb; subst rb
    refine .inl ⟨rfl, ?_⟩
    cases a with
    | non => simp only [RV] at ra; subst ra; simpa using e
    | tup ws => obtain ⟨a, ys, rfl, _⟩ := rv_tup ra; simpa using e
    | obj n => obtain ⟨a, rfl, _⟩ := rv_obj ra; simpa using e
    | lis ws => simp only [RV] at ra; obtain ⟨a, ys, rfl, _⟩ := ra; simpa using e
    | fn g => simp only [RV] at ra; obtain ⟨a, rfl, _⟩ := ra; simpa using e
    | cls g => simp only [RV] at ra; obtain ⟨a, rfl, _⟩ := ra; simpa using e
    | _ => simp only [RV] at ra; subst ra; simpa using e
  · split at e
    · simp only [RV] at ra rb; subst ra rb
      refine .inr ⟨_, _, rfl, rfl, ?_⟩
      rw [← Option.some.inj e]
      exact (Bool.beq_eq_decide_eq _ _).symm
    · cases e
  · cases e
theorem is_ok : L2.OpR X (compareOp .Is) (rC G fun a b h => isW a b) := by
  intro pins s σ H x y v u Q I rx ry q
  obtain ⟨ρ, h, wa, wb, R, ra, rb, r, e, q⟩ := q
  rcases is_rel e ra rb with ⟨e1, e2⟩ | ⟨p, p', e1, e2, e3⟩
  · exact L2.op_isN pins s σ H _ _ v u Q I rx ry ⟨e1, by rw [e2]; exact q⟩
  · exact L2.op_is_bl pins s σ H _ _ v u Q I rx ry ⟨p, p', e1, e2, by rw [e3]; exact q⟩
theorem isn_ok : L2.OpR X (compareOp .IsNot) (rC G fun a b h => (isW a b).map (!·)) := by
  intro pins s σ H x y v u Q I rx ry q
  obtain ⟨ρ, h, wa, wb, R, ra, rb, r, e, q⟩ := q
  obtain ⟨r', e0, rfl⟩ := Option.map_eq_some_iff.mp e
  rcases is_rel e0 ra rb with ⟨e1, e2⟩ | ⟨p, p', e1, e2, e3⟩
  · exact L2.op_notN pins s σ H _ _ v u Q I rx ry ⟨e1, by rw [e2]; exact q⟩
  · exact L2.op_isnot_bl pins s σ H _ _ v u Q I rx ry ⟨p, p', e1, e2, by rw [e3]; exact q⟩
end
end TX
end
section
set_option maxRecDepth 100000
set_option linter.unusedVariables false
/-! EvIn: membership, subscripts, slices, stores, fields. -/
namespace TX
open PySem
variable {G : Gx} {ρ ρ' ρ'' : List Addr} {H H' H'' : LH} {h h' : Hp} {a : Addr}
/-! ### keys -/
theorem rk_kV {w : W} {x : LV} (hk : keyW w = true) (r : RV G ρ H w x) : ∃ k, RK w k ∧ x = L2.kV k := by
  cases w with
  | int i => simp only [RV] at r; exact ⟨.inl i, rfl, r⟩
  | str s => simp only [RV] at r; exact ⟨.inr (S' s), rfl, r⟩
  | _ => simp [keyW] at hk
theorem rk_eq {w v : W} {k l : L2.Key} (a : RK w k) (b : RK v l) : keyEq w v = decide (k = l) := by
  cases w <;> simp only [RK] at a <;> cases v <;> simp only [RK] at b <;> subst a b <;> simp only [keyEq]
  · exact Bool.eq_iff_iff.mpr (by simp)
  · exact (decide_eq_false (fun q => by cases q)).symm
  · exact (decide_eq_false (fun q => by cases q)).symm
  · rw [natEq_iff]
    exact Bool.eq_iff_iff.mpr (by simp)
theorem rks_kV : ∀ {ws : List W} {xs : List LV}, ws.all keyW = true → RVs G ρ H ws xs → ∃ ks, RKs ws ks ∧ xs = ks.map L2.kV
  | [], xs, _, r => ⟨[], rfl, by rw [r.inv0]; rfl⟩
  | w :: ws, xs, hk, r => by
    obtain ⟨x, z, rfl, r1, r2⟩ := r.inv
    rw [List.all_cons, Bool.and_eq_true] at hk
    obtain ⟨k, q1, rfl⟩ := rk_kV hk.1 r1
    obtain ⟨ks, q2, rfl⟩ := rks_kV hk.2 r2
    exact ⟨k :: ks, ⟨k, ks, rfl, q1, q2⟩, rfl⟩
theorem rks_eq : ∀ {ws vs : List W} {ks ls : List L2.Key}, RKs ws ks → RKs vs ls → eqL keyEq ws vs = decide (ks = ls)
  | [], [], ks, ls, a, b => by simp only [RKs] at a b; subst a b; simp [eqL]
  | [], v :: vs, ks, ls, a, b => by simp only [RKs] at a b; obtain ⟨l, r, rfl, _⟩ := b; subst a; simp [eqL]
  | w :: ws, [], ks, ls, a, b => by simp only [RKs] at a b; obtain ⟨l, r, rfl, _⟩ := a; subst b; simp [eqL]
  | w :: ws, v :: vs, ks, ls, a, b => by
    simp only [RKs] at a b
    obtain ⟨k, r, rfl, a1, a2⟩ := a
    obtain ⟨l, r', rfl, b1, b2⟩ := b
    rw [eqL, rk_eq a1 b1, rks_eq a2 b2]
    exact Bool.eq_iff_iff.mpr (by simp)
theorem rt_eq {w v : W} {k l : List L2.Key} (a : RT w k) (b : RT v l) : keyEqT w v = decide (k = l) := by
  cases w <;> simp only [RT] at a <;> cases v <;> simp only [RT] at b
  exact rks_eq a b
theorem rt_kV {w : W} {x : LV} (hk : keyT w = true) (r : RV G ρ H w x) : ∃ b k, RT w k ∧ x = .ref b ∧ H b = some (.tup (k.map L2.kV)) := by
  cases w with
  | tup ws =>
    obtain ⟨b, ys, rfl, e, q⟩ := rv_tup' r
    obtain ⟨ks, q1, rfl⟩ := rks_kV (by simpa [keyT] using hk) q
    exact ⟨b, ks, q1, rfl, e⟩
  | _ => simp [keyT] at hk
section
variable {κ : Type} [DecidableEq κ] {rk : W → κ → Prop} {p : W → W → Bool}
theorem look_val (hp : ∀ w v k l, rk w k → rk v l → p w v = decide (k = l)) {w : W} {k : κ} (rw' : rk w k) : ∀ {kvs : List (W × W)} {ks : List (κ × LV)}, RPs G rk ρ H kvs ks → (match look p w kvs with
    | some v => ∃ x, L2.valV ks k = some x ∧ RV G ρ H v x
    | none => L2.valV ks k = none)
  | [], ks, r => by simp only [RPs] at r; subst r; rfl
  | (j, v) :: kvs, ks, r => by
    simp only [RPs] at r
    obtain ⟨q, x, r', rfl, a, b, c⟩ := r
    have ih := look_val hp rw' c
    unfold look
    rw [hp j w q k a rw']
    by_cases e : q = k
    · rw [decide_eq_true e]
      exact ⟨x, L2.valV_pos e, b⟩
    · rw [decide_eq_false e]
      show match look p w kvs with
        | some v => _
        | none => _
      rw [L2.valV_neg (p := (q, x)) e]
      exact ih
theorem look_some (hp : ∀ w v k l, rk w k → rk v l → p w v = decide (k = l)) {w : W} {k : κ} (rw' : rk w k) {kvs : List (W × W)} {ks : List (κ × LV)} (r : RPs G rk ρ H kvs ks) : (look p w kvs).isSome = (L2.valV ks k).isSome := by
  have := look_val hp rw' r
  cases e : look p w kvs with
  | none => rw [e] at this; rw [this]; rfl
  | some v => rw [e] at this; obtain ⟨x, e2, _⟩ := this; rw [e2]; rfl
theorem rps_len : ∀ {kvs : List (W × W)} {ks : List (κ × LV)}, RPs G rk ρ H kvs ks → ks.length = kvs.length
  | [], ks, r => by simp only [RPs] at r; subst r; rfl
  | (j, v) :: kvs, ks, r => by
    simp only [RPs] at r
    obtain ⟨q, x, r', rfl, a, b, c⟩ := r
    simp [rps_len c]
theorem any_rel (hp : ∀ w v k l, rk w k → rk v l → p w v = decide (k = l)) {w : W} {k : κ} (rw' : rk w k) : ∀ {kvs : List (W × W)} {ks : List (κ × LV)}, RPs G rk ρ H kvs ks → kvs.any (fun e => p e.1 w) = ks.any fun kv => decide (kv.1 = k)
  | [], ks, r => by simp only [RPs] at r; subst r; rfl
  | (j, v) :: kvs, ks, r => by
    simp only [RPs] at r
    obtain ⟨q, x, r', rfl, a, b, c⟩ := r
    rw [List.any_cons, List.any_cons, any_rel hp rw' c, hp j w q k a rw']
theorem map_rel (hp : ∀ w v k l, rk w k → rk v l → p w v = decide (k = l)) {w v : W} {k : κ} {y : LV} (rw' : rk w k) (rv : RV G ρ H v y) : ∀ {kvs : List (W × W)} {ks : List (κ × LV)}, RPs G rk ρ H kvs ks →
    RPs G rk ρ H (kvs.map (fun e => (e.1, bif p e.1 w then v else e.2))) (ks.map (fun kv => if kv.1 = k then (kv.1, y) else kv))
  | [], ks, r => by simp only [RPs] at r; subst r; simp [RPs]
  | (j, u) :: kvs, ks, r => by
    simp only [RPs] at r
    obtain ⟨q, x, r', rfl, a, b, c⟩ := r
    have ih := map_rel hp rw' rv c
    rw [List.map_cons, List.map_cons]
    simp only [RPs]
    by_cases e : q = k
    · refine ⟨q, y, _, by rw [if_pos e], a, ?_, ih⟩
      rw [hp j w q k a rw', decide_eq_true e]; exact rv
    · refine ⟨q, x, _, by rw [if_neg e], a, ?_, ih⟩
      rw [hp j w q k a rw', decide_eq_false e]; exact b
theorem rps_app : ∀ {kvs vs : List (W × W)} {ks ls : List (κ × LV)}, RPs G rk ρ H kvs ks → RPs G rk ρ H vs ls → RPs G rk ρ H (kvs ++ vs) (ks ++ ls)
  | [], _, ks, _, r, q => by simp only [RPs] at r; subst r; exact q
  | (j, u) :: kvs, _, ks, _, r, q => by
    simp only [RPs] at r
    obtain ⟨k, x, r', rfl, a, b, c⟩ := r
    rw [List.cons_append, List.cons_append]
    simp only [RPs]
    exact ⟨k, x, _, rfl, a, b, rps_app c q⟩
theorem put_rel (hp : ∀ w v k l, rk w k → rk v l → p w v = decide (k = l)) {w v : W} {k : κ} {y : LV} (rw' : rk w k) (rv : RV G ρ H v y) {kvs : List (W × W)} {ks : List (κ × LV)} (r : RPs G rk ρ H kvs ks) : RPs G rk ρ H (put p w v kvs) (L2.putK ks k y) := by
  unfold put L2.putK
  rw [any_rel hp rw' r]
  cases e : (ks.any fun kv => decide (kv.1 = k)) with
  | true => rw [if_pos rfl]; exact map_rel hp rw' rv r
  | false =>
    rw [if_neg (by simp)]
    exact rps_app r (by simp only [RPs]; exact ⟨k, y, [], rfl, rw', rv, rfl⟩)
end
theorem hpK : ∀ w v k l, RK w k → RK v l → keyEq w v = decide (k = l) := fun _ _ _ _ a b => rk_eq a b
theorem hpT : ∀ w v k l, RT w k → RT v l → keyEqT w v = decide (k = l) := fun _ _ _ _ a b => rt_eq a b

/-! ### membership -/
theorem flat_V {w : W} {x : LV} (hf : flatW w = true) (r : RV G ρ H w x) : L2.flatV x = true := by
  cases w <;> simp [flatW] at hf <;> simp only [RV] at r <;> subst r <;> rfl
theorem flat_eq {w v : W} {x y : LV} (hw : flatW w = true) (hv : flatW v = true) (rw' : RV G ρ H w x) (rv : RV G ρ H v y) : eqD h 1 w v = L2.eqV x y := by
  cases w <;> simp [flatW] at hw <;> cases v <;> simp [flatW] at hv <;> simp only [RV] at rw' rv <;> subst rw' rv <;> simp only [eqD, L2.eqV]
  · rename_i b i; cases b <;> (rw [Bool.eq_iff_iff]; simp only [b2i]; exact ⟨fun z => by simpa using of_decide_eq_true z, fun z => decide_eq_true (by simpa using z)⟩)
  · rename_i i b; cases b <;> (rw [Bool.eq_iff_iff]; simp only [b2i]; exact ⟨fun z => by simpa using of_decide_eq_true z, fun z => decide_eq_true (by simpa using z)⟩)
  · exact Bool.eq_iff_iff.mpr (by simp)
  · exact natEq_S _ _
theorem flat_all : ∀ {ws : List W} {xs : List LV}, ws.all flatW = true → RVs G ρ H ws xs → xs.all L2.flatV = true
  | [], xs, _, r => by rw [r.inv0]; rfl
  | w :: ws, xs, hk, r => by
    obtain ⟨x, z, rfl, r1, r2⟩ := r.inv
    rw [List.all_cons, Bool.and_eq_true] at hk
    rw [List.all_cons, flat_V hk.1 r1, flat_all hk.2 r2]; rfl
theorem flat_any {w : W} {x : LV} (hw : flatW w = true) (r : RV G ρ H w x) : ∀ {ws : List W} {xs : List LV}, ws.all flatW = true → RVs G ρ H ws xs → (ws.any fun y => eqD h 1 y w) = L2.inV x xs
  | [], xs, _, q => by rw [q.inv0]; rfl
  | v :: ws, xs, hk, q => by
    obtain ⟨y, z, rfl, r1, r2⟩ := q.inv
    rw [List.all_cons, Bool.and_eq_true] at hk
    have ih := flat_any hw r hk.2 r2
    unfold L2.inV at ih ⊢
    rw [List.any_cons, List.any_cons, flat_eq hk.1 hw r1 r, ih]
theorem data_any {w : W} (hw : dataQ h DEEP w = true) : ∀ {ws : List W}, ws.all (dataQ h DEEP) = true → (ws.any fun y => eqD h DEEP y w) = (ws.map (toD h DEEP)).any fun z => PyData.eqv z (toD h DEEP w)
  | [], _ => rfl
  | v :: ws, hk => by
    rw [List.all_cons, Bool.and_eq_true] at hk
    rw [List.any_cons, List.map_cons, List.any_cons, eqD_eqv DEEP v w hk.1 hw, data_any hw hk.2]
theorem any_beq (c : Nat) (s : List Nat) : s.any (Nat.beq c) = decide (c ∈ (S' s).cps.toList) := by
  rw [Bool.eq_iff_iff]
  simp
/-- what membership leaves -/
inductive InR (K : PySem.W.Frag) (H : LH) (x y : LV) : Bool → Prop where
  | sign {c : Nat} {z : Str} : x = .str ⟨#[c]⟩ → y = .str z → InR K H x y (decide (c ∈ z.cps.toList))
  | flat {p : Addr} {xs : List LV} : y = .ref p → L2.SqT K H p xs → L2.flatV x = true → xs.all L2.flatV = true → InR K H x y (L2.inV x xs)
  | data {d : PyData} {ds : List PyData} : L2.Dp K H x d → L2.Dp K H y (.list ds) → SeqAt.shaped d = true → SeqAt.shaped (.list ds) = true → InR K H x y (ds.any fun z => PyData.eqv z d)
  | key {p : Addr} {o : Option LV} : y = .ref p → L2.DGet H p x o → InR K H x y o.isSome
theorem dget_k {p : Addr} {kvs : List (L2.Key × LV)} (e : H p = some (.dK kvs)) (k : L2.Key) : L2.DGet H p (L2.kV k) (L2.valV kvs k) := L2.DGet.k e
theorem in_rel (R : Rep G ρ h H) {a b : W} {x y : LV} {r : Bool} (e : inW h a b = some r) (ra : RV G ρ H a x) (rb : RV G ρ H b y) : InR G.K H x y r := by
  unfold inW at e
  split at e
  · split at e
    · rename_i s c
      simp only [RV] at ra rb; subst ra rb
      rw [← Option.some.inj e, any_beq]
      exact .sign rfl rfl
    · cases e
  · rename_i ys
    obtain ⟨p, xs, rfl, t, q⟩ := rv_tup rb
    cases z : flatW a && ys.all flatW with
    | false => rw [z] at e; cases e
    | true =>
      rw [z] at e
      rw [Bool.and_eq_true] at z
      rw [← Option.some.inj e, flat_any z.1 ra z.2 q]
      exact .flat rfl t (flat_V z.1 ra) (flat_all z.2 q)
  · rename_i n
    obtain ⟨p, rfl, ep⟩ := rv_obj rb
    have lists : ∀ ws, h.lst? n = some ws → (bif dataQ h DEEP a && ws.all (dataQ h DEEP) then some (ws.any fun y => eqD h DEEP y a) else none) = some r → InR G.K H x (.ref p) r := fun ws g e => by
      obtain ⟨ys, s, q⟩ := R.seq ep g
      cases z : dataQ h DEEP a && ws.all (dataQ h DEEP) with
      | false => rw [z] at e; cases e
      | true =>
        rw [z] at e
        rw [Bool.and_eq_true] at z
        rw [← Option.some.inj e, data_any z.1 z.2]
        have hq : dataQ h (DEEP + 1) (.obj n) = true := by simp only [dataQ, g]; exact z.2
        have hd := data_dp R (DEEP + 1) (.obj n) (.ref p) hq rb
        have hs := data_shaped (f := DEEP + 1) (by decide) hq
        simp only [toD, g] at hd hs
        exact .data (data_dp R DEEP a x z.1 ra) hd (data_shaped (by decide) z.1) hs
    split at e
    · rename_i ys g
      exact lists ys (by simp [Hp.lst?, g]) e
    · rename_i ys g
      exact lists ys (by simp [Hp.lst?, g]) e
    · rename_i kvs g
      cases z : keyW a with
      | false => rw [z] at e; cases e
      | true =>
        rw [z] at e
        obtain ⟨ks, e1, q⟩ := R.at ep g
        obtain ⟨k, rk, rfl⟩ := rk_kV z ra
        rw [← Option.some.inj e, look_some hpK rk q]
        exact .key rfl (L2.DGet.k e1)
    · rename_i kvs g
      cases z : keyT a with
      | false => rw [z] at e; cases e
      | true =>
        rw [z] at e
        obtain ⟨ks, e1, q⟩ := R.at ep g
        obtain ⟨b, k, rk, rfl, eb⟩ := rt_kV z ra
        rw [← Option.some.inj e, look_some hpT rk q]
        exact .key rfl (L2.DGet.t e1 eb)
    · cases e
  · cases e
section
variable {X : L2.Cx}
theorem in_ok (hK : X.K = G.K) (hu : X.A.units + 65 < cLine) : L2.OpR X (compareOp .In) (rC G fun a b h => inW h a b) := by
  intro pins s σ H x y v u Q I rx ry q
  obtain ⟨ρ, h, wa, wb, R, ra, rb, r, e, q⟩ := q
  cases in_rel R e ra rb with
  | sign e1 e2 => exact L2.op_in_sign pins s σ H _ _ v u Q I rx ry ⟨_, _, e1, e2, q⟩
  | flat e1 t f1 f2 => exact L2.op_in_seq pins s σ H _ _ v u Q I rx ry ⟨_, _, e1, .inr (hK ▸ t), f1, f2, q⟩
  | data d1 d2 s1 s2 => exact L2.op_inD hu pins s σ H _ _ v u Q I rx ry ⟨_, _, hK ▸ d1, hK ▸ d2, s1, s2, q⟩
  | key e1 g =>
    subst e1
    obtain rfl : u = Value.ref _ := ry
    exact L2.d_in (by omega) I g rx fun s3 I3 => ⟨.bl _, H, I3, rfl, q⟩
theorem nin_ok (hK : X.K = G.K) (hu : X.A.units + 65 < cLine) : L2.OpR X (compareOp .NotIn) (rC G fun a b h => (inW h a b).map (!·)) := by
  intro pins s σ H x y v u Q I rx ry q
  obtain ⟨ρ, h, wa, wb, R, ra, rb, r, e, q⟩ := q
  obtain ⟨r', e0, rfl⟩ := Option.map_eq_some_iff.mp e
  cases in_rel R e0 ra rb with
  | sign e1 e2 => exact L2.op_notIn_sign pins s σ H _ _ v u Q I rx ry ⟨_, _, e1, e2, q⟩
  | flat e1 t f1 f2 => exact L2.op_notIn_seq pins s σ H _ _ v u Q I rx ry ⟨_, _, e1, .inr (hK ▸ t), f1, f2, q⟩
  | data d1 d2 s1 s2 => exact L2.op_notInD hu pins s σ H _ _ v u Q I rx ry ⟨_, _, hK ▸ d1, hK ▸ d2, s1, s2, q⟩
  | key e1 g =>
    subst e1
    obtain rfl : u = Value.ref _ := ry
    exact L2.d_notIn (by omega) I g rx fun s3 I3 => ⟨.bl _, H, I3, rfl, q⟩
/-- every comparison -/
theorem cmp_ok (hK : X.K = G.K) (hu : X.A.units + 65 < cLine) (o : CO) : L2.OpR X (compareOp (co o)) (rC G (cmpop o)) := by
  cases o with
  | eq => exact eq_ok hK hu
  | ne => exact ne_ok hK hu
  | is => exact is_ok
  | isn => exact isn_ok
  | inn => exact in_ok hK hu
  | nin => exact nin_ok hK hu
  | _ =>
    intro pins s σ H x y v u Q I rx ry q
    obtain ⟨ρ, h, wa, wb, R, ra, rb, r, e, q⟩ := q
    simp only [cmpop] at e
    split at e
    · simp only [RV] at ra rb; subst ra rb
      rw [← Option.some.inj e] at q
      first
        | exact L2.op_lt pins s σ H _ _ v u Q I rx ry ⟨_, _, rfl, rfl, q⟩
        | exact L2.op_le pins s σ H _ _ v u Q I rx ry ⟨_, _, rfl, rfl, q⟩
        | exact L2.op_gt pins s σ H _ _ v u Q I rx ry ⟨_, _, rfl, rfl, q⟩
        | exact L2.op_ge pins s σ H _ _ v u Q I rx ry ⟨_, _, rfl, rfl, q⟩
    · cases e
end
end TX
end
section
set_option maxRecDepth 100000
set_option linter.unusedVariables false
/-! EvAcc: truth, subscripts, slices, stores, fields, calls of built-ins. -/
namespace TX
open PySem PySem.Spec PyProof.Rows
variable {G : Gx} {ρ ρ' ρ'' : List Addr} {H H' H'' : LH} {h h' : Hp} {a : Addr}
theorem emp_len {ws : List W} {xs : List LV} (r : RVs G ρ H ws xs) : (!ws.isEmpty) = !xs.isEmpty := by
  cases ws with
  | nil => rw [r.inv0]; rfl
  | cons w ws => obtain ⟨x, z, rfl, _⟩ := r.inv; rfl
theorem tru_rel (R : Rep G ρ h H) {w : W} {x : LV} {b : Bool} (e : tru h w = some b) (r : RV G ρ H w x) : L2.TruV G.K x H b := by
  cases w with
  | non => simp only [RV] at r; subst r; simp only [tru] at e; exact (Option.some.inj e).symm
  | bl c => simp only [RV] at r; subst r; simp only [tru] at e; exact (Option.some.inj e).symm
  | int i =>
    simp only [RV] at r; subst r; simp only [tru] at e
    show b = (i != 0)
    rw [← Option.some.inj e]
    rw [Bool.eq_iff_iff]; simp
  | str s =>
    simp only [RV] at r; subst r
    simp only [tru] at e
    split at e
    · rename_i hl
      refine ⟨lim_le hl, ?_⟩
      rw [← Option.some.inj e]
      cases s with
      | nil => rfl
      | cons c s =>
        rw [Bool.eq_iff_iff]
        simp [S'_len]
        omega
    · cases e
  | tup ws =>
    obtain ⟨p, ys, rfl, t, q⟩ := rv_tup r
    simp only [tru] at e
    refine .inr (.inl ⟨ys, t, ?_⟩)
    rw [← Option.some.inj e, emp_len q]
  | obj n =>
    obtain ⟨p, rfl, ep⟩ := rv_obj r
    simp only [tru] at e
    split at e
    · rename_i ws g
      obtain ⟨ys, t, q⟩ := R.seq ep (show h.lst? n = some ws by simp [Hp.lst?, g])
      exact .inl ⟨ys, t, by rw [← Option.some.inj e, emp_len q]⟩
    · rename_i ws g
      obtain ⟨ys, t, q⟩ := R.seq ep (show h.lst? n = some ws by simp [Hp.lst?, g])
      exact .inl ⟨ys, t, by rw [← Option.some.inj e, emp_len q]⟩
    · rename_i kvs g
      obtain ⟨ks, e1, q⟩ := R.at ep g
      refine .inr (.inr ⟨ks, e1, ?_⟩)
      rw [← Option.some.inj e]
      have := rps_len q
      cases kvs <;> cases ks <;> simp_all
    · cases e
  | _ => simp [tru] at e

/-! ### subscripts -/
theorem ixN_eq (n : Nat) (i : Int) : TX.ixN n i = L2.ixN n i := rfl
theorem at_rel {ws : List W} {xs : List LV} {i : Int} {w : W} (r : RVs G ρ H ws xs) (e : atI ws i = some w) : ∃ x, L2.atI xs i = some x ∧ RV G ρ H w x := by
  unfold atI at e
  unfold L2.atI
  rw [r.len]
  obtain ⟨j, e1, e2⟩ := Option.bind_eq_some_iff.mp e
  rw [ixN_eq] at e1
  rw [e1]
  exact r.get e2
/-- a dict? -/
def isD (h : Hp) : W → Bool
  | .obj n => match h.get n with
    | some (.dK _) | some (.dT _) => true
    | _ => false
  | _ => false
section
variable {X : L2.Cx}
theorem ix_ok (hK : X.K = G.K) : L2.IxR X (fun x y H Q => ∃ ρ h a b, Rep G ρ h H ∧ RV G ρ H a x ∧ RV G ρ H b y ∧ isD h a = false ∧ Val G Q ρ H (getix a b h)) := by
  intro value slice pins s σ H x y v u Q I rx ry q hs
  obtain ⟨ρ, h, wa, wb, R, ra, rb, nd, V⟩ := q
  cases wa with
  | str z =>
    cases wb with
    | int k =>
      simp only [getix] at V
      split at V
      · rename_i hl
        split at V
        · rename_i c e
          simp only [RV] at ra rb; subst ra rb
          exact L2.ix_str value slice pins s σ H _ _ v u Q I rx ry ⟨_, _, c, rfl, rfl, lim_le hl, e, V.here R (by simp [RV])⟩ hs
        · exact V.elim
      · exact V.elim
    | _ => exact V.elim
  | tup ws =>
    cases wb with
    | int k =>
      simp only [getix] at V
      split at V
      · rename_i w e
        obtain ⟨p, ys, rfl, t, q⟩ := rv_tup ra
        simp only [RV] at rb; subst rb
        obtain ⟨z, e1, e2⟩ := at_rel q e
        exact L2.ix_tup value slice pins s σ H _ _ v u Q I rx ry ⟨p, ys, _, z, rfl, rfl, hK ▸ t, e1, V.here R e2⟩ hs
      · exact V.elim
    | _ => exact V.elim
  | obj n =>
    obtain ⟨p, rfl, ep⟩ := rv_obj ra
    have lists : ∀ ws, h.lst? n = some ws → Val G Q ρ H (match (generalizing := false) wb with
      | .int k => match atI ws k with
        | some x => some (x, h)
        | none => none
      | _ => none) → wpAny (model X.prog X.w) X.A (subscriptTail value slice v u) (L2.EP X pins σ Q) X.xe s := fun ws g V => by
      cases wb with
      | int k =>
        simp only at V
        split at V
        · rename_i w e
          obtain ⟨ys, t, q⟩ := R.seq ep g
          simp only [RV] at rb; subst rb
          obtain ⟨z, e1, e2⟩ := at_rel q e
          exact L2.ix_list value slice pins s σ H _ _ v u Q I rx ry ⟨p, ys, _, z, rfl, rfl, hK ▸ t, e1, V.here R e2⟩ hs
        · exact V.elim
      | _ => exact V.elim
    have q : ∀ o, h.get n = some o → Val G Q ρ H (getix (.obj n) wb h) → wpAny (model X.prog X.w) X.A (subscriptTail value slice v u) (L2.EP X pins σ Q) X.xe s := fun o g V => by
      cases o with
      | lst ws => simp only [getix, g] at V; exact lists ws (by simp [Hp.lst?, g]) V
      | fro ws => simp only [getix, g] at V; exact lists ws (by simp [Hp.lst?, g]) V
      | dK kvs => simp [isD, g] at nd
      | dT kvs => simp [isD, g] at nd
      | _ => simp only [getix, g] at V; exact V.elim
    cases g : h.get n with
    | none => simp only [getix, g] at V; exact V.elim
    | some o => exact q o g V
  | _ => exact V.elim
/-- d[y] -/
theorem dix_rel (R : Rep G ρ h H) {wa wb : W} {x y : LV} {Q : L2.VK} (ra : RV G ρ H wa x) (rb : RV G ρ H wb y) (d : isD h wa = true) (V : Val G Q ρ H (getix wa wb h)) : ∃ a v, x = .ref a ∧ L2.DGet H a y (some v) ∧ Q v H := by
  unfold isD at d
  split at d
  · rename_i n
    obtain ⟨p, rfl, ep⟩ := rv_obj ra
    split at d
    · rename_i kvs g
      obtain ⟨ks, e1, q⟩ := R.at ep g
      simp only [getix, g] at V
      cases z : keyW wb with
      | false => rw [z] at V; exact V.elim
      | true =>
        rw [z] at V
        obtain ⟨k, rk, rfl⟩ := rk_kV z rb
        have := look_val (G := G) hpK rk q
        revert V
        cases l : look keyEq wb kvs with
        | none => exact fun V => V.elim
        | some w =>
          rw [l] at this
          obtain ⟨v, e2, r⟩ := this
          exact fun V => ⟨p, v, rfl, by have := L2.DGet.k (k := k) e1; rw [e2] at this; exact this, V.here R r⟩
    · rename_i kvs g
      obtain ⟨ks, e1, q⟩ := R.at ep g
      simp only [getix, g] at V
      cases z : keyT wb with
      | false => rw [z] at V; exact V.elim
      | true =>
        rw [z] at V
        obtain ⟨b, k, rk, rfl, eb⟩ := rt_kV z rb
        have := look_val (G := G) hpT rk q
        revert V
        cases l : look keyEqT wb kvs with
        | none => exact fun V => V.elim
        | some w =>
          rw [l] at this
          obtain ⟨v, e2, r⟩ := this
          exact fun V => ⟨p, v, rfl, by have := L2.DGet.t (k := k) e1 eb; rw [e2] at this; exact this, V.here R r⟩
    · cases d
  · cases d
/-! ### slices -/
theorem cut_rel {ws : List W} {xs : List LV} (r : RVs G ρ H ws xs) (lo hi : Option Int) : RVs G ρ H (cutL ws lo hi) (L2.cutV xs lo hi) := by
  unfold cutL L2.cutV
  rw [r.len]
  exact (r.drop _).take _
theorem cutS_eq (s : List Nat) (lo hi : Option Int) : L2.cutS (S' s) lo hi = S' (cutL s lo hi) := by
  unfold L2.cutS cutL
  rfl
theorem cut_all {α : Type} (xs : List α) {lo hi : Option Int} (h1 : sIx xs.length 0 lo = 0) (h2 : sIx xs.length xs.length hi = xs.length) : cutL xs lo hi = xs := by
  unfold cutL
  rw [h1, h2]; simp
theorem sl_ok (hK : X.K = G.K) : L2.SlR X (fun x lo hi H Q => ∃ ρ h a, Rep G ρ h H ∧ RV G ρ H a x ∧ Val G Q ρ H (getsl a lo hi h)) := by
  intro pins s σ H x v vl vu lo hi sl Q I rx hs pl pu q
  obtain ⟨ρ, h, wa, R, ra, V⟩ := q
  unfold getsl at V
  split at V
  · split at V
    · rename_i hl
      simp only [RV] at ra; subst ra
      exact L2.sl_str pins s σ H _ v vl vu lo hi sl Q I rx hs pl pu ⟨_, rfl, lim_le hl, V.here R (by simp only [RV]; rw [cutS_eq])⟩
    · exact V.elim
  · obtain ⟨p, ys, rfl, t, q⟩ := rv_tup ra
    refine L2.sl_tupA pins s σ H _ v vl vu lo hi sl Q I rx hs pl pu ⟨p, ys, rfl, hK ▸ t, fun e => ?_, fun e p hp => V.tup R (cut_rel q lo hi) hp⟩
    rw [q.len] at e
    rw [cut_all _ e.1 e.2] at V
    exact V.here R ra
  · split at V
    · rename_i n ws g
      obtain ⟨p, rfl, ep⟩ := rv_obj ra
      obtain ⟨ys, t, q⟩ := R.seq ep g
      exact L2.sl_list pins s σ H _ v vl vu lo hi sl Q I rx hs pl pu ⟨p, ys, rfl, hK ▸ t, fun p hp => V.newL R (cut_rel q lo hi) hp⟩
    · exact V.elim
  · exact V.elim
end
end TX
end
section
set_option maxRecDepth 100000
set_option linter.unusedVariables false
/-! EvSet: stores. -/
namespace TX
open PySem PySem.Spec PyProof.Rows
variable {G : Gx} {ρ ρ' ρ'' : List Addr} {H H' H'' : LH} {h h' : Hp} {a : Addr}
def ValH (G : Gx) (Q : LH → Prop) (ρ : List Addr) (H : LH) (o : Option Hp) : Prop := match o with
  | some h' => ∀ ρ' H', To ρ H ρ' H' → Rep G ρ' h' H' → Q H'
  | none => False
theorem ValH.set {Q : LH → Prop} {n : Nat} {ob : Ob} {o : L2.HO} (v : ValH G Q ρ H (some (h.set n ob))) (R : Rep G ρ h H) (e : ρ[n]? = some a) (r : RO G ρ (L2.upd H a o) a ob) : Q (L2.upd H a o) := by
  obtain ⟨R', t⟩ := R.set e r
  exact v _ _ t R'
section
variable {X : L2.Cx}
theorem set_ok (hK : X.K = G.K) (hu : X.A.units + 65 < cLine) : L2.PSet X (fun o i v H Q => ∃ ρ h a b c, Rep G ρ h H ∧ RV G ρ H a o ∧ RV G ρ H b i ∧ RV G ρ H c v ∧ ValH G Q ρ H (setix a b c h)) := by
  intro pins s σ H o i v ov iv u Q I ro ri rv q
  obtain ⟨ρ, h, wa, wb, wc, R, ra, rb, rc, V⟩ := q
  unfold setix at V
  split at V
  · rename_i n
    obtain ⟨p, rfl, ep⟩ := rv_obj ra
    split at V
    · rename_i ws g
      obtain ⟨ys, e1, q⟩ := R.lst ep g
      split at V
      · rename_i k
        split at V
        · rename_i j e
          simp only [RV] at rb; subst rb
          have tk : Tk H (L2.upd H p (.lst (ys.set j v))) := tk_upd (by rw [e1]; rfl)
          exact L2.set_list pins s σ H _ _ v ov iv u Q I ro ri rv ⟨p, ys, k, j, rfl, rfl, e1, by rw [q.len]; exact e, V.set R ep ⟨_, L2.upd_same, (RVs.mono (List.prefix_refl _) tk _ _ q).set j (RV.mono (List.prefix_refl _) tk _ _ rc)⟩⟩
        · exact V.elim
      · exact V.elim
    · rename_i kvs g
      obtain ⟨ks, e1, q⟩ := R.at ep g
      cases z : keyW wb && Nat.blt kvs.length LIM with
      | false => rw [z] at V; exact V.elim
      | true =>
        rw [z] at V
        rw [Bool.and_eq_true] at z
        obtain ⟨k, rk, rfl⟩ := rk_kV z.1 rb
        have hl : kvs.length < LIM := Nat.blt_eq ▸ z.2
        have tk : Tk H (L2.upd H p (.dK (L2.putK ks k v))) := tk_upd (by rw [e1]; rfl)
        refine L2.set_dict (by omega) pins s σ H _ _ v ov iv u Q I ro ri rv ⟨p, _, rfl, L2.DPut.k (k := k) e1 ?_, V.set R ep ⟨_, L2.upd_same, ?_⟩⟩
        · rw [rps_len q]; exact Nat.lt_of_lt_of_le hl lim_line
        · exact put_rel hpK rk (RV.mono (List.prefix_refl _) tk _ _ rc) (RPs.mono (List.prefix_refl _) tk _ _ q)
    · rename_i kvs g
      obtain ⟨ks, e1, q⟩ := R.at ep g
      cases z : keyT wb && Nat.blt kvs.length LIM with
      | false => rw [z] at V; exact V.elim
      | true =>
        rw [z] at V
        rw [Bool.and_eq_true] at z
        obtain ⟨b, k, rk, rfl, eb⟩ := rt_kV z.1 rb
        have hl : kvs.length < LIM := Nat.blt_eq ▸ z.2
        have tk : Tk H (L2.upd H p (.dT (L2.putK ks k v))) := tk_upd (by rw [e1]; rfl)
        refine L2.set_dict (by omega) pins s σ H _ _ v ov iv u Q I ro ri rv ⟨p, _, rfl, L2.DPut.t (k := k) e1 eb ?_, V.set R ep ⟨_, L2.upd_same, ?_⟩⟩
        · rw [rps_len q]; exact Nat.lt_of_lt_of_le hl lim_line
        · exact put_rel hpT rk (RV.mono (List.prefix_refl _) tk _ _ rc) (RPs.mono (List.prefix_refl _) tk _ _ q)
    · exact V.elim
  · exact V.elim
end
/-! ### fields -/
theorem an_eq {f g : Nat} (hf : f < G.nn) (hg : g < G.nn) : (Nat.beq g f = true) ↔ (G.an g = G.an f) :=
  ⟨fun e => by rw [Nat.eq_of_beq_eq_true e], fun e => by rw [G.inj g f hg hf e]; exact Nat.beq_refl f⟩
theorem getF_rel {f : Nat} (hf : f < G.nn) : ∀ {fs : List (Nat × W)} {ys : List (Str × LV)}, RFs G ρ H fs ys → (match getF f fs with
    | some w => ∃ x, ys.lookup (G.an f) = some x ∧ RV G ρ H w x
    | none => ys.lookup (G.an f) = none)
  | [], ys, r => by simp only [RFs] at r; subst r; rfl
  | (g, w) :: fs, ys, r => by
    simp only [RFs] at r
    obtain ⟨x, r', rfl, hg, a, b⟩ := r
    have ih := getF_rel hf b
    unfold getF
    cases e : Nat.beq g f with
    | true =>
      have : (G.an f == G.an g) = true := beq_iff_eq.mpr ((an_eq hf hg).mp e).symm
      exact ⟨x, by rw [List.lookup_cons, this], a⟩
    | false =>
      have : (G.an f == G.an g) = false := beq_eq_false_iff_ne.mpr fun q => by rw [(an_eq hf hg).mpr q.symm] at e; cases e
      show match getF f fs with
        | some w => _
        | none => _
      rw [List.lookup_cons, this]
      exact ih
theorem putF_rel {f : Nat} (hf : f < G.nn) {v : W} {y : LV} (rv : RV G ρ H v y) : ∀ {fs : List (Nat × W)} {ys : List (Str × LV)}, RFs G ρ H fs ys → RFs G ρ H (putF f v fs) (L2.putF (G.an f) y ys)
  | [], ys, r => by
    simp only [RFs] at r; subst r
    simp only [putF, L2.putF, RFs]
    exact ⟨y, [], rfl, hf, rv, rfl⟩
  | (g, w) :: fs, ys, r => by
    simp only [RFs] at r
    obtain ⟨x, r', rfl, hg, a, b⟩ := r
    have ih := putF_rel hf rv b
    unfold putF L2.putF
    cases e : Nat.beq g f with
    | true =>
      rw [if_pos ((an_eq hf hg).mp e)]
      simp only [cond_true, RFs]
      exact ⟨y, r', rfl, hg, rv, b⟩
    | false =>
      rw [if_neg fun q => by rw [(an_eq hf hg).mpr q] at e; cases e]
      simp only [cond_false, RFs]
      exact ⟨x, _, rfl, hg, a, ih⟩
theorem rfs_len : ∀ {fs : List (Nat × W)} {ys : List (Str × LV)}, RFs G ρ H fs ys → ys.length = fs.length
  | [], ys, r => by simp only [RFs] at r; subst r; rfl
  | (g, w) :: fs, ys, r => by
    simp only [RFs] at r
    obtain ⟨x, r', rfl, hg, a, b⟩ := r
    simp [rfs_len b]
theorem putF_mem {f : Nat} {v : W} : ∀ {fs : List (Nat × W)} {p : Nat × W}, p ∈ putF f v fs → p.1 = f ∨ ∃ q ∈ fs, q.1 = p.1
  | [], p, h => by simp [putF] at h; exact .inl (by rw [h])
  | (g, w) :: fs, p, h => by
    unfold putF at h
    cases e : Nat.beq g f with
    | true =>
      rw [e] at h
      simp only [cond_true, List.mem_cons] at h
      rcases h with rfl | h
      · exact .inr ⟨(g, w), List.mem_cons_self, rfl⟩
      · exact .inr ⟨p, List.mem_cons_of_mem _ h, rfl⟩
    | false =>
      rw [e] at h
      simp only [cond_false, List.mem_cons] at h
      rcases h with rfl | h
      · exact .inr ⟨(g, w), List.mem_cons_self, rfl⟩
      · rcases putF_mem h with z | ⟨q, hq, z⟩
        · exact .inl z
        · exact .inr ⟨q, List.mem_cons_of_mem _ hq, z⟩
theorem getF_mem {f : Nat} {w : W} : ∀ {fs : List (Nat × W)}, getF f fs = some w → ∃ p ∈ fs, p.1 = f
  | [], h => by simp [getF] at h
  | (g, u) :: fs, h => by
    unfold getF at h
    cases e : Nat.beq g f with
    | true => exact ⟨(g, u), List.mem_cons_self, Nat.eq_of_beq_eq_true e⟩
    | false =>
      rw [e] at h
      obtain ⟨p, hp, z⟩ := getF_mem h
      exact ⟨p, List.mem_cons_of_mem _ hp, z⟩
/-- o.f -/
theorem fld_rel (R : Rep G ρ h H) {f : Nat} (hf : f < G.nn) {w : W} {x : LV} {Q : L2.VK} (r : RV G ρ H w x) (V : Val G Q ρ H (getat w f h)) :
    ∃ a C dx fs v, x = .ref a ∧ H a = some (.ins C dx fs) ∧ L2.Cls G.K C ∧ L2.NoAttr G.K C (G.an f) ∧ fs.lookup (G.an f) = some v ∧ Q v H := by
  unfold getat at V
  split at V
  · rename_i n
    obtain ⟨p, rfl, ep⟩ := rv_obj r
    split at V
    · rename_i c fs g
      obtain ⟨C, dx, ys, ec, e1, q, na, cl⟩ := R.at ep g
      have := getF_rel hf q
      revert V
      cases l : getF f fs with
      | none => exact fun V => V.elim
      | some v =>
        rw [l] at this
        obtain ⟨y, e2, rv⟩ := this
        obtain ⟨pr, hp, z⟩ := getF_mem l
        exact fun V => ⟨p, C, dx, ys, y, rfl, e1, cl, z ▸ na pr hp, e2, V.here R rv⟩
    · exact V.elim
  · exact V.elim
/-- o.f = v -/
theorem fset_rel {na : Nat → Nat → Bool} (R : Rep G ρ h H) {f : Nat} (hf : f < G.nn) (hna : ∀ c C, G.ca c = some C → na c f = true → L2.NoAttr G.K C (G.an f)) {w v : W} {x y : LV} {Q : LH → Prop} (r : RV G ρ H w x) (rv : RV G ρ H v y)
    (V : ValH G Q ρ H (setat na w f v h)) : ∃ a C dx fs, x = .ref a ∧ H a = some (.ins C dx fs) ∧ L2.Cls G.K C ∧ L2.NoAttr G.K C (G.an f) ∧ fs.length < 1000 ∧ Q (L2.upd H a (.ins C dx (L2.putF (G.an f) y fs))) := by
  unfold setat at V
  split at V
  · rename_i n
    obtain ⟨p, rfl, ep⟩ := rv_obj r
    split at V
    · rename_i c fs g
      obtain ⟨C, dx, ys, ec, e1, q, nas, cl⟩ := R.at ep g
      split at V
      · rename_i hl
        have hn := hna c C ec hl.2
        have tk : Tk H (L2.upd H p (.ins C dx (L2.putF (G.an f) y ys))) := tk_upd (by rw [e1]; rfl)
        refine ⟨p, C, dx, ys, rfl, e1, cl, hn, by rw [rfs_len q]; omega, V.set R ep ⟨C, dx, _, ec, L2.upd_same, ?_, fun pr hp => ?_, cl⟩⟩
        · exact putF_rel hf (RV.mono (List.prefix_refl _) tk _ _ rv) (RFs.mono (List.prefix_refl _) tk _ _ q)
        · rcases putF_mem hp with z | ⟨q', hq, z⟩
          · rw [z]; exact hn
          · rw [← z]; exact nas q' hq
      · exact V.elim
    · exact V.elim
  · exact V.elim
end TX
end
section
set_option maxRecDepth 100000
set_option linter.unusedVariables false
/-! EvBfn: calls of built-in functions and types. -/
namespace TX
open PySem PySem.Spec PyProof.Rows
variable {G : Gx} {ρ ρ' ρ'' : List Addr} {H H' H'' : LH} {h h' : Hp} {a : Addr}
/-! ### digits -/
theorem digF_num : ∀ (f n : Nat) (r : List Nat), n < f → digF f n r = TL.numL n ++ r
  | 0, _, _, h => by omega
  | f + 1, n, r, h => by
    rw [digF]
    by_cases e : n < 10
    · rw [show Nat.blt n 10 = true by rw [Nat.blt_eq]; exact e, TL.numL_lt e]
      show (n + 48) :: r = _
      rw [Nat.add_comm]; rfl
    · have q : Nat.blt n 10 = false := by
        cases z : Nat.blt n 10 with
        | false => rfl
        | true => rw [Nat.blt_eq] at z; exact absurd z e
      rw [q, TL.numL_step (by omega : 10 ≤ n)]
      show digF f (n / 10) _ = _
      rw [digF_num f (n / 10) _ (by omega), List.append_assoc, Nat.add_comm]
      rfl
theorem digs_num (n : Nat) : digs n = TL.numL n := by rw [digs, digF_num _ _ _ (by omega), List.append_nil]
theorem num?_val : ∀ (s : List Nat) (a n : Nat), num? s a = some n → s.all (fun c => decide (48 ≤ c) && decide (c ≤ 57)) = true ∧ s.foldl (fun acc c => acc * 10 + (c - 48)) a = n
  | [], a, n, e => by simp only [num?, Option.some.injEq] at e; exact ⟨rfl, e⟩
  | c :: s, a, n, e => by
    rw [num?] at e
    cases z : Nat.ble 48 c && Nat.ble c 57 with
    | false => rw [z] at e; cases e
    | true =>
      rw [z] at e
      obtain ⟨h1, h2⟩ := num?_val s _ n e
      rw [Bool.and_eq_true] at z
      have z1 := Nat.le_of_ble_eq_true z.1
      have z2 := Nat.le_of_ble_eq_true z.2
      refine ⟨?_, h2⟩
      rw [List.all_cons, h1, decide_eq_true z1, decide_eq_true z2]; rfl
/-! ### classes -/
theorem kit_all (t : Tn) (s : String) (b : Bool) (e : isT t s = some b) : L2.kitB t.name s = some b := by
  cases t <;> (unfold isT at e; split at e <;> first
    | (cases e; done)
    | (rw [← Option.some.inj e]; decide +kernel))
theorem tn_rel (R : Rep G ρ h H) {w : W} {x : LV} {t : Tn} (e : tn? h w = some t) (r : RV G ρ H w x) : L2.TyX G.K H x (.type t.name) := by
  cases w with
  | non => simp only [RV] at r; subst r; simp only [tn?, Option.some.injEq] at e; subst e; exact .base .non
  | bl b => simp only [RV] at r; subst r; simp only [tn?, Option.some.injEq] at e; subst e; exact .base (.bl _)
  | int b => simp only [RV] at r; subst r; simp only [tn?, Option.some.injEq] at e; subst e; exact .base (.int _)
  | str b => simp only [RV] at r; subst r; simp only [tn?, Option.some.injEq] at e; subst e; exact .base (.str _)
  | tup ws =>
    obtain ⟨p, ys, rfl, t, q⟩ := rv_tup' r
    simp only [tn?, Option.some.injEq] at e; subst e
    exact .base (.tup t)
  | obj n =>
    obtain ⟨p, rfl, ep⟩ := rv_obj r
    simp only [tn?] at e
    split at e
    · rename_i ws g
      obtain ⟨ys, e1, _⟩ := R.at ep g
      cases e; exact .base (.lst e1)
    · rename_i ws g
      exact (R.at ep g).elim
    · rename_i ws g
      obtain ⟨ys, e1, _⟩ := R.at ep g
      cases e; exact .base (.dK e1)
    · rename_i ws g
      obtain ⟨ys, e1, _⟩ := R.at ep g
      cases e; exact .base (.dT e1)
    · cases e
  | _ => simp [tn?] at e
theorem isi1_rel (R : Rep G ρ h H) {w t : W} {x c : LV} {b : Bool} (e : isi1 h w t = some b) (r : RV G ρ H w x) (rc : RV G ρ H t c) : ∃ s T, c = .ty s ∧ L2.TyX G.K H x T ∧ PySem.W.kitOne G.K T (.type s) = some b := by
  unfold isi1 at e
  split at e
  · rename_i s
    split at e
    · rename_i t' z
      simp only [RV] at rc
      exact ⟨s, _, rc, tn_rel R z r, L2.kit_ty (kit_all t' s b e)⟩
    · cases e
  · cases e
theorem isiA_rel (R : Rep G ρ h H) {w : W} {x : LV} {T : Value} (hT : L2.TyX G.K H x T) (one : ∀ t c b, isi1 h w t = some b → RV G ρ H t c → ∃ s, c = .ty s ∧ PySem.W.kitOne G.K T (.type s) = some b) : ∀ {ts : List W} {cs : List LV} {b : Bool}, isiA h w ts = some b → RVs G ρ H ts cs → ∃ us, Paired L2.ClsV cs us ∧ (PySem.W.kitAny G.K T us = some b)
  | [], cs, b, e, r => by
    rw [r.inv0]
    simp only [isiA, Option.some.injEq] at e
    subst e
    exact ⟨[], .nil, rfl⟩
  | t :: ts, cs, b, e, r => by
    obtain ⟨c, z, rfl, r1, r2⟩ := r.inv
    unfold isiA at e
    split at e
    · rename_i a b' q q2
      cases e
      obtain ⟨s, rfl, k⟩ := one t c a q r1
      obtain ⟨us, h1, h2⟩ := isiA_rel R hT one q2 r2
      refine ⟨_ :: us, .cons (.ty s) h1, L2.kitAny_cons k (fun e => ?_) (fun e => by rw [e]; rfl)⟩
      rw [e, Bool.false_or]; exact h2
    · cases e
theorem pairs_rel : ∀ {ws : List W} {xs : List LV} {ps : List (W × W)}, RVs G ρ H ws xs → pairs? ws = some ps → ps.all (fun p => keyW p.1) = true →
    ∃ (as : List Addr) (kvs : List (L2.Key × LV)), xs = as.map L2.V.ref ∧ Paired (fun p kv => L2.SqT G.K H p [L2.kV kv.1, kv.2]) as kvs ∧ RPs G RK ρ H ps kvs
  | [], xs, ps, r, e, _ => by
    simp only [pairs?, Option.some.injEq] at e; subst e
    exact ⟨[], [], r.inv0, .nil, rfl⟩
  | w :: ws, xs, ps, r, e, hk => by
    obtain ⟨x, z, rfl, r1, r2⟩ := r.inv
    unfold pairs? at e
    split at e
    · cases ‹w :: ws = []›
    · rename_i k v r' q
      cases q
      obtain ⟨qs, e1, rfl⟩ := Option.map_eq_some_iff.mp e
      rw [List.all_cons, Bool.and_eq_true] at hk
      obtain ⟨as, kvs, rfl, h1, h2⟩ := pairs_rel r2 e1 hk.2
      obtain ⟨p, ys, rfl, t, q⟩ := rv_tup r1
      obtain ⟨y1, z1, rfl, q1, q⟩ := q.inv
      obtain ⟨y2, z2, rfl, q2, q⟩ := q.inv
      rw [q.inv0] at t
      obtain ⟨k', rk, rfl⟩ := rk_kV hk.1 q1
      exact ⟨p :: as, (k', y2) :: kvs, rfl, .cons t h1, by simp only [RPs]; exact ⟨k', y2, kvs, rfl, rk, q2, h2⟩⟩
    · cases e
theorem merge_rel : ∀ {ps acc : List (W × W)} {kvs aks : List (L2.Key × LV)}, RPs G RK ρ H ps kvs → RPs G RK ρ H acc aks → RPs G RK ρ H (ps.foldl (fun d p => put keyEq p.1 p.2 d) acc) (L2.mergeK aks kvs)
  | [], acc, kvs, aks, r, q => by simp only [RPs] at r; subst r; exact q
  | (k, v) :: ps, acc, kvs, aks, r, q => by
    simp only [RPs] at r
    obtain ⟨k', x, r', rfl, a, b, c⟩ := r
    unfold L2.mergeK
    rw [List.foldl_cons, List.foldl_cons]
    exact merge_rel c (put_rel hpK a b q)
section
variable {X : L2.Cx}
def bv : Bf → Value
  | .len => .builtin "len" | .tuple => .type "tuple" | .list => .type "list" | .isi => .builtin "isinstance" | .all => .builtin "all" | .any => .builtin "any"
  | .int => .type "int" | .str => .type "str" | .sum => .builtin "sum" | .repr => .builtin "repr" | .dict => .type "dict" | .max => .builtin "max" | .min => .builtin "min" | .sorted => .builtin "sorted"
def rF (G : Gx) (f : List W → Hp → P2) : List LV → LH → L2.VK → Prop := fun xs H Q => ∃ ρ h ws, Rep G ρ h H ∧ RVs G ρ H ws xs ∧ Val G Q ρ H (f ws h)
theorem seq_rel (R : Rep G ρ h H) {w : W} {x : LV} {ws : List W} (e : seq? h w = some ws) (r : RV G ρ H w x) : ∃ p ys, x = .ref p ∧ ((L2.SqL G.K H p ys ∧ ∃ n, w = .obj n) ∨ (L2.SqT G.K H p ys ∧ w = .tup ws)) ∧ RVs G ρ H ws ys := by
  unfold seq? at e
  split at e
  · cases e
    obtain ⟨p, ys, rfl, t, q⟩ := rv_tup r
    exact ⟨p, ys, rfl, .inr ⟨t, rfl⟩, q⟩
  · rename_i n
    obtain ⟨p, rfl, ep⟩ := rv_obj r
    obtain ⟨ys, t, q⟩ := R.seq ep e
    exact ⟨p, ys, rfl, .inl ⟨t, n, rfl⟩, q⟩
  · cases e
theorem bfn_ok (hK : X.K = G.K) (hc : X.calm = true) (b : Bf) (hb : match b with | .sorted | .repr => False | _ => True) : L2.CallR X (bv b) (rF G (bfn b)) := by
  intro pins s σ H xs us Q I rx q
  obtain ⟨ρ, h, ws, R, rs, V⟩ := q
  unfold bfn at V
  split at V
  · -- len
    rename_i x
    obtain ⟨y, z, rfl, r1, rs⟩ := rs.inv
    rw [rs.inv0] at rx
    split at V
    · split at V
      · rename_i hl
        simp only [RV] at r1; subst r1
        exact L2.call_len_str pins s σ H _ us Q I rx ⟨_, rfl, lim_le hl, V.here R (by simp [RV, S'_len])⟩
      · exact V.elim
    · obtain ⟨p, ys, rfl, t, q⟩ := rv_tup r1
      exact L2.call_len_seq pins s σ H _ us Q I rx ⟨p, ys, rfl, .inr (hK ▸ t), V.here R (by simp [RV, q.len])⟩
    · simp only [RV] at r1
      obtain ⟨p, ys, rfl, t, q⟩ := r1
      exact L2.call_len_seq pins s σ H _ us Q I rx ⟨p, ys, rfl, .inl (hK ▸ t.sq), V.here R (by simp [RV, q.len])⟩
    · obtain ⟨p, rfl, ep⟩ := rv_obj r1
      split at V
      · rename_i vs g
        obtain ⟨ys, t, q⟩ := R.seq ep (show h.lst? _ = some vs by simp [Hp.lst?, g])
        exact L2.call_len_seq pins s σ H _ us Q I rx ⟨p, ys, rfl, .inl (hK ▸ t), V.here R (by simp [RV, q.len])⟩
      · rename_i vs g
        obtain ⟨ys, t, q⟩ := R.seq ep (show h.lst? _ = some vs by simp [Hp.lst?, g])
        exact L2.call_len_seq pins s σ H _ us Q I rx ⟨p, ys, rfl, .inl (hK ▸ t), V.here R (by simp [RV, q.len])⟩
      · rename_i vs g
        obtain ⟨ks, e1, q⟩ := R.at ep g
        exact L2.call_lenD pins s σ H _ us Q I rx ⟨p, ks, rfl, e1, V.here R (by simp [RV, rps_len q])⟩
      · rename_i vs g
        obtain ⟨ks, e1, q⟩ := R.at ep g
        exact L2.call_len_dT pins s σ H _ us Q I rx ⟨p, ks, rfl, e1, V.here R (by simp [RV, rps_len q])⟩
      · exact V.elim
    · exact V.elim
  · -- tuple
    obtain ⟨y, z, rfl, r1, rs⟩ := rs.inv
    rw [rs.inv0] at rx
    split at V
    · rename_i vs e
      obtain ⟨p, ys, rfl, t, q⟩ := seq_rel R e r1
      refine L2.call_tuple_of pins s σ H _ us Q I rx ⟨p, ys, rfl, ?_⟩
      rcases t with ⟨t, n, _⟩ | ⟨t, e2⟩
      · exact .inl ⟨hK ▸ t, fun l hl => V.tup R q hl⟩
      · exact .inr ⟨hK ▸ t, V.here R (e2 ▸ r1)⟩
    · exact V.elim
  · -- list
    obtain ⟨y, z, rfl, r1, rs⟩ := rs.inv
    rw [rs.inv0] at rx
    split at V
    · rename_i vs
      simp only [RV] at r1
      obtain ⟨p, ys, rfl, t, q⟩ := r1
      exact L2.call_list_of pins s σ H _ us Q I rx ⟨p, ys, rfl, .inl (hK ▸ t.sq), fun l hl => V.newL R q hl⟩
    · split at V
      · rename_i vs e
        obtain ⟨p, ys, rfl, t, q⟩ := seq_rel R e r1
        exact L2.call_list_of pins s σ H _ us Q I rx ⟨p, ys, rfl, t.elim (fun t => .inl (hK ▸ t.1)) (fun t => .inr (hK ▸ t.1)), fun l hl => V.newL R q hl⟩
      · exact V.elim
  · -- isinstance
    rename_i x t
    obtain ⟨y, z, rfl, r1, rs⟩ := rs.inv
    obtain ⟨c, z, rfl, r2, rs⟩ := rs.inv
    rw [rs.inv0] at rx
    split at V
    · rename_i ts _
      cases em : ts.isEmpty with
      | true => rw [em] at V; exact V.elim
      | false =>
      rw [em] at V
      cases e : isiA h x ts with
      | none => rw [e] at V; exact V.elim
      | some b =>
        rw [e] at V
        obtain ⟨p, ys, rfl, tt, q⟩ := rv_tup' r2
        cases e0 : tn? h x with
        | none =>
          cases ts with
          | nil => simp at em
          | cons t ts =>
            have e9 : isi1 h x t = none := by
              unfold isi1
              rw [e0]
              cases t <;> rfl
            unfold isiA at e
            rw [e9] at e
            cases e
        | some t =>
          have T := tn_rel R e0 r1
          obtain ⟨us', h1, h2⟩ := isiA_rel R T (fun t' c b e rc => by
            unfold isi1 at e
            split at e
            · rename_i s
              rw [e0] at e
              simp only [RV] at rc
              exact ⟨s, rc, L2.kit_ty (kit_all t s b e)⟩
            · cases e) e q
          exact L2.call_isiT pins s σ H _ us Q I rx ⟨_, p, ys, _, us', b, rfl, tt, h1, hK ▸ T, hK ▸ h2, V.here R (by simp [RV])⟩
    · cases e : isi1 h x t with
      | none => rw [e] at V; exact V.elim
      | some b =>
        rw [e] at V
        obtain ⟨s', T, rfl, h1, h2⟩ := isi1_rel R e r1 r2
        exact L2.call_isi pins s σ H _ us Q I rx ⟨_, _, T, _, b, rfl, .ty s', hK ▸ h1, hK ▸ h2, V.here R (by simp [RV])⟩
  · -- all
    obtain ⟨y, z, rfl, r1, rs⟩ := rs.inv
    rw [rs.inv0] at rx
    obtain ⟨p, rfl, ep⟩ := rv_obj r1
    split at V
    · rename_i bs e
      obtain ⟨vs, e1, e2⟩ := Option.bind_eq_some_iff.mp e
      obtain ⟨ys, t, q⟩ := R.seq ep e1
      have := q.bools e2
      subst this
      exact L2.cr_all hc pins s σ H _ us Q I rx ⟨p, bs, rfl, hK ▸ t, V.here R (by simp [RV])⟩
    · exact V.elim
  · -- any
    obtain ⟨y, z, rfl, r1, rs⟩ := rs.inv
    rw [rs.inv0] at rx
    obtain ⟨p, rfl, ep⟩ := rv_obj r1
    split at V
    · rename_i bs e
      obtain ⟨vs, e1, e2⟩ := Option.bind_eq_some_iff.mp e
      obtain ⟨ys, t, q⟩ := R.seq ep e1
      have := q.bools e2
      subst this
      exact L2.cr_any hc pins s σ H _ us Q I rx ⟨p, bs, rfl, hK ▸ t, V.here R (by simp [RV])⟩
    · exact V.elim
  · -- int
    obtain ⟨y, z, rfl, r1, rs⟩ := rs.inv
    rw [rs.inv0] at rx
    split at V
    · simp only [RV] at r1; subst r1
      exact L2.call_int1 pins s σ H _ us Q I rx (.inl ⟨_, rfl, V.here R (by simp [RV])⟩)
    · rename_i b
      simp only [RV] at r1; subst r1
      refine L2.call_int1 pins s σ H _ us Q I rx (.inr ⟨_, rfl, V.here R ?_⟩)
      cases b <;> simp [RV, b2i]
    · rename_i t
      simp only [RV] at r1; subst r1
      split at V
      · rename_i hl
        split at V
        · rename_i n e
          obtain ⟨h1, h2⟩ := num?_val t 0 n e
          refine L2.call_int_str pins s σ H _ us Q I rx ⟨_, _, rfl, SX.int_S h1 hl.2 (by omega), by rw [S'_len]; exact hl.1, V.here R ?_⟩
          simp only [RV]
          rw [show NumText.digitsVal t = n from h2]
        · exact V.elim
      · exact V.elim
    · exact V.elim
  · -- str
    obtain ⟨y, z, rfl, r1, rs⟩ := rs.inv
    rw [rs.inv0] at rx
    split at V
    · simp only [RV] at r1; subst r1
      exact SkE.call_str_str pins s σ H _ us Q I rx ⟨_, rfl, V.here R (by simp [RV])⟩
    · rename_i n
      split at V
      · rename_i hl
        simp only [RV] at r1; subst r1
        refine L2.call_str_int pins s σ H _ us Q I rx ⟨_, rfl, ?_, V.here R ?_⟩
        · show n.log2 < 1920
          by_cases hz : n = 0
          · subst hz; decide
          · exact (Nat.log2_lt hz).mpr (Nat.lt_of_lt_of_le hl (by decide))
        · simp only [RV]
          rw [digs_num]
          exact congrArg L2.V.str (SX.num_S n)
      · exact V.elim
    · exact V.elim
  · -- sum
    obtain ⟨y, z, rfl, r1, rs⟩ := rs.inv
    rw [rs.inv0] at rx
    obtain ⟨p, rfl, ep⟩ := rv_obj r1
    split at V
    · rename_i bs e
      obtain ⟨vs, e1, e2⟩ := Option.bind_eq_some_iff.mp e
      obtain ⟨ys, t, q⟩ := R.seq ep e1
      have := q.ints e2
      subst this
      exact L2.cr_sum hc pins s σ H _ us Q I rx ⟨p, bs, rfl, hK ▸ t, V.here R (by simp [RV])⟩
    · exact V.elim
  · -- dict
    obtain ⟨y, z, rfl, r1, rs⟩ := rs.inv
    rw [rs.inv0] at rx
    obtain ⟨p, rfl, ep⟩ := rv_obj r1
    split at V
    · rename_i ps e
      obtain ⟨vs, e1, e2⟩ := Option.bind_eq_some_iff.mp e
      obtain ⟨ys, t, q⟩ := R.seq ep e1
      cases hk : ps.all (fun p => keyW p.1) with
      | false => rw [hk] at V; exact V.elim
      | true =>
        rw [hk] at V
        obtain ⟨as, kvs, rfl, h1, h2⟩ := pairs_rel q e2 hk
        refine L2.call_dictP hc pins s σ H _ us Q I rx ⟨p, as, kvs, rfl, hK ▸ t, hK ▸ h1, fun l hl => V.new R hl ⟨_, L2.upd_same, ?_⟩⟩
        exact RPs.mono (List.prefix_append _ _) (tk_upd (by rw [hl]; rfl)) _ _ (merge_rel h2 (show RPs G RK ρ H [] [] from rfl))
    · exact V.elim
  · exact hb.elim
  · -- max
    obtain ⟨y, z, rfl, r1, rs⟩ := rs.inv
    obtain ⟨c, z, rfl, r2, rs⟩ := rs.inv
    rw [rs.inv0] at rx
    simp only [RV] at r1 r2; subst r1 r2
    exact L2.call_max2 hc pins s σ H _ us Q I rx ⟨_, _, rfl, V.here R (by simp [RV])⟩
  · -- min
    obtain ⟨y, z, rfl, r1, rs⟩ := rs.inv
    obtain ⟨c, z, rfl, r2, rs⟩ := rs.inv
    rw [rs.inv0] at rx
    simp only [RV] at r1 r2; subst r1 r2
    exact L2.call_min2 hc pins s σ H _ us Q I rx ⟨_, _, rfl, V.here R (by simp [RV])⟩
  · exact hb.elim
  · exact V.elim
end
/-- repr of a list or a tuple of data, where no repr is under way -/
theorem call_repr {X : L2.Cx} (hg : X.A.guards = some []) (hu : X.A.units + 150 < cLine) : L2.CallR X (.builtin "repr") (fun xs H Q => ∃ a d, xs = [.ref a] ∧ L2.Dp X.K H (.ref a) d ∧ d.showable = true ∧ d.hasDict = false ∧ d.depth ≤ 100 ∧ d.shown.length ≤ sizeLine ∧ Q (.str d.shown) H) := by
  intro pins s σ H xs us Q I rx h
  obtain ⟨a, d, rfl, hd, h1, h2, h3, h4, q⟩ := h
  obtain ⟨u, rfl, r⟩ := L2.vals1 rx
  cases r
  obtain ⟨as, rd⟩ := hd.reads I d _ _ rfl
  exact repr_of_reads' rd h1 (by rw [h2]; intro z; cases z) hg (by omega) (fun _ _ e => e) (fun h' u tk hk => ⟨.str d.shown, H, I.kept hk, ⟨_, rfl⟩, q⟩) h4
/-- repr of data -/
theorem repr_ok (hK : X.K = G.K) (hg : X.A.guards = some []) (hu : X.A.units + 150 < cLine) : L2.CallR X (.builtin "repr") (rF G (bfn .repr)) := by
  intro pins s σ H xs us Q I rx q
  obtain ⟨ρ, h, ws, R, rs, V⟩ := q
  have go : ∀ x : W, ws = [x] → (∀ y, RV G ρ H x y → ∃ p, y = .ref p) → Val G Q ρ H (reprA x h) → wpAny (model X.prog X.w) X.A (call (.builtin "repr") us) (L2.EP X pins σ Q) X.xe s := fun x e hr V2 => by
    subst e
    obtain ⟨y, z, rfl, r1, rs⟩ := rs.inv
    rw [rs.inv0] at rx
    unfold reprA at V2
    cases hq : dataQ h DEEP x && (toD h DEEP x).showable && Nat.ble (toD h DEEP x).shown.cps.size LIM with
    | false => rw [hq] at V2; exact V2.elim
    | true =>
      rw [hq] at V2
      simp only [Bool.and_eq_true] at hq
      obtain ⟨p, rfl⟩ := hr y r1
      have hd := data_dp R DEEP x _ hq.1.1 r1
      rw [← hK] at hd
      refine call_repr hg hu pins s σ H _ us Q I rx ⟨p, _, rfl, hd, hq.1.2, PyData.hasDict_of_canLay _ (data_lay DEEP x hq.1.1), ?_, lim_le (Nat.le_of_ble_eq_true hq.2), V2.here R ?_⟩
      · exact Nat.le_trans (data_dep DEEP x) (by decide)
      · simp only [RV]
  match ws, go, V with
  | [.obj n], go, V => exact go _ rfl (fun y r => let ⟨p, e, _⟩ := rv_obj r; ⟨p, e⟩) V
  | [.tup xs], go, V => exact go _ rfl (fun y r => let ⟨p, _, e, _⟩ := rv_tup r; ⟨p, e⟩) V
  | [.non], _, V => exact V.elim
  | [.bl _], _, V => exact V.elim
  | [.int _], _, V => exact V.elim
  | [.str _], _, V => exact V.elim
  | [.lis _], _, V => exact V.elim
  | [.fn _], _, V => exact V.elim
  | [.ty _], _, V => exact V.elim
  | [.cls _], _, V => exact V.elim
  | [], _, V => exact V.elim
  | _ :: _ :: _, _, V => exact V.elim
end TX
end
section
set_option maxRecDepth 100000
set_option linter.unusedVariables false
/-! EvTr: from Python's tree to the tree language; what is not covered is 'bad', which the reckoner refuses. -/
namespace TX
open PySem PySem.Spec PyProof.Rows

/-- what a global name is -/
inductive Gr where
  | fn (g : Nat) | cls (c : Nat) | xcl (c : Nat) | bf (b : Bf) | ty (s : String) | cst (w : W) | rng | enm | met (hs : List Mh)
structure Tc where
  N : List Str
  gl : List (Str × Gr)
  at_ : List (Str × Nat)
  dt : Bool
  /-- whether lambdas are read -/
  lm : Bool
  /-- defs that may ask for repr, by their names; whether repr is read -/
  rg : List (Str × Nat)
  rr : Bool
def Tc.nl (tc : Tc) : Tc := ⟨tc.N, tc.gl, tc.at_, tc.dt, false, [], false⟩
def noPar : Arguments → Bool
  | ⟨[], [], none, [], [], none, []⟩ => true
  | _ => false
def slot? (N : List Str) (x : Str) : Option Nat := N.findIdx? (· == x)
def visB (sc : Scope) (x : Str) : Bool := match sc.names.lookup x with
  | some .local | some .cell | some .free => true
  | _ => false
/-- a name that is stored: local, or a cell of the very frame -/
def locB (sc : Scope) (fb : Str → Bool) (x : Str) : Bool := match sc.names.lookup x with
  | some .local => true
  | some .cell => fb x
  | _ => false
def glbB (sc : Scope) (x : Str) : Bool := match sc.names.lookup x with
  | some .globalImplicit => true
  | _ => false
def gr? (tc : Tc) (sc : Scope) (x : Str) : Option Gr := bif glbB sc x then tc.gl.lookup x else none
/-- a def that may ask for repr; repr itself -/
def rg? (tc : Tc) (sc : Scope) (x : Str) : Option Nat := bif glbB sc x then tc.rg.lookup x else none
def rr? (tc : Tc) (sc : Scope) (x : Str) : Bool := glbB sc x && tc.rr && (x == ("repr" : Str))
def bo? : Operator → Option BO
  | .Add => some .add | .Sub => some .sub | .Mult => some .mul | .FloorDiv => some .fdv | .Mod => some .mod | .Pow => some .pow | _ => none
def co? : CmpOp → CO
  | .Eq => .eq | .NotEq => .ne | .Lt => .lt | .LtE => .le | .Gt => .gt | .GtE => .ge | .Is => .is | .IsNot => .isn | .In => .inn | .NotIn => .nin
theorem bo_bo {o : Operator} {b : BO} (e : bo? o = some b) : bo b = o := by
  cases o <;> simp [bo?] at e <;> subst e <;> rfl
theorem co_co (o : CmpOp) : co (co? o) = o := by cases o <;> rfl
def plainE : Expr → Bool
  | .Starred .. | .Slice .. | .Set .. | .ListComp .. | .SetComp .. | .DictComp .. => false
  | _ => true
def nsE (e : Expr) : Bool := match e with | .Starred .. => false | _ => true
def ndE : Expr → Bool
  | .Name x _ => x != ("__debug__" : Str) && x != ("__classdict__" : Str) && x != ("__name__" : Str)
  | _ => true
def okName (x : Str) : Bool := x != ("__debug__" : Str) && x != ("__classdict__" : Str) && x != ("__name__" : Str)
def okBase : Expr → Bool
  | .Call (.Name _ _) [] [] _ => false
  | _ => true
def trEs (f : Expr → E) : List Expr → Es
  | [] => .nil
  | e :: es => .cons (f e) (trEs f es)
def trPs (f : Expr → E) : List (Option Expr) → List Expr → Option (List (E × E))
  | [], [] => some []
  | some k :: ks, v :: vs => match trPs f ks vs with
    | some r => some ((f k, f v) :: r)
    | none => none
  | _, _ => none
def flatE : List (E × E) → Es
  | [] => .nil
  | (k, v) :: r => .cons k (.cons v (flatE r))
def ownOf (N : List Str) : List (Str × NameKind) → Option (List (Str × Nat))
  | [] => some []
  | (x, k) :: r => match k with
    | .local | .cell => match ownOf N r with
      | some q => match slot? N x with
        | some i => some ((x, i) :: q)
        | none => some q
      | none => none
    | _ => ownOf N r
def fbOf (scope : Scope) (x : Str) : Bool := scope.names.lookup x == some .cell
def inL (l : List Nat) (j : Nat) : Bool := l.any (Nat.beq j)
def quietE : E → Bool
  | .var _ | .cst _ => true
  | _ => false
mutual
def quietT : T → Bool
  | .bad => true
  | .nm _ => true
  | .tp ts => quietTs ts
  | .sb a i => quietE a && quietE i
  | .at a _ => quietE a
def quietTs : Ts → Bool
  | .nil => true
  | .cons t ts => quietT t && quietTs ts
end
def trTs (f : Expr → T) : List Expr → Ts
  | [] => .nil
  | e :: es => .cons (f e) (trTs f es)
def setE (e : Expr) : Bool := match e with | .Set .. => false | _ => true
/-- types that are called -/
def bfTy (s : String) : Option Bf := if s = "tuple" then some .tuple else if s = "list" then some .list else if s = "int" then some .int else if s = "str" then some .str else if s = "dict" then some .dict else none
def sizeOk (n : Nat) : Bool := Nat.blt n 20
mutual
def trE (tc : Tc) : Nat → Scope → (Str → Bool) → Expr → E
  | 0, _, _, _ => .bad
  | n + 1, sc, fb, e => match e with
    | .Name x _ => bif okName x then (bif visB sc x then (match slot? tc.N x with
        | some i => .var i
        | none => .bad) else (match gr? tc sc x with
        | some (.fn g) => .cst (.fn g)
        | some (.cls c) => .cst (.cls c)
        | some (.ty s) => .cst (.ty s)
        | some (.cst w) => .cst w
        | _ => .bad)) else .bad
    | .Constant c _ _ => match c with
      | .none => .cst .non
      | .bool b => .cst (.bl b)
      | .int i => .cst (.int i)
      | .str s => .cst (.str s.cps.toList)
      | _ => .bad
    | .BinOp a o b _ => match bo? o with
      | some o => .bin o (trE tc n sc fb a) (trE tc n sc fb b)
      | none => .bad
    | .UnaryOp o a _ => match o with
      | .Not => .nt (trE tc n sc fb a)
      | .USub => .neg (trE tc n sc fb a)
      | _ => .bad
    | .BoolOp o es p => match es with
      | [] => .bad
      | [a] => trE tc n sc fb a
      | a :: b :: r => match o with
        | .And => .and (trE tc n sc fb a) (trE tc n sc fb (.BoolOp .And (b :: r) p))
        | .Or => .or (trE tc n sc fb a) (trE tc n sc fb (.BoolOp .Or (b :: r) p))
    | .IfExp c a b _ => .ite (trE tc n sc fb c) (trE tc n sc fb a) (trE tc n sc fb b)
    | .Compare a os bs _ => match os, bs with
      | [o], [b] => bif !behindInMarks o b then .cmp (co? o) (trE tc n sc fb a) (trE tc n sc fb b) else .bad
      | [o, o'], [b, d] => bif !lastMarks [o, o'] [b, d] then .chn (co? o) (co? o') (trE tc n sc fb a) (trE tc n sc fb b) (trE tc n sc fb d) else .bad
      | _, _ => .bad
    | .Tuple es _ _ => bif es.all nsE then .tup (trEs (trE tc n sc fb) es) else .bad
    | .List es _ => bif es.all nsE then .lst (trEs (trE tc n sc fb) es) else .bad
    | .Dict ks vs _ => match ks with
      | [] => match vs with
        | [] => .dct0 tc.dt
        | _ => .bad
      | k :: ks => bif (k :: ks).all (·.isSome) && Nat.beq (k :: ks).length vs.length && Nat.ble (k :: ks).length 15 then (match trPs (trE tc n sc fb) (k :: ks) vs with
        | some r => .dct (flatE r)
        | none => .bad) else .bad
    | .Subscript a i _ => match i with
      | .Slice lo hi st _ => match st with
        | none => .sl (trE tc n sc fb a) (match lo with
          | none => .non
          | some e => .som (trE tc n sc fb e)) (match hi with
          | none => .non
          | some e => .som (trE tc n sc fb e))
        | some (.UnaryOp .USub (.Constant (.int 1) _ _) _) => match lo, hi with
          | none, none => .rev (trE tc n sc fb a)
          | _, _ => .bad
        | _ => .bad
      | i => bif plainE i then .ix (trE tc n sc fb a) (trE tc n sc fb i) else .bad
    | .Attribute a f _ => bif okBase a then (match tc.at_.lookup f with
      | some f => .att (trE tc n sc fb a) f
      | none => .bad) else .bad
    | .Call f es kw pos => match kw with
      | [] => match f, es with
       | .Name x _, [.Lambda params body scope _] => bif okName x && tc.lm && noPar params && LamX.lamSB sc scope then (match gr? tc sc x with
          | some (.met hs) => .met hs (trE tc.nl n scope (fun _ => false) body)
          | _ => .bad) else .bad
       | f, es => bif es.all nsE then (match f with
        | .Name x _ => bif okName x then (match rg? tc sc x with
         | some g => .cal g (trEs (trE tc n sc fb) es)
         | none => bif rr? tc sc x then (match es with
          | [_] => .bfn .repr (trEs (trE tc n sc fb) es)
          | _ => .bad) else match gr? tc sc x with
          | some (.fn g) => .cal g (trEs (trE tc n sc fb) es)
          | some (.cls c) => .new c (trEs (trE tc n sc fb) es)
          | some (.bf b) => match b with
            | .repr => .bad
            | b => match es with
              | [] => .bad
              | _ => .bfn b (trEs (trE tc n sc fb) es)
          | some (.ty s) => match bfTy s with
            | some b => match es with
              | [] => .bad
              | _ => .bfn b (trEs (trE tc n sc fb) es)
            | none => .bad
          | _ => .bad) else .bad
        | .Attribute a f ap => bif okBase a && (ap.endLine == pos.line) && sizeOk es.length then (match tc.at_.lookup f with
          | some f => .mth (trE tc n sc fb a) f (trEs (trE tc n sc fb) es)
          | none => .bad) else .bad
        | _ => .bad) else .bad
      | _ => .bad
    | .ListComp e gs scope _ => match gs with
      | [⟨t, i, ifs, as⟩] => bif decide (as = 0) then (match ownOf tc.N scope.names with
        | some own => bif L2.blkC tc.N sc scope own then .lc (trE tc.nl n (L2.relS scope sc) (fbOf scope) e) (trT tc.nl (inL (own.map (·.2))) n (L2.relS scope sc) (fbOf scope) t) (trI tc n sc fb t i) (match ifs with
          | [] => .nil
          | [c] => .one (trE tc.nl n (L2.relS scope sc) (fbOf scope) c)
          | _ => .one .bad) (own.map (·.2)) else .bad
        | none => .bad) else .bad
      | _ => .bad
    | .DictComp k v gs scope _ => match gs with
      | [⟨t, i, [], as⟩] => bif decide (as = 0) then (match ownOf tc.N scope.names with
        | some own => bif L2.blkC tc.N sc scope own then .dc (trE tc.nl n (L2.relS scope sc) (fbOf scope) k) (trE tc.nl n (L2.relS scope sc) (fbOf scope) v) (trT tc.nl (inL (own.map (·.2))) n (L2.relS scope sc) (fbOf scope) t) (trI tc n sc fb t i) (own.map (·.2)) else .bad
        | none => .bad) else .bad
      | _ => .bad
    | _ => .bad
/-- a target -/
def trT (tc : Tc) (V : Nat → Bool) : Nat → Scope → (Str → Bool) → Expr → T
  | 0, _, _, _ => .bad
  | n + 1, sc, fb, e => match e with
    | .Name x _ => bif locB sc fb x then (match slot? tc.N x with
      | some i => bif V i then .nm i else .bad
      | none => .bad) else .bad
    | .Tuple es _ _ => bif es.all nsE && quietTs (trTs (trT tc V n sc fb) es) then .tp (trTs (trT tc V n sc fb) es) else .bad
    | .Subscript a i _ => bif plainE i then .sb (trE tc n sc fb a) (trE tc n sc fb i) else .bad
    | .Attribute a f _ => match tc.at_.lookup f with
      | some f => .at (trE tc n sc fb a) f
      | _ => .bad
    | _ => .bad
/-- what is walked -/
def trI (tc : Tc) : Nat → Scope → (Str → Bool) → Expr → Expr → It
  | 0, _, _, _, _ => .bad
  | n + 1, sc, fb, t, e => match e with
    | .Call (.Name x p) es kw pos => match kw with
      | [] => match gr? tc sc x with
        | some .rng => bif es.all nsE && Nat.blt 0 es.length && Nat.ble es.length 3 && (x == ("range" : Str)) then .rng (trEs (trE tc n sc fb) es) else .bad
        | some .enm => match t, es with
          | .Tuple .., [a] => bif nsE a && (x == ("enumerate" : Str)) then .enm (trE tc n sc fb a) else .bad
          | _, _ => .bad
        | _ => .ex (trE tc n sc fb (.Call (.Name x p) es [] pos))
      | _ => .bad
    | .Set .. => .bad
    | e => .ex (trE tc n sc fb e)
end
end TX
end
section
set_option maxRecDepth 100000
set_option linter.unusedVariables false
/-! EvExp: expressions. -/
namespace TX
open PySem PySem.Spec PyProof.Rows
variable {G : Gx} {ρ ρ' ρ'' : List Addr} {H H' H'' : LH} {h h' : Hp} {a : Addr}
def Wants (Q : L2.VK) (G : Gx) : W → Hp → List Addr → LH → Prop := fun w _ ρ' H' => ∀ x, RV G ρ' H' w x → Q x H'
def tev (G : Gx) (Y : L2.WX) (c : Cf) (e : E) : L2.TE := fun σ H Q => ∃ ρ h τ, Rep G ρ h H ∧ RSl G ρ H τ σ ∧ Post G Y σ ρ H (Wants Q G) (evE c e τ h)
def tet (G : Gx) (Y : L2.WX) (c : Cf) (e : E) : L2.TT := fun σ H Q => ∃ ρ h τ, Rep G ρ h H ∧ RSl G ρ H τ σ ∧ Post G Y σ ρ H (fun b _ _ H' => Q b H') (truR (evE c e τ h))
def tes (G : Gx) (Y : L2.WX) (c : Cf) (e : Es) : L2.TA := fun σ H Q => ∃ ρ h τ, Rep G ρ h H ∧ RSl G ρ H τ σ ∧ Post G Y σ ρ H (fun ws _ ρ' H' => ∀ xs, RVs G ρ' H' ws xs → Q xs H') (evEs c e τ h)
variable {Y : L2.WX} {σ : L2.St} {c : Cf} {Q : L2.VK} {τ : Sl} {X : L2.Cx}
theorem RSl.to (r : RSl G ρ H τ σ) (t : To ρ H ρ' H') (R : Rep G ρ h H) : RSl G ρ' H' τ σ := r.mono t.pre (t.tk R)
theorem RV.to {w : W} {x : LV} (r : RV G ρ H w x) (t : To ρ H ρ' H') (R : Rep G ρ h H) : RV G ρ' H' w x := r.mono' t R
theorem RVs.to {w : List W} {x : List LV} (r : RVs G ρ H w x) (t : To ρ H ρ' H') (R : Rep G ρ h H) : RVs G ρ' H' w x := r.mono' t R
theorem Post.val {o : P2} (p : Post G Y σ ρ H (Wants Q G) (lf o)) : Val G Q ρ H o := by
  cases o with
  | none => exact p
  | some q => exact fun ρ' H' x t R r => p ρ' H' t R x r
theorem Post.here {α : Type} {P : α → Hp → List Addr → LH → Prop} {a : α} (p : Post G Y σ ρ H P (.ok a h)) (R : Rep G ρ h H) : P a h ρ H := p ρ H .refl R
/-- the answer is wanted -/
theorem want (p : Post G Y σ ρ H (Wants Q G) (.ok w h)) (R : Rep G ρ h H) {x : LV} (r : RV G ρ H w x) : Q x H := p ρ H .refl R x r
/-- go on behind an expression -/
theorem goE {e : E} {f : W → Hp → R W} (R : Rep G ρ h H) (S : RSl G ρ H τ σ) {Q' : L2.VK} (p : Post G Y σ ρ H (Wants Q G) ((evE c e τ h).b f))
    (k : ∀ w h1 ρ1 H1 x, evE c e τ h = .ok w h1 → Rep G ρ1 h1 H1 → RSl G ρ1 H1 τ σ → RV G ρ1 H1 w x → To ρ H ρ1 H1 → Post G Y σ ρ1 H1 (Wants Q G) (f w h1) → Q' x H1) : tev G Y c e σ H Q' :=
  ⟨ρ, h, τ, R, S, p.bind.imp fun w h1 ρ1 H1 e1 t1 R1 q x r => k w h1 ρ1 H1 x e1 R1 (S.to t1 R) r t1 q⟩
/-! ### leaves -/
theorem pe_cst {e : Expr} {w : W} {v : LV} (hr : ∀ ρ H, RV G ρ H w v) (he : L2.PE X e (L2.tC v)) : L2.PE X e (tev G Y c (.cst w)) := by
  refine ⟨fun pins s σ H Q I hh => ?_⟩
  obtain ⟨ρ, h, τ, R, S, p⟩ := hh
  exact he.run pins s σ H Q I (want p R (hr ρ H))
theorem pe_slot {x : Str} {pos : Pos} {i : Nat} (hN : X.N[i]? = some x) (hv : L2.Vis X.env.scope x) (hd : (x == ("__debug__" : Str)) = false) (hcd : (x == ("__classdict__" : Str)) = false) : L2.PE X (.Name x pos) (tev G Y c (.var i)) := by
  refine ⟨fun pins s σ H Q I hh => ?_⟩
  obtain ⟨ρ, h, τ, R, S, p⟩ := hh
  simp only [evE] at p
  split at p
  · rename_i w e
    obtain ⟨x', e1, r⟩ := S.2 i w e
    exact (L2.pe_var hN hv hd hcd).run pins s σ H Q I ⟨x', e1, want p R r⟩
  · exact p.elim
/-! ### operators -/
theorem pe_bin (hK : X.K = G.K) {a b : Expr} {a' b' : E} {o : BO} {pos : Pos} (ha : L2.PE X a (tev G Y c a')) (hb : L2.PE X b (tev G Y c b')) : L2.PE X (.BinOp a (bo o) b pos) (tev G Y c (.bin o a' b')) := by
  refine ⟨fun pins s σ H Q I hh => ?_⟩
  obtain ⟨ρ, h, τ, R, S, p⟩ := hh
  simp only [evE] at p
  refine (L2.pe_op (op_all hK o) ha hb).run pins s σ H Q I ?_
  refine goE R S p fun w h1 ρ1 H1 x e1 R1 S1 r1 t1 p => ?_
  refine goE R1 S1 p fun v h2 ρ2 H2 y e2 R2 S2 r2 t2 p => ?_
  exact ⟨ρ2, h2, w, v, R2, r1.to t2 R1, r2, p.val⟩
theorem pe_neg {a : Expr} {a' : E} {pos : Pos} (ha : L2.PE X a (tev G Y c a')) : L2.PE X (.UnaryOp .USub a pos) (tev G Y c (.neg a')) := by
  refine ⟨fun pins s σ H Q I hh => ?_⟩
  obtain ⟨ρ, h, τ, R, S, p⟩ := hh
  simp only [evE] at p
  refine (L2.pe_un L2.un_neg ha).run pins s σ H Q I ?_
  refine goE R S p fun w h1 ρ1 H1 x e1 R1 S1 r1 t1 p => ?_
  split at p
  · simp only [RV] at r1; subst r1
    exact ⟨_, rfl, want p R1 (by simp [RV])⟩
  · exact p.elim
theorem truR_ok {w : W} : truR (.ok w h) = match tru h w with
    | some b => .ok b h
    | none => .no := rfl
/-- a value, then its truth -/
theorem goT {β : Type} {e : E} {P : β → Hp → List Addr → LH → Prop} {f : Bool → Hp → R β} (R : Rep G ρ h H) (S : RSl G ρ H τ σ) {Q' : L2.VK} (p : Post G Y σ ρ H P ((truR (evE c e τ h)).b f))
    (k : ∀ w b h1 ρ1 H1 x, evE c e τ h = .ok w h1 → tru h1 w = some b → Rep G ρ1 h1 H1 → RSl G ρ1 H1 τ σ → RV G ρ1 H1 w x → To ρ H ρ1 H1 → Post G Y σ ρ1 H1 P (f b h1) → Q' x H1) : tev G Y c e σ H Q' := by
  refine ⟨ρ, h, τ, R, S, ?_⟩
  have q : Post G Y σ ρ H P ((evE c e τ h).b fun w h1 => (truR (.ok w h1)).b f) := by
    revert p
    unfold truR
    cases evE c e τ h <;> exact fun p => p
  refine q.bind.imp fun w h1 ρ1 H1 e1 t1 R1 q x r => ?_
  rw [truR_ok] at q
  cases z : tru h1 w with
  | none => rw [z] at q; exact q.elim
  | some b => rw [z] at q; exact k w b h1 ρ1 H1 x e1 z R1 (S.to t1 R) r t1 q
theorem pe_nt (hK : X.K = G.K) {a : Expr} {a' : E} {pos : Pos} (ha : L2.PE X a (tev G Y c a')) : L2.PE X (.UnaryOp .Not a pos) (tev G Y c (.nt a')) := by
  refine ⟨fun pins s σ H Q I hh => ?_⟩
  obtain ⟨ρ, h, τ, R, S, p⟩ := hh
  simp only [evE] at p
  refine (L2.pe_notT ha).run pins s σ H Q I ?_
  refine goT R S p fun w b h1 ρ1 H1 x e1 z R1 S1 r1 t1 p => ?_
  exact ⟨b, hK ▸ tru_rel R1 z r1, want p R1 (by simp [RV])⟩
theorem pe_and (hK : X.K = G.K) {a b : Expr} {a' b' : E} {r : List Expr} {pos : Pos} (ha : L2.PE X a (tev G Y c a')) (hb : L2.PE X (.BoolOp .And (b :: r) pos) (tev G Y c b')) : L2.PE X (.BoolOp .And (a :: b :: r) pos) (tev G Y c (.and a' b')) := by
  refine ⟨fun pins s σ H Q I hh => ?_⟩
  obtain ⟨ρ, h, τ, R, S, p⟩ := hh
  simp only [evE] at p
  refine (L2.pe_andT ha hb).run pins s σ H Q I ?_
  refine goE R S p fun w h1 ρ1 H1 x e1 R1 S1 r1 t1 p => ?_
  split at p
  · rename_i z
    exact ⟨true, hK ▸ tru_rel R1 z r1, ⟨ρ1, h1, τ, R1, S1, p⟩⟩
  · rename_i z
    exact ⟨false, hK ▸ tru_rel R1 z r1, want p R1 r1⟩
  · exact p.elim
theorem pe_or (hK : X.K = G.K) {a b : Expr} {a' b' : E} {r : List Expr} {pos : Pos} (ha : L2.PE X a (tev G Y c a')) (hb : L2.PE X (.BoolOp .Or (b :: r) pos) (tev G Y c b')) : L2.PE X (.BoolOp .Or (a :: b :: r) pos) (tev G Y c (.or a' b')) := by
  refine ⟨fun pins s σ H Q I hh => ?_⟩
  obtain ⟨ρ, h, τ, R, S, p⟩ := hh
  simp only [evE] at p
  refine (L2.pe_orT ha hb).run pins s σ H Q I ?_
  refine goE R S p fun w h1 ρ1 H1 x e1 R1 S1 r1 t1 p => ?_
  split at p
  · rename_i z
    exact ⟨true, hK ▸ tru_rel R1 z r1, want p R1 r1⟩
  · rename_i z
    exact ⟨false, hK ▸ tru_rel R1 z r1, ⟨ρ1, h1, τ, R1, S1, p⟩⟩
  · exact p.elim
theorem goB {β : Type} {e : E} {P : β → Hp → List Addr → LH → Prop} {f : Bool → Hp → R β} (R : Rep G ρ h H) (S : RSl G ρ H τ σ) {Q' : Bool → LH → Prop} (p : Post G Y σ ρ H P ((truR (evE c e τ h)).b f))
    (k : ∀ b h1 ρ1 H1, Rep G ρ1 h1 H1 → RSl G ρ1 H1 τ σ → To ρ H ρ1 H1 → Post G Y σ ρ1 H1 P (f b h1) → Q' b H1) : tet G Y c e σ H Q' :=
  ⟨ρ, h, τ, R, S, p.bind.imp fun b h1 ρ1 H1 e1 t1 R1 q => k b h1 ρ1 H1 R1 (S.to t1 R) t1 q⟩
theorem pe_ite {d a b : Expr} {d' a' b' : E} {pos : Pos} (hd : L2.PT X d (tet G Y c d')) (ha : L2.PE X a (tev G Y c a')) (hb : L2.PE X b (tev G Y c b')) : L2.PE X (.IfExp d a b pos) (tev G Y c (.ite d' a' b')) := by
  refine ⟨fun pins s σ H Q I hh => ?_⟩
  obtain ⟨ρ, h, τ, R, S, p⟩ := hh
  simp only [evE] at p
  refine (L2.pe_ifExp hd ha hb).run pins s σ H Q I ?_
  refine goB R S p fun t h1 ρ1 H1 R1 S1 t1 p => ?_
  cases t with
  | true => exact ⟨ρ1, h1, τ, R1, S1, p⟩
  | false => exact ⟨ρ1, h1, τ, R1, S1, p⟩
theorem Post.bool {o : Option Bool} (p : Post G Y σ ρ H (Wants Q G) (lf (boolR o h))) (R : Rep G ρ h H) : ∃ r, o = some r ∧ Q (.bl r) H := by
  cases o with
  | none => exact p.elim
  | some r => exact ⟨r, rfl, want p R (by simp [RV])⟩
theorem pe_cmpE (hK : X.K = G.K) (hu : X.A.units + 65 < cLine) {a b : Expr} {a' b' : E} {o : CO} {pos : Pos} (hm : behindInMarks (co o) b = false) (ha : L2.PE X a (tev G Y c a')) (hb : L2.PE X b (tev G Y c b')) : L2.PE X (.Compare a [co o] [b] pos) (tev G Y c (.cmp o a' b')) := by
  refine ⟨fun pins s σ H Q I hh => ?_⟩
  obtain ⟨ρ, h, τ, R, S, p⟩ := hh
  simp only [evE] at p
  refine (L2.pe_cmpR (cmp_ok hK hu o) ha hb hm).run pins s σ H Q I ?_
  refine goE R S p fun w h1 ρ1 H1 x e1 R1 S1 r1 t1 p => ?_
  refine goE R1 S1 p fun v h2 ρ2 H2 y e2 R2 S2 r2 t2 p => ?_
  exact ⟨ρ2, h2, w, v, R2, r1.to t2 R1, r2, p.bool R2⟩
end TX
end
section
set_option maxRecDepth 100000
set_option linter.unusedVariables false
/-! EvExp2: more expressions; tests. -/
namespace TX
open PySem PySem.Spec PyProof.Rows
variable {G : Gx} {ρ ρ' ρ'' : List Addr} {H H' H'' : LH} {h h' : Hp} {a : Addr}
variable {Y : L2.WX} {σ : L2.St} {c : Cf} {Q : L2.VK} {τ : Sl} {X : L2.Cx}
theorem pe_chn (hK : X.K = G.K) (hu : X.A.units + 65 < cLine) {a b d : Expr} {a' b' d' : E} {o o' : CO} {pos : Pos} (hm : lastMarks [co o, co o'] [b, d] = false) (ha : L2.PE X a (tev G Y c a')) (hb : L2.PE X b (tev G Y c b')) (hd : L2.PE X d (tev G Y c d')) :
    L2.PE X (.Compare a [co o, co o'] [b, d] pos) (tev G Y c (.chn o o' a' b' d')) := by
  refine ⟨fun pins s σ H Q I hh => ?_⟩
  obtain ⟨ρ, h, τ, R, S, p⟩ := hh
  simp only [evE] at p
  refine (L2.pe_chain (cmp_ok hK hu o) (cmp_ok hK hu o') ha hb hd hm).run pins s σ H Q I ?_
  refine goE R S p fun w h1 ρ1 H1 x e1 R1 S1 r1 t1 p => ?_
  refine goE R1 S1 p fun v h2 ρ2 H2 y e2 R2 S2 r2 t2 p => ?_
  split at p
  · rename_i z
    refine ⟨ρ2, h2, w, v, R2, r1.to t2 R1, r2, true, z, true, rfl, ?_⟩
    rw [if_pos rfl]
    refine goE R2 S2 p fun u h3 ρ3 H3 y3 e3 R3 S3 r3 t3 p => ?_
    exact ⟨ρ3, h3, v, u, R3, r2.to t3 R2, r3, p.bool R3⟩
  · rename_i z
    exact ⟨ρ2, h2, w, v, R2, r1.to t2 R1, r2, false, z, false, rfl, want p R2 (by simp [RV])⟩
  · exact p.elim
theorem pt_chn (hK : X.K = G.K) (hu : X.A.units + 65 < cLine) {a b d : Expr} {a' b' d' : E} {o o' : CO} {pos : Pos} (hm : lastMarks [co o, co o'] [b, d] = false) (ha : L2.PE X a (tev G Y c a')) (hb : L2.PE X b (tev G Y c b')) (hd : L2.PE X d (tev G Y c d')) :
    L2.PT X (.Compare a [co o, co o'] [b, d] pos) (tet G Y c (.chn o o' a' b' d')) := by
  refine ⟨fun pins s σ H Q I hh => ?_⟩
  obtain ⟨ρ, h, τ, R, S, p⟩ := hh
  have q : Post G Y σ ρ H (Wants (fun x H => ∃ k, x = .bl k ∧ Q k H) G) (evE c (.chn o o' a' b' d') τ h) := by
    have hb : ∀ w h1, evE c (.chn o o' a' b' d') τ h = .ok w h1 → ∃ k, w = .bl k := by
      intro w h1 e
      simp only [evE] at e
      cases e1 : evE c a' τ h with
      | no => rw [e1] at e; cases e
      | ex _ _ => rw [e1] at e; cases e
      | ok x h2 =>
        rw [e1] at e
        change ((evE c b' τ h2).b fun y h => _) = _ at e
        cases e2 : evE c b' τ h2 with
        | no => rw [e2] at e; cases e
        | ex _ _ => rw [e2] at e; cases e
        | ok y h3 =>
          rw [e2] at e
          dsimp only [TX.R.b] at e
          split at e
          · cases e3 : evE c d' τ h3 with
            | no => rw [e3] at e; cases e
            | ex _ _ => rw [e3] at e; cases e
            | ok z h4 =>
              rw [e3] at e
              dsimp only at e
              cases e4 : cmpop o' y z h4 with
              | none => rw [e4] at e; cases e
              | some k => rw [e4] at e; cases e; exact ⟨k, rfl⟩
          · cases e; exact ⟨false, rfl⟩
          · cases e
    cases e : evE c (.chn o o' a' b' d') τ h with
    | no => rw [e] at p; exact p
    | ex x h1 => rw [e] at p; exact p
    | ok w h1 =>
      obtain ⟨k, rfl⟩ := hb w h1 e
      rw [e] at p
      intro ρ1 H1 t1 R1 x r
      simp only [RV] at r; subst r
      exact ⟨k, rfl, p ρ1 H1 t1 R1⟩
  simp only [evE] at q
  refine (L2.pt_chain (cmp_ok hK hu o) (cmp_ok hK hu o') ha hb hd hm).run pins s σ H Q I ?_
  show L2.tChain _ _ _ _ _ σ H _
  refine goE R S q fun w h1 ρ1 H1 x e1 R1 S1 r1 t1 p => ?_
  refine goE R1 S1 p fun v h2 ρ2 H2 y e2 R2 S2 r2 t2 p => ?_
  split at p
  · rename_i z
    refine ⟨ρ2, h2, w, v, R2, r1.to t2 R1, r2, true, z, true, rfl, ?_⟩
    rw [if_pos rfl]
    refine goE R2 S2 p fun u h3 ρ3 H3 y3 e3 R3 S3 r3 t3 p => ?_
    exact ⟨ρ3, h3, v, u, R3, r2.to t3 R2, r3, p.bool R3⟩
  · rename_i z
    exact ⟨ρ2, h2, w, v, R2, r1.to t2 R1, r2, false, z, false, rfl, want p R2 (by simp [RV])⟩
  · exact p.elim
/-! ### rows of expressions -/
theorem pa_nil : L2.PA X [] (tes G Y c .nil) := by
  refine ⟨fun pos pins s σ H Q I hh => ?_⟩
  obtain ⟨ρ, h, τ, R, S, p⟩ := hh
  simp only [evEs] at p
  exact L2.pa_nil.run pos pins s σ H Q I (p.here R [] .nil)
theorem goS {e : Es} {P : TX.W → Hp → List Addr → LH → Prop} {f : List TX.W → Hp → R TX.W} (R : Rep G ρ h H) (S : RSl G ρ H τ σ) {Q' : List LV → LH → Prop} (p : Post G Y σ ρ H P ((evEs c e τ h).b f))
    (k : ∀ ws h1 ρ1 H1 xs, evEs c e τ h = .ok ws h1 → Rep G ρ1 h1 H1 → RSl G ρ1 H1 τ σ → RVs G ρ1 H1 ws xs → To ρ H ρ1 H1 → Post G Y σ ρ1 H1 P (f ws h1) → Q' xs H1) : tes G Y c e σ H Q' :=
  ⟨ρ, h, τ, R, S, p.bind.imp fun w h1 ρ1 H1 e1 t1 R1 q x r => k w h1 ρ1 H1 x e1 R1 (S.to t1 R) r t1 q⟩
theorem starEach_cons {e : Expr} {es : List Expr} {env : Env} (h : (match e with | .Starred .. => false | _ => true) = true) : starEach (e :: es) env = (false, eval e env) :: starEach es env := by
  cases e <;> first | rfl | cases h
theorem pa_cons {e : Expr} {es : List Expr} {a : E} {as : Es} (hs : (match e with | .Starred .. => false | _ => true) = true) (ha : L2.PE X e (tev G Y c a)) (hr : L2.PA X es (tes G Y c as)) : L2.PA X (e :: es) (tes G Y c (.cons a as)) := by
  refine ⟨fun pos pins s σ H Q I hh => ?_⟩
  obtain ⟨ρ, h, τ, R, S, p⟩ := hh
  simp only [evEs] at p
  refine (L2.pa_cons ha hr (starEach_cons hs)).run pos pins s σ H Q I ?_
  refine ⟨ρ, h, τ, R, S, p.bind.imp fun w h1 ρ1 H1 e1 t1 R1 p x r1 => ?_⟩
  refine ⟨ρ1, h1, τ, R1, S.to t1 R, p.bind.imp fun ws h2 ρ2 H2 e2 t2 R2 p xs r2 => ?_⟩
  exact p.here R2 (x :: xs) (RVs.cons (r1.to t2 R1) r2)
theorem pe_tup {es : List Expr} {as : Es} {k : Nat} {pos : Pos} (ha : L2.PA X es (tes G Y c as)) : L2.PE X (.Tuple es k pos) (tev G Y c (.tup as)) := by
  refine ⟨fun pins s σ H Q I hh => ?_⟩
  obtain ⟨ρ, h, τ, R, S, p⟩ := hh
  simp only [evE] at p
  refine (L2.pe_tup ha).run pins s σ H Q I ?_
  refine goS R S p fun ws h1 ρ1 H1 xs e1 R1 S1 r1 t1 p => ?_
  split at p
  · rename_i hl
    exact ⟨by rw [r1.len]; exact lim_le hl, fun q hq => Val.tup (p.val (o := some (_, _))) R1 r1 hq⟩
  · exact p.elim
theorem pe_lst {es : List Expr} {as : Es} {pos : Pos} (ha : L2.PA X es (tes G Y c as)) : L2.PE X (.List es pos) (tev G Y c (.lst as)) := by
  refine ⟨fun pins s σ H Q I hh => ?_⟩
  obtain ⟨ρ, h, τ, R, S, p⟩ := hh
  simp only [evE] at p
  refine (L2.pe_lst ha).run pins s σ H Q I ?_
  refine goS R S p fun ws h1 ρ1 H1 xs e1 R1 S1 r1 t1 p => ?_
  split at p
  · rename_i hl
    exact ⟨by rw [r1.len]; exact lim_le hl, fun q hq => Val.newL (p.val (o := some (_, _))) R1 r1 hq⟩
  · exact p.elim
theorem pe_dct0K {pos : Pos} : L2.PE X (.Dict [] [] pos) (tev G Y c (.dct0 false)) := by
  refine ⟨fun pins s σ H Q I hh => ?_⟩
  obtain ⟨ρ, h, τ, R, S, p⟩ := hh
  simp only [evE] at p
  exact L2.pe_dnewK.run pins s σ H Q I fun q hq => Val.new (p.val (o := some (_, _))) R hq ⟨[], L2.upd_same, rfl⟩
theorem pe_dct0T {pos : Pos} : L2.PE X (.Dict [] [] pos) (tev G Y c (.dct0 true)) := by
  refine ⟨fun pins s σ H Q I hh => ?_⟩
  obtain ⟨ρ, h, τ, R, S, p⟩ := hh
  simp only [evE] at p
  exact L2.pe_dnewT.run pins s σ H Q I fun q hq => Val.new (p.val (o := some (_, _))) R hq ⟨[], L2.upd_same, rfl⟩
theorem plainIx {b : Expr} (h : plainE b = true) : L2.PlainIx b := by
  intro o i
  cases b <;> first | rfl | cases h
theorem pe_ix (hK : X.K = G.K) (hu : X.A.units + 65 < cLine) {a b : Expr} {a' b' : E} {pos : Pos} (hp : plainE b = true) (ha : L2.PE X a (tev G Y c a')) (hb : L2.PE X b (tev G Y c b')) : L2.PE X (.Subscript a b pos) (tev G Y c (.ix a' b')) := by
  refine ⟨fun pins s σ H Q I hh => ?_⟩
  obtain ⟨ρ, h, τ, R, S, p⟩ := hh
  simp only [evE] at p
  -- is it a dict?
  by_cases hd : ∃ w h1 v h2, evE c a' τ h = .ok w h1 ∧ evE c b' τ h1 = .ok v h2 ∧ isD h2 w = true
  · obtain ⟨w0, h10, v0, h20, e10, e20, d0⟩ := hd
    refine (L2.pe_dget (by omega) ha hb (plainIx hp)).run pins s σ H Q I ?_
    refine goE R S p fun w h1 ρ1 H1 x e1 R1 S1 r1 t1 p => ?_
    refine goE R1 S1 p fun v h2 ρ2 H2 y e2 R2 S2 r2 t2 p => ?_
    rw [e10] at e1; cases e1
    rw [e20] at e2; cases e2
    exact dix_rel R2 (r1.to t2 R1) r2 d0 p.val
  · refine (L2.pe_ix (ix_ok hK) ha hb (plainIx hp)).run pins s σ H Q I ?_
    refine goE R S p fun w h1 ρ1 H1 x e1 R1 S1 r1 t1 p => ?_
    refine goE R1 S1 p fun v h2 ρ2 H2 y e2 R2 S2 r2 t2 p => ?_
    refine ⟨ρ2, h2, w, v, R2, r1.to t2 R1, r2, ?_, p.val⟩
    cases z : isD h2 w with
    | false => rfl
    | true => exact absurd ⟨w, h1, v, h2, e1, e2, z⟩ hd
def tpo (G : Gx) (Y : L2.WX) (c : Cf) (o : Option') : L2.TO := fun σ H Q => ∃ ρ h τ, Rep G ρ h H ∧ RSl G ρ H τ σ ∧ Post G Y σ ρ H (fun v _ ρ' H' => Q v H') (evO c o τ h)
theorem po_non : L2.PO X none (tpo G Y c .non) := by
  refine ⟨fun pins s σ H Q I hh => ?_⟩
  obtain ⟨ρ, h, τ, R, S, p⟩ := hh
  simp only [evO] at p
  exact L2.po_none.run pins s σ H Q I (p.here R)
theorem po_som {e : Expr} {a : E} (ha : L2.PE X e (tev G Y c a)) : L2.PO X (some e) (tpo G Y c (.som a)) := by
  refine ⟨fun pins s σ H Q I hh => ?_⟩
  obtain ⟨ρ, h, τ, R, S, p⟩ := hh
  simp only [evO] at p
  refine (L2.po_some ha).run pins s σ H Q I ?_
  refine ⟨ρ, h, τ, R, S, p.bind.imp fun w h1 ρ1 H1 e1 t1 R1 p x r1 => ?_⟩
  split at p
  · simp only [RV] at r1; subst r1
    exact ⟨_, rfl, p.here R1⟩
  · exact p.elim
theorem pe_sl (hK : X.K = G.K) {a : Expr} {lo hi : Option Expr} {a' : E} {l r : Option'} {pos p2 : Pos} (ha : L2.PE X a (tev G Y c a')) (hl : L2.PO X lo (tpo G Y c l)) (hr : L2.PO X hi (tpo G Y c r)) : L2.PE X (.Subscript a (.Slice lo hi none p2) pos) (tev G Y c (.sl a' l r)) := by
  refine ⟨fun pins s σ H Q I hh => ?_⟩
  obtain ⟨ρ, h, τ, R, S, p⟩ := hh
  simp only [evE] at p
  refine (L2.pe_slice (sl_ok hK) ha hl hr).run pins s σ H Q I ?_
  refine goE R S p fun w h1 ρ1 H1 x e1 R1 S1 r1 t1 p => ?_
  refine ⟨ρ1, h1, τ, R1, S1, p.bind.imp fun u h2 ρ2 H2 e2 t2 R2 p => ?_⟩
  refine ⟨ρ2, h2, τ, R2, S1.to t2 R1, p.bind.imp fun v h3 ρ3 H3 e3 t3 R3 p => ?_⟩
  exact ⟨ρ3, h3, w, R3, (r1.to t2 R1).to t3 R2, p.val⟩
theorem pe_rev (hK : X.K = G.K) {e : Expr} {a : E} {k : Nat} {p1 p2 p3 pos : Pos} (ha : L2.PE X e (tev G Y c a)) : L2.PE X (.Subscript e (.Slice none none (some (.UnaryOp .USub (.Constant (.int 1) k p1) p2)) p3) pos) (tev G Y c (.rev a)) := by
  refine ⟨fun pins s σ H Q I hh => ?_⟩
  obtain ⟨ρ, h, τ, R, S, p⟩ := hh
  simp only [evE] at p
  refine (L2.pe_revL ha).run pins s σ H Q I ?_
  refine goE R S p fun w h1 ρ1 H1 x e1 R1 S1 r1 t1 p => ?_
  split at p
  · split at p
    · rename_i ws g
      obtain ⟨b, rfl, eb⟩ := rv_obj r1
      obtain ⟨ys, t, q⟩ := R1.seq eb g
      exact ⟨b, ys, rfl, hK ▸ t, fun q' hq => Val.newL (p.val (o := some (_, _))) R1 q.rev hq⟩
    · exact p.elim
  · exact p.elim
theorem base_ok {o : Expr} {f : Str} {env : Env} {x : Sem Value} (h : okBase o = true) : attributeBase o f env x = x := by
  unfold attributeBase
  split
  · cases h
  · rfl
theorem pe_att {a : Expr} {a' : E} {f : Nat} {pos : Pos} (hf : f < G.nn) (hK : X.K = G.K) (hb : okBase a = true) (ha : L2.PE X a (tev G Y c a')) : L2.PE X (.Attribute a (G.an f) pos) (tev G Y c (.att a' f)) := by
  refine ⟨fun pins s σ H Q I hh => ?_⟩
  obtain ⟨ρ, h, τ, R, S, p⟩ := hh
  simp only [evE] at p
  refine (L2.pe_fld ha (base_ok hb)).run pins s σ H Q I ?_
  refine goE R S p fun w h1 ρ1 H1 x e1 R1 S1 r1 t1 p => ?_
  obtain ⟨b, C, dx, fs, v, e1, e2, e3, e4, e5, q⟩ := fld_rel R1 hf r1 p.val
  exact ⟨b, C, dx, fs, v, e1, e2, hK ▸ e3, hK ▸ e4, e5, q⟩
theorem any_star {es : List Expr} {env : Env} {pos : Pos} (h : es.all (fun e => match e with | .Starred .. => false | _ => true) = true) : (backTo pos (starEach es env)).any (·.1) = false := by
  induction es with
  | nil => rfl
  | cons e es ih =>
    rw [List.all_cons, Bool.and_eq_true] at h
    rw [starEach_cons h.1]
    show ((false || _) : Bool) = false
    rw [Bool.false_or]
    exact ih h.2
theorem pe_bfn (hK : X.K = G.K) (hc : X.calm = true) {b : Bf} (hb : match b with | .sorted | .repr => False | _ => True) {x : Str} {p pos : Pos} {e : Expr} {es : List Expr} {as : Es} (hg : L2.Gl X x) (hm : X.mg x = none) (hv : bootBuiltins x = some (bv b)) (ha : L2.PA X (e :: es) (tes G Y c as))
    (hn : x ≠ "__name__") (hd : (x == ("__debug__" : Str)) = false) (hs : (e :: es).all (fun e => match e with | .Starred .. => false | _ => true) = true) : L2.PE X (.Call (.Name x p) (e :: es) [] pos) (tev G Y c (.bfn b as)) := by
  have main : L2.PE X (.Call (.Name x p) (e :: es) [] pos) (L2.tCB (rF G (bfn b)) (tes G Y c as)) := by
    rw [List.all_cons, Bool.and_eq_true] at hs
    cases b <;> first
      | exact L2.pe_callB (bfn_ok hK hc _ hb) hg hm hv ha hn hd (starEach_cons hs.1) (any_star hs.2)
      | exact L2.pe_callTy (bfn_ok hK hc _ hb) hg hm hv ha hn hd (starEach_cons hs.1) (any_star hs.2)
  refine ⟨fun pins s σ H Q I hh => ?_⟩
  obtain ⟨ρ, h, τ, R, S, p⟩ := hh
  simp only [evE] at p
  refine main.run pins s σ H Q I ?_
  refine goS R S p fun ws h1 ρ1 H1 xs e1 R1 S1 r1 t1 p => ?_
  exact ⟨ρ1, h1, ws, R1, r1, p.val⟩
/-! ### tests -/
theorem pe_repr (hK : X.K = G.K) (hgu : X.A.guards = some []) (hu : X.A.units + 150 < cLine) {x : Str} {p pos : Pos} {e : Expr} {es : List Expr} {as : Es} (hg : L2.Gl X x) (hm : X.mg x = none) (hv : bootBuiltins x = some (.builtin "repr")) (ha : L2.PA X (e :: es) (tes G Y c as))
    (hn : x ≠ "__name__") (hd : (x == ("__debug__" : Str)) = false) (hs : (e :: es).all (fun e => match e with | .Starred .. => false | _ => true) = true) : L2.PE X (.Call (.Name x p) (e :: es) [] pos) (tev G Y c (.bfn .repr as)) := by
  have main : L2.PE X (.Call (.Name x p) (e :: es) [] pos) (L2.tCB (rF G (bfn .repr)) (tes G Y c as)) := by
    rw [List.all_cons, Bool.and_eq_true] at hs
    exact L2.pe_callB (repr_ok hK hgu hu) hg hm hv ha hn hd (starEach_cons hs.1) (any_star hs.2)
  refine ⟨fun pins s σ H Q I hh => ?_⟩
  obtain ⟨ρ, h, τ, R, S, p⟩ := hh
  simp only [evE] at p
  refine main.run pins s σ H Q I ?_
  refine goS R S p fun ws h1 ρ1 H1 xs e1 R1 S1 r1 t1 p => ?_
  exact ⟨ρ1, h1, ws, R1, r1, p.val⟩
/-! ### tests -/
theorem pt_gen (hK : X.K = G.K) {e : Expr} {a : E} (ha : L2.PE X e (tev G Y c a)) (he : ∀ whole, isTrue e X.env whole = (do let v ← whole; standAt e.pos; holding [v] (truthy v))) : L2.PT X e (tet G Y c a) := by
  refine ⟨fun pins s σ H Q I hh => ?_⟩
  obtain ⟨ρ, h, τ, R, S, p⟩ := hh
  refine (L2.pt_truth ha he).run pins s σ H Q I ?_
  have p' : Post G Y σ ρ H (fun b _ _ H' => Q b H') ((truR (evE c a τ h)).b fun b h => .ok b h) := by
    revert p
    cases truR (evE c a τ h) <;> exact fun p => p
  refine goT R S p' fun w b h1 ρ1 H1 x e1 z R1 S1 r1 t1 p => ?_
  exact ⟨b, hK ▸ tru_rel R1 z r1, p.here R1⟩
theorem truR_b {α : Type} {x : R α} {f : α → Hp → R W} : truR (x.b f) = x.b fun a h => truR (f a h) := by
  cases x <;> rfl
theorem truR_bl {b : Bool} : truR (.ok (.bl b) h) = .ok b h := rfl
theorem pt_nt {a : Expr} {a' : E} {pos : Pos} (ha : L2.PT X a (tet G Y c a')) : L2.PT X (.UnaryOp .Not a pos) (tet G Y c (.nt a')) := by
  refine ⟨fun pins s σ H Q I hh => ?_⟩
  obtain ⟨ρ, h, τ, R, S, p⟩ := hh
  simp only [evE, truR_b, truR_bl] at p
  refine (L2.pt_not ha).run pins s σ H Q I ?_
  exact goB R S p fun b h1 ρ1 H1 R1 S1 t1 p => p.here R1
theorem boolR_tru {o : Option Bool} : truR (lf (boolR o h)) = match o with
    | some b => .ok b h
    | none => .no := by
  cases o <;> rfl
theorem pt_cmpE (hK : X.K = G.K) (hu : X.A.units + 65 < cLine) {a b : Expr} {a' b' : E} {o : CO} {pos : Pos} (hm : behindInMarks (co o) b = false) (ha : L2.PE X a (tev G Y c a')) (hb : L2.PE X b (tev G Y c b')) : L2.PT X (.Compare a [co o] [b] pos) (tet G Y c (.cmp o a' b')) := by
  refine ⟨fun pins s σ H Q I hh => ?_⟩
  obtain ⟨ρ, h, τ, R, S, p⟩ := hh
  simp only [evE, truR_b, boolR_tru] at p
  refine (L2.pt_cmpR (cmp_ok hK hu o) ha hb hm).run pins s σ H Q I ?_
  refine ⟨ρ, h, τ, R, S, p.bind.imp fun w h1 ρ1 H1 e1 t1 R1 p x r1 => ?_⟩
  refine ⟨ρ1, h1, τ, R1, S.to t1 R, p.bind.imp fun v h2 ρ2 H2 e2 t2 R2 p y r2 => ?_⟩
  split at p
  · rename_i b z
    exact ⟨ρ2, h2, w, v, R2, r1.to t2 R1, r2, b, z, b, rfl, p.here R2⟩
  · exact p.elim
theorem tru_and {a b : E} : truR (evE c (.and a b) τ h) = (truR (evE c a τ h)).b fun t h => match t with
    | true => truR (evE c b τ h)
    | false => .ok false h := by
  simp only [evE]
  cases evE c a τ h with
  | ok w h1 =>
    show truR (match tru h1 w with
      | some true => evE c b τ h1
      | some false => .ok w h1
      | none => .no) = (match tru h1 w with
      | some b => R.ok b h1
      | none => R.no).b _
    cases z : tru h1 w with
    | none => rfl
    | some t =>
      cases t with
      | true => rfl
      | false => rw [truR_ok, z]; rfl
  | ex e h1 => rfl
  | no => rfl
theorem tru_or {a b : E} : truR (evE c (.or a b) τ h) = (truR (evE c a τ h)).b fun t h => match t with
    | true => .ok true h
    | false => truR (evE c b τ h) := by
  simp only [evE]
  cases evE c a τ h with
  | ok w h1 =>
    show truR (match tru h1 w with
      | some true => .ok w h1
      | some false => evE c b τ h1
      | none => .no) = (match tru h1 w with
      | some b => R.ok b h1
      | none => R.no).b _
    cases z : tru h1 w with
    | none => rfl
    | some t =>
      cases t with
      | true => rw [truR_ok, z]; rfl
      | false => rfl
  | ex e h1 => rfl
  | no => rfl
theorem pw_and {a0 : Expr} {a' : E} (hA : L2.PT X a0 (tet G Y c a')) {b : Expr} {b' : E} {r : List Expr} {pos : Pos} (hb : L2.PW X (.BoolOp .And (b :: r) pos) (tet G Y c b')) : L2.PW X (.BoolOp .And (a0 :: b :: r) pos) (tet G Y c (.and a' b')) := by
  refine ⟨fun wh pins s σ H Q I hh => ?_⟩
  obtain ⟨ρ, h, τ, R, S, p⟩ := hh
  rw [tru_and] at p
  refine (L2.pw_and hA hb).run wh pins s σ H Q I ?_
  refine goB R S p fun b h1 ρ1 H1 R1 S1 t1 p => ?_
  cases b with
  | true => rw [if_pos rfl]; exact ⟨ρ1, h1, τ, R1, S1, p⟩
  | false => rw [if_neg (by simp)]; exact p.here R1
theorem pw_or {a0 : Expr} {a' : E} (hA : L2.PT X a0 (tet G Y c a')) {b : Expr} {b' : E} {r : List Expr} {pos : Pos} (hb : L2.PW X (.BoolOp .Or (b :: r) pos) (tet G Y c b')) : L2.PW X (.BoolOp .Or (a0 :: b :: r) pos) (tet G Y c (.or a' b')) := by
  refine ⟨fun wh pins s σ H Q I hh => ?_⟩
  obtain ⟨ρ, h, τ, R, S, p⟩ := hh
  rw [tru_or] at p
  refine (L2.pw_or hA hb).run wh pins s σ H Q I ?_
  refine goB R S p fun b h1 ρ1 H1 R1 S1 t1 p => ?_
  cases b with
  | true => rw [if_pos rfl]; exact p.here R1
  | false => rw [if_neg (by simp)]; exact ⟨ρ1, h1, τ, R1, S1, p⟩
theorem pt_ite {d a b : Expr} {d' a' b' : E} {pos : Pos} (hd : L2.PT X d (tet G Y c d')) (ha : L2.PT X a (tet G Y c a')) (hb : L2.PT X b (tet G Y c b')) : L2.PT X (.IfExp d a b pos) (tet G Y c (.ite d' a' b')) := by
  refine ⟨fun pins s σ H Q I hh => ?_⟩
  obtain ⟨ρ, h, τ, R, S, p⟩ := hh
  simp only [evE, truR_b] at p
  show wpAny _ _ (do if ← isTrue d X.env (eval d X.env) then isTrue a X.env (eval a X.env) else isTrue b X.env (eval b X.env)) _ _ _
  refine wpAny_bind (L2.thn (hd.run pins s σ H _ I (goB (Q' := fun t H1 => if t = true then tet G Y c a' σ H1 Q else tet G Y c b' σ H1 Q) R S p fun t h1 ρ1 H1 R1 S1 t1 p => ?_)) fun t s1 q => ?_)
  · cases t with
    | true => rw [if_pos rfl]; exact ⟨ρ1, h1, τ, R1, S1, p⟩
    | false => rw [if_neg (by simp)]; exact ⟨ρ1, h1, τ, R1, S1, p⟩
  · obtain ⟨H1, I1, q⟩ := q
    cases t with
    | true => rw [if_pos rfl] at q; exact ha.run pins s1 σ H1 Q I1 q
    | false => rw [if_neg (by simp)] at q; exact hb.run pins s1 σ H1 Q I1 q
end TX
end
section
set_option maxRecDepth 100000
set_option linter.unusedVariables false
/-! EvCall: calls of the program's own defs, classes, methods; methods of built-in types. -/
namespace TX
open PySem PySem.Spec PyProof.Rows
variable {G : Gx} {ρ ρ' ρ'' : List Addr} {H H' H'' : LH} {h h' : Hp} {a : Addr}
variable {Y : L2.WX} {σ : L2.St} {c : Cf} {Q : L2.VK} {τ : Sl} {X : L2.Cx}
/-- a call's end -/
def CPost (G : Gx) (ρ : List Addr) (H : LH) (Q : L2.VK) (E : L2.XK) : R W → Prop
  | .ok w h' => ∀ ρ' H' x, To ρ H ρ' H' → Rep G ρ' h' H' → RV G ρ' H' w x → Q x H'
  | .ex e h' => ∀ ρ' H' cl d, To ρ H ρ' H' → Rep G ρ' h' H' → RX G ρ' H' e cl d → E cl d H'
  | .no => False
theorem Post.call {x : R W} (p : Post G Y σ ρ H (Wants Q G) x) : CPost G ρ H Q (L2.WE Y σ) x := by
  cases x with
  | ok w h1 => exact fun ρ' H' x t R r => p ρ' H' t R x r
  | ex e h1 => exact p
  | no => exact p
def spE (G : Gx) (pg : Pg) (F k g : Nat) : L2.Sp := fun vs H Q E => ∃ ρ h ws, Rep G ρ h H ∧ RVs G ρ H ws vs ∧ CPost G ρ H Q E (run pg F k g ws h)
/-- a def as the calls want it -/
structure FOk (G : Gx) (X : L2.Cx) (pg : Pg) (F k g : Nat) (f : Addr) : Prop where
  kp : PySem.W.keepIn X.K (.ref f) = true
  ok : ∃ fd ps, L2.Binds X.K fd ps [] ∧ L2.FnOk X.prog X.w X.K X.mg X.base (L2.CX X.prog X.w) k f fd ps (spE G pg F k g)
theorem run_g {pg : Pg} {F k g : Nat} {f : Addr} (F0 : FOk G X pg F k g f) (hr : L2.Room k X.A) (tk : L2.Takes X Y) {pins : List (Addr × Obj)} {s : Shared} {vs : List LV} {us : List Value} (I : L2.Inv X pins σ H s) (r : L2.Vals vs us) {ws : List W} (R : Rep G ρ h H) (rs : RVs G ρ H ws vs)
    (p : Post G Y σ ρ H (Wants Q G) (run pg F k g ws h)) : wpAny (model X.prog X.w) X.A (call (.ref f) us) (L2.EP X pins σ Q) X.xe s := by
  obtain ⟨kp, fd, ps, hb, ok⟩ := F0
  exact L2.run_fnS (E := L2.WE Y) ok hr hb (L2.passAt tk σ) I r ⟨ρ, h, ws, R, rs, p.call⟩
theorem pe_cal {pg : Pg} {F k g : Nat} {f : Addr} (F0 : FOk G X pg F k g f) (hr : L2.Room k X.A) (tk : L2.Takes X Y) (hcf : c.cf g = run pg F k g) {x : Str} {p pos : Pos} {es : List Expr} {as : Es} (hg : L2.Gl X x) (hm : X.mg x = some (.ref f)) (ha : L2.PA X es (tes G Y c as))
    (hd : (x == ("__debug__" : Str)) = false) (hs : es.all (fun e => match e with | .Starred .. => false | _ => true) = true) (hnil : es = [] → as = .nil) : L2.PE X (.Call (.Name x p) es [] pos) (tev G Y c (.cal g as)) := by
  have ev : ∀ τ h, evE c (.cal g as) τ h = (evEs c as τ h).b fun xs h => run pg F k g xs h := fun τ h => by simp only [evE, hcf]
  cases es with
  | nil =>
    refine ⟨fun pins s σ H Q I hh => ?_⟩
    obtain ⟨ρ, h, τ, R, S, p⟩ := hh
    rw [ev] at p
    refine wpAny_Call_Name_kw (L2.ld_glob I hg hm ?_ hd)
    refine PySem.W.callWith_K0 I.kIn F0.kp ?_
    rw [hnil rfl] at p
    simp only [evEs] at p
    exact run_g F0 hr tk I .nil R .nil p
  | cons e es =>
    rw [List.all_cons, Bool.and_eq_true] at hs
    refine ⟨fun pins s σ H Q I hh => ?_⟩
    obtain ⟨ρ, h, τ, R, S, p⟩ := hh
    rw [ev] at p
    refine wpAny_Call_Name_kw (L2.ld_glob I hg hm ?_ hd)
    refine PySem.W.callWith_K (h₀ := X.base) I.ok.mod.kin F0.kp (L2.thn (ha.run pos pins s σ H (fun xs H1 => ∃ ρ1 h1 ws, Rep G ρ1 h1 H1 ∧ RVs G ρ1 H1 ws xs ∧ Post G Y σ ρ1 H1 (Wants Q G) (run pg F k g ws h1)) I ?_) fun us s1 hq => ?_) (starEach_cons hs.1) (any_star hs.2)
    · exact goS R S p fun ws h1 ρ1 H1 xs e1 R1 S1 r1 t1 p => ⟨ρ1, h1, ws, R1, r1, p⟩
    · obtain ⟨vs, H1, I1, r, ρ1, h1, ws, R1, r1, p⟩ := hq
      exact ⟨I1.kIn, run_g F0 hr tk I1 r R1 r1 p⟩
/-- a promise that is given where no repr is under way -/
structure FnG (P : Program) (w : World) (K : PySem.W.Frag) (mg : Str → Option Value) (base : Heap) (CX : L2.CXT) (k : Nat) (f : Addr) (fd : FuncData) (ps : List Str) (sp : L2.Sp) : Prop where
  len : ∀ vs H Q E, sp vs H Q E → vs.length = ps.length
  run : ∀ (A : Around) (outer : List Env) (s : Shared) (H : LH) (args : Args) (us : List Value) (vs : List LV) (Q : L2.VK) (E : L2.XK), A.guards = some [] → L2.Room k A → L2.Env0 P w K mg base A outer s H → BindsTo s fd args (ps.zip us) → L2.Vals vs us → sp vs H Q E →
    codeAny (model P w) A (.call (.ref f) args) (L2.CR CX outer P w H s Q E) s
theorem FnG.imp {P : Program} {w : World} {K : PySem.W.Frag} {mg : Str → Option Value} {base : Heap} {CX : L2.CXT} {k : Nat} {f : Addr} {fd : FuncData} {ps : List Str} {sp sp' : L2.Sp} (F : FnG P w K mg base CX k f fd ps sp) (h : ∀ vs H Q E, sp' vs H Q E → sp vs H Q E) : FnG P w K mg base CX k f fd ps sp' :=
  ⟨fun vs H Q E q => F.len vs H Q E (h _ _ _ _ q), fun A outer s H args us vs Q E hg hr he hb hv hs => F.run A outer s H args us vs Q E hg hr he hb hv (h _ _ _ _ hs)⟩
theorem run_fnG {CX : L2.CXT} {k : Nat} {f : Addr} {fd : FuncData} {ps : List Str} {sp : L2.Sp} {E : L2.XK} {pins : List (Addr × Obj)} {s : Shared} {us : List Value} {vs : List LV} (F : FnG X.prog X.w X.K X.mg X.base CX k f fd ps sp) (hgu : X.A.guards = some []) (hr : L2.Room k X.A) (hb : L2.Binds X.K fd ps []) (hx : L2.PassesAt CX X σ E)
    (I : L2.Inv X pins σ H s) (r : L2.Vals vs us) (h : sp vs H Q E) : wpAny (model X.prog X.w) X.A (call (.ref f) us) (L2.EP X pins σ Q) X.xe s := by
  have hl : us.length = ps.length := by rw [← r.length]; exact F.len _ _ _ _ h
  have b := hb s us I.kIn (by rw [List.append_nil]; exact hl)
  rw [List.append_nil] at b
  refine wpAny_call (codeAny_mono (F.run X.A X.stack s H ⟨us, []⟩ us vs Q E hgu hr I.env0 b r h) fun r s' hq => ?_)
  rcases r with e | fl
  · exact hx pins H s e s' I hq
  · cases fl <;> first | exact I.after hq | exact False.elim hq
/-- a def that may ask for repr -/
structure FOkG (G : Gx) (X : L2.Cx) (pg : Pg) (F k g : Nat) (f : Addr) : Prop where
  kp : PySem.W.keepIn X.K (.ref f) = true
  ok : ∃ fd ps, L2.Binds X.K fd ps [] ∧ FnG X.prog X.w X.K X.mg X.base (L2.CX X.prog X.w) k f fd ps (spE G pg F k g)
theorem run_gG {pg : Pg} {F k g : Nat} {f : Addr} (F0 : FOkG G X pg F k g f) (hgu : X.A.guards = some []) (hr : L2.Room k X.A) (tk : L2.Takes X Y) {pins : List (Addr × Obj)} {s : Shared} {vs : List LV} {us : List Value} (I : L2.Inv X pins σ H s) (r : L2.Vals vs us) {ws : List W} (R : Rep G ρ h H) (rs : RVs G ρ H ws vs)
    (p : Post G Y σ ρ H (Wants Q G) (run pg F k g ws h)) : wpAny (model X.prog X.w) X.A (call (.ref f) us) (L2.EP X pins σ Q) X.xe s := by
  obtain ⟨kp, fd, ps, hb, ok⟩ := F0
  exact run_fnG (E := L2.WE Y σ) ok hgu hr hb (L2.passAt tk σ) I r ⟨ρ, h, ws, R, rs, p.call⟩
theorem pe_calG {pg : Pg} {F k g : Nat} {f : Addr} (F0 : FOkG G X pg F k g f) (hgu : X.A.guards = some []) (hr : L2.Room k X.A) (tk : L2.Takes X Y) (hcf : c.cf g = run pg F k g) {x : Str} {p pos : Pos} {es : List Expr} {as : Es} (hg : L2.Gl X x) (hm : X.mg x = some (.ref f)) (ha : L2.PA X es (tes G Y c as))
    (hd : (x == ("__debug__" : Str)) = false) (hs : es.all (fun e => match e with | .Starred .. => false | _ => true) = true) (hnil : es = [] → as = .nil) : L2.PE X (.Call (.Name x p) es [] pos) (tev G Y c (.cal g as)) := by
  have ev : ∀ τ h, evE c (.cal g as) τ h = (evEs c as τ h).b fun xs h => run pg F k g xs h := fun τ h => by simp only [evE, hcf]
  cases es with
  | nil =>
    refine ⟨fun pins s σ H Q I hh => ?_⟩
    obtain ⟨ρ, h, τ, R, S, p⟩ := hh
    rw [ev] at p
    refine wpAny_Call_Name_kw (L2.ld_glob I hg hm ?_ hd)
    refine PySem.W.callWith_K0 I.kIn F0.kp ?_
    rw [hnil rfl] at p
    simp only [evEs] at p
    exact run_gG F0 hgu hr tk I .nil R .nil p
  | cons e es =>
    rw [List.all_cons, Bool.and_eq_true] at hs
    refine ⟨fun pins s σ H Q I hh => ?_⟩
    obtain ⟨ρ, h, τ, R, S, p⟩ := hh
    rw [ev] at p
    refine wpAny_Call_Name_kw (L2.ld_glob I hg hm ?_ hd)
    refine PySem.W.callWith_K (h₀ := X.base) I.ok.mod.kin F0.kp (L2.thn (ha.run pos pins s σ H (fun xs H1 => ∃ ρ1 h1 ws, Rep G ρ1 h1 H1 ∧ RVs G ρ1 H1 ws xs ∧ Post G Y σ ρ1 H1 (Wants Q G) (run pg F k g ws h1)) I ?_) fun us s1 hq => ?_) (starEach_cons hs.1) (any_star hs.2)
    · exact goS R S p fun ws h1 ρ1 H1 xs e1 R1 S1 r1 t1 p => ⟨ρ1, h1, ws, R1, r1, p⟩
    · obtain ⟨vs, H1, I1, r, ρ1, h1, ws, R1, r1, p⟩ := hq
      exact ⟨I1.kIn, run_gG F0 hgu hr tk I1 r R1 r1 p⟩
/-! ### instances -/
/-- a class as the calls want it -/
structure ClOk (G : Gx) (X : L2.Cx) (pg : Pg) (F j k : Nat) (C : Addr) (g : Nat) (f : Addr) : Prop where
  ca : G.ca k = some C
  mkk : L2.Mk X.K C f
  cl : L2.Cls G.K C
  fn : FOk G X pg F j g f
theorem run_new {pg : Pg} {F j k g : Nat} {C f : Addr} (M : ClOk G X pg F j k C g f) (hr : L2.Room (j + 1) X.A) (tk : L2.Takes X Y) {pins : List (Addr × Obj)} {s : Shared} {vs : List LV} {us : List Value} (I : L2.Inv X pins σ H s) (r : L2.Vals vs us) {ws : List W} (R : Rep G ρ h H) (rs : RVs G ρ H ws vs)
    (p : Post G Y σ ρ H (Wants Q G) ((run pg F j g (.obj h.n :: ws) (h.new (.ins k []))).b fun v h' => match v with | .non => .ok (.obj h.n) h' | _ => .no)) : wpAny (model X.prog X.w) X.A (call (.ref C) us) (L2.EP X pins σ Q) X.xe s := by
  obtain ⟨ca, mk, cl, kp, fd, ps, hb, ok⟩ := M
  have I2 := L2.Inv.made (C := C) I
  have n1 : H (s.heap.objs.size + 1) = none := I.hok.fresh (Nat.le_succ _)
  have n2 : H s.heap.objs.size = none := I.hok.fresh (Nat.le_refl _)
  obtain ⟨R1, t1⟩ := R.aside (o := .own (s.heap.objs.size + 1)) n2
  have n3 : L2.upd H s.heap.objs.size (.own (s.heap.objs.size + 1)) (s.heap.objs.size + 1) = none := by rw [L2.upd_ne (Nat.succ_ne_self _)]; exact n1
  obtain ⟨R2, t2, e2⟩ := R1.new (ob := .ins k []) (o := .ins C s.heap.objs.size []) n3 ⟨C, _, [], ca, L2.upd_same, rfl, fun _ z => absurd z (by simp), cl⟩
  have t := t1.trans t2
  have r2 : L2.Vals (L2.V.ref (s.heap.objs.size + 1) :: vs) (Value.ref (s.heap.objs.size + 1) :: us) := .cons rfl r
  have rs2 : RVs G (ρ ++ [s.heap.objs.size + 1]) (L2.upd (L2.upd H s.heap.objs.size (.own (s.heap.objs.size + 1))) (s.heap.objs.size + 1) (.ins C s.heap.objs.size [])) (.obj h.n :: ws) (L2.V.ref (s.heap.objs.size + 1) :: vs) := .cons (by simp only [RV]; exact ⟨_, rfl, e2⟩) (rs.to t R)
  have q := (p.shift t).bind
  have hsp : spE G pg F j g (L2.V.ref (s.heap.objs.size + 1) :: vs) (L2.upd (L2.upd H s.heap.objs.size (.own (s.heap.objs.size + 1))) (s.heap.objs.size + 1) (.ins C s.heap.objs.size [])) (fun v H2 => v = .non ∧ Q (.ref (s.heap.objs.size + 1)) H2) (L2.WE Y σ) := by
    refine ⟨_, _, _, R2, rs2, Post.call (q.imp fun v h3 ρ3 H3 e3 t3 R3 p x rx => ?_)⟩
    split at p
    · simp only [RV] at rx
      exact ⟨rx, want p R3 (by simp only [RV]; exact ⟨_, rfl, pre_get t3.pre e2⟩)⟩
    · exact p.elim
  have hl : (Value.ref (s.heap.objs.size + 1) :: us).length = ps.length := by rw [← r2.length]; exact ok.len _ _ _ _ hsp
  have b := hb _ (Value.ref (s.heap.objs.size + 1) :: us) I2.kIn (by rw [List.append_nil]; exact hl)
  rw [List.append_nil] at b
  refine wpAny_call (L2.make_map (f := f) I.kIn mk.makes mk.init (beq_iff_eq.mp mk.fn) (codeAny_mono (ok.run _ X.stack _ _ ⟨Value.ref (s.heap.objs.size + 1) :: us, []⟩ _ _ _ (L2.WE Y σ) (hr.make C us []) (I2.env0.make C us []) b r2 hsp) fun r s' hq' => ?_))
  cases r with
  | error e => exact L2.passAt tk σ pins _ _ e s' I2 hq'
  | ok fl =>
    cases fl with
    | ret u =>
      obtain ⟨v, H', I3, rv, ev, q3⟩ := I2.after hq'
      subst ev
      exact ⟨rv, ⟨L2.V.ref _, H', I3, rfl, q3⟩⟩
    | next => exact hq'.elim
    | brk => exact hq'.elim
    | cont => exact hq'.elim
theorem pe_new {pg : Pg} {F j k g : Nat} {C f : Addr} (M : ClOk G X pg F j k C g f) (hr : L2.Room (j + 1) X.A) (tk : L2.Takes X Y) (hpg : c.pg.ini k = some g) (hcg : c.cg g = run pg F j g) {x : Str} {p pos : Pos} {es : List Expr} {as : Es} (hg : L2.Gl X x) (hm : X.mg x = some (.ref C)) (ha : L2.PA X es (tes G Y c as))
    (hd : (x == ("__debug__" : Str)) = false) (hs : es.all (fun e => match e with | .Starred .. => false | _ => true) = true) (hnil : es = [] → as = .nil) : L2.PE X (.Call (.Name x p) es [] pos) (tev G Y c (.new k as)) := by
  have ev : ∀ τ h, evE c (.new k as) τ h = (evEs c as τ h).b fun xs h => (run pg F j g (.obj h.n :: xs) (h.new (.ins k []))).b fun v h' => match v with | .non => .ok (.obj h.n) h' | _ => .no := fun τ h => by
    simp only [evE, hpg, hcg] <;> rfl
  cases es with
  | nil =>
    refine ⟨fun pins s σ H Q I hh => ?_⟩
    obtain ⟨ρ, h, τ, R, S, p⟩ := hh
    rw [ev] at p
    refine wpAny_Call_Name_kw (L2.ld_glob I hg hm ?_ hd)
    refine PySem.W.callWith_K0 I.kIn M.mkk.kp ?_
    rw [hnil rfl] at p
    simp only [evEs] at p
    exact run_new M hr tk I .nil R .nil p
  | cons e es =>
    rw [List.all_cons, Bool.and_eq_true] at hs
    refine ⟨fun pins s σ H Q I hh => ?_⟩
    obtain ⟨ρ, h, τ, R, S, p⟩ := hh
    rw [ev] at p
    refine wpAny_Call_Name_kw (L2.ld_glob I hg hm ?_ hd)
    refine PySem.W.callWith_K (h₀ := X.base) I.ok.mod.kin M.mkk.kp (L2.thn (ha.run pos pins s σ H (fun xs H1 => ∃ ρ1 h1 ws, Rep G ρ1 h1 H1 ∧ RVs G ρ1 H1 ws xs ∧ Post G Y σ ρ1 H1 (Wants Q G) ((run pg F j g (.obj h1.n :: ws) (h1.new (.ins k []))).b fun v h' => match v with | .non => .ok (.obj h1.n) h' | _ => .no)) I ?_) fun us s1 hq => ?_) (starEach_cons hs.1) (any_star hs.2)
    · exact goS R S p fun ws h1 ρ1 H1 xs e1 R1 S1 r1 t1 p => ⟨ρ1, h1, ws, R1, r1, p⟩
    · obtain ⟨vs, H1, I1, r, ρ1, h1, ws, R1, r1, p⟩ := hq
      exact ⟨I1.kIn, run_new M hr tk I1 r R1 r1 p⟩
/-! ### methods of own classes -/
/-- what stands behind a user's method by its number -/
structure MOk (G : Gx) (X : L2.Cx) (pg : Pg) (F k : Nat) (m : Nat) : Prop where
  ok : ∀ c C g, G.ca c = some C → pg.mth c m = some g → ∃ f, L2.Meth X.K C (G.an m) f ∧ FOk G X pg F k g f
theorem look_none {f : Nat} : ∀ {fs : List (Nat × W)} {ys : List (Str × LV)}, RFs G ρ H fs ys → (∀ p ∈ fs, G.an p.1 ≠ G.an f) → ys.lookup (G.an f) = none
  | [], ys, r, _ => by simp only [RFs] at r; subst r; rfl
  | (g, w) :: fs, ys, r, hn => by
    simp only [RFs] at r
    obtain ⟨x, r', rfl, hg, a, b⟩ := r
    have : (G.an f == G.an g) = false := beq_eq_false_iff_ne.mpr fun q => hn (g, w) List.mem_cons_self q.symm
    rw [List.lookup_cons, this]
    exact look_none b fun p hp => hn p (List.mem_cons_of_mem _ hp)
theorem meth_ins (hK : X.K = G.K) {k m : Nat} {fs : List (Nat × W)} {n : Nat} (R : Rep G ρ h H) (e : ρ[n]? = some a) (g : h.get n = some (.ins k fs)) : ∃ C dx ys, G.ca k = some C ∧ H a = some (.ins C dx ys) ∧ L2.Cls X.K C ∧ ∀ f, L2.Meth X.K C (G.an m) f → ys.lookup (G.an m) = none := by
  obtain ⟨C, dx, ys, ec, e1, q, na, cl⟩ := R.at e g
  refine ⟨C, dx, ys, ec, e1, hK ▸ cl, fun f M => look_none q fun p hp z => ?_⟩
  have h1 := na p hp
  rw [z] at h1
  have h2 := M.at_
  rw [hK] at h2
  rw [show PySem.W.findIn G.K (.ref C) (G.an m) = some none from h1] at h2
  cases h2
end TX
end
section
set_option maxRecDepth 100000
set_option linter.unusedVariables false
/-! EvMth: calls of methods. -/
namespace TX
open PySem PySem.Spec PyProof.Rows
variable {G : Gx} {ρ ρ' ρ'' : List Addr} {H H' H'' : LH} {h h' : Hp} {a : Addr}
variable {Y : L2.WX} {σ : L2.St} {c : Cf} {Q : L2.VK} {τ : Sl} {X : L2.Cx}
theorem few_ok {es : List Expr} {env : Env} {pos : Pos} (hs : es.all (fun e => match e with | .Starred .. => false | _ => true) = true) (hn : es.length < 20) : methodCallForm (es.length + 0) (backTo pos (starEach es env)) (backToKw pos (keywordEach [] env)) = true := by
  have h1 : ∀ es : List Expr, es.all (fun e => match e with | .Starred .. => false | _ => true) = true → (backTo pos (starEach es env)).all (!·.1) = true := by
    intro es
    induction es with
    | nil => intro _; rfl
    | cons e es ih =>
      intro h
      rw [List.all_cons, Bool.and_eq_true] at h
      rw [starEach_cons h.1]
      show (true && _ : Bool) = true
      rw [Bool.true_and]
      exact ih h.2
  unfold methodCallForm
  rw [h1 es hs]
  show (true && true && decide (es.length + 0 + 0 < 30)) = true
  rw [Bool.true_and, Bool.true_and]
  exact decide_eq_true (by omega)
theorem meth_eval {o : Expr} {m : Str} {apos pos : Pos} {es : List Expr} {env : Env} (hb : okBase o = true) (hl : (apos.endLine == pos.line) = true) (hs : es.all (fun e => match e with | .Starred .. => false | _ => true) = true) (hn : es.length < 20) :
  eval (.Call (.Attribute o m apos) es [] pos) env = (do
      let ov ← eval o env
      standAt apos.atName
      let (f, first) ← holding [ov] (getMethod ov m (do return (← importBound o env).getD true))
      callWith pos f first (backTo pos (starEach es env)) (backToKw pos (keywordEach [] env))) := by
  show (do
    let ov ← attributeBase o m env (eval o env)
    standAt apos.atName
    methodCall o m apos pos env ov (es.length + 0) (backTo pos (starEach es env)) (backToKw pos (keywordEach [] env))) = _
  rw [base_ok hb]
  unfold methodCall methodCallPos calleeOf
  rw [few_ok hs hn, hl]
  rfl

/-! ### built-in types' methods, by values -/
def rM (G : Gx) (k : Kd) (m : Nat) : LV → List LV → LH → L2.VK → Prop := fun x xs H Q => ∃ ρ h w ws, Rep G ρ h H ∧ RV G ρ H w x ∧ RVs G ρ H ws xs ∧ Val G Q ρ H (bmeth k w m ws h)
theorem joinL_eq (s : List Nat) : ∀ ss : List (List Nat), TL.joinL s ss = joinL s ss
  | [] => rfl
  | [x] => by simp [TL.joinL, joinL]
  | x :: y :: r => by
    have := joinL_eq s (y :: r)
    simp only [TL.joinL, joinL] at this ⊢
    rw [this, List.append_assoc]
theorem join_S (s : List Nat) (ss : List (List Nat)) : Txt.join (S' s) (ss.map S') = S' (joinL s ss) := by
  rw [← joinL_eq]; exact SX.join_S s ss
theorem sum_len : ∀ ss : List (List Nat), ((ss.map S').map (·.length)).sum = sumN (ss.map List.length)
  | [] => rfl
  | x :: ss => by
    have := sum_len ss
    simp only [List.map_cons, List.sum_cons, sumN] at this ⊢
    rw [this]; rfl
theorem mt_join' (hK : X.K = G.K) : L2.MtR X "str.join" (rM G .str 2) := by
  intro pins s σ H x xs v us Q I rx rxs q
  obtain ⟨ρ, h, w, ws, R, rw', rws, V⟩ := q
  simp only [bmeth] at V
  split at V
  · rename_i z
    split at V
    · rename_i y e0
      cases e0
      obtain ⟨y', z', rfl, r1, rs⟩ := rws.inv
      rw [rs.inv0] at rxs
      split at V
      · rename_i ss e
        obtain ⟨vs, e1, e2⟩ := Option.bind_eq_some_iff.mp e
        obtain ⟨p, ys, rfl, t, q⟩ := seq_rel R e1 r1
        have hys := q.strs e2
        subst hys
        split at V
        · rename_i hl
          simp only [RV] at rw'; subst rw'
          refine L2.mt_join pins s σ H _ _ v us Q I rx rxs ⟨_, p, ss.map S', rfl, rfl, t.elim (fun t => .inl (hK ▸ t.1)) (fun t => .inr (hK ▸ t.1)), ?_, V.here R ?_⟩
          · rw [sum_len, List.length_map, S'_len]
            exact Nat.le_trans hl (by decide)
          · simp only [RV]; rw [join_S]
        · exact V.elim
      · exact V.elim
    · exact V.elim
  · exact V.elim
theorem mt_append' (hK : X.K = G.K) : L2.MtR X "list.append" (rM G .lst 0) := by
  intro pins s σ H x xs v us Q I rx rxs q
  obtain ⟨ρ, h, w, ws, R, rw', rws, V⟩ := q
  simp only [bmeth] at V
  split at V
  · obtain ⟨p, rfl, ep⟩ := rv_obj rw'
    split at V
    · rename_i vs g
      obtain ⟨ys, e1, q⟩ := R.lst ep g
      split at V
      · rename_i y _
        obtain ⟨y', z', rfl, r1, rs⟩ := rws.inv
        rw [rs.inv0] at rxs
        split at V
        · rename_i hl
          have tk : Tk H (L2.upd H p (.lst (ys ++ [y']))) := tk_upd (by rw [e1]; rfl)
          refine L2.mt_append pins s σ H _ _ v us Q I rx rxs ⟨p, ys, y', rfl, rfl, e1, by rw [q.len]; exact Nat.lt_of_lt_of_le hl lim_line, V.set R ep ⟨_, L2.upd_same, RVs.mono (List.prefix_refl _) tk _ _ (q.app (.cons r1 .nil))⟩ (by simp [RV])⟩
        · exact V.elim
      · rename_i z; cases z
      · rename_i z; cases z
      · exact V.elim
    · exact V.elim
  · exact V.elim
theorem mt_extend' (hK : X.K = G.K) : L2.MtR X "list.extend" (rM G .lst 1) := by
  intro pins s σ H x xs v us Q I rx rxs q
  obtain ⟨ρ, h, w, ws, R, rw', rws, V⟩ := q
  simp only [bmeth] at V
  split at V
  · obtain ⟨p, rfl, ep⟩ := rv_obj rw'
    split at V
    · rename_i vs g
      obtain ⟨ys, e1, q⟩ := R.lst ep g
      split at V
      · rename_i z; cases z
      · obtain ⟨y', z', rfl, r1, rs⟩ := rws.inv
        rw [rs.inv0] at rxs
        obtain ⟨p2, rfl, ep2⟩ := rv_obj r1
        split at V
        · rename_i us' g2
          obtain ⟨zs, e2, q2⟩ := R.lst ep2 g2
          split at V
          · rename_i hl
            have tk : Tk H (L2.upd H p (.lst (ys ++ zs))) := tk_upd (by rw [e1]; rfl)
            exact L2.mt_extend pins s σ H _ _ v us Q I rx rxs ⟨p, p2, ys, zs, rfl, rfl, e1, e2, by rw [q.len, q2.len]; exact lim_le hl, V.set R ep ⟨_, L2.upd_same, RVs.mono (List.prefix_refl _) tk _ _ (q.app q2)⟩ (by simp [RV])⟩
          · exact V.elim
        · exact V.elim
      · rename_i z; cases z
      · exact V.elim
    · exact V.elim
  · exact V.elim
theorem mt_pop' (hK : X.K = G.K) : L2.MtR X "list.pop" (rM G .lst 3) := by
  intro pins s σ H x xs v us Q I rx rxs q
  obtain ⟨ρ, h, w, ws, R, rw', rws, V⟩ := q
  simp only [bmeth] at V
  split at V
  · obtain ⟨p, rfl, ep⟩ := rv_obj rw'
    split at V
    · rename_i vs g
      obtain ⟨ys, e1, q⟩ := R.lst ep g
      split at V
      · rename_i z; cases z
      · rename_i z; cases z
      · rw [rws.inv0] at rxs
        split at V
        · rename_i y e
          obtain ⟨x', e2, r2⟩ := q.get e
          have tk : Tk H (L2.upd H p (.lst ys.dropLast)) := tk_upd (by rw [e1]; rfl)
          exact L2.mt_pop pins s σ H _ _ v us Q I rx rxs ⟨p, ys, x', rfl, rfl, e1, by rw [q.len]; exact e2, V.set R ep ⟨_, L2.upd_same, RVs.mono (List.prefix_refl _) tk _ _ q.dropLast⟩ (RV.mono (List.prefix_refl _) tk _ _ r2)⟩
        · exact V.elim
      · exact V.elim
    · exact V.elim
  · exact V.elim
/-- the numbers of the built-in methods' names -/
structure BnOk (G : Gx) : Prop where
  append : G.an 0 = "append"
  extend : G.an 1 = "extend"
  join : G.an 2 = "join"
  pop : G.an 3 = "pop"
theorem bmeth_m {k : Kd} {w : W} {m : Nat} {ws : List W} {r : W × Hp} (e : bmeth k w m ws h = some r) : (k = .str ∧ m = 2 ∧ ws ≠ []) ∨ (k = .lst ∧ m = 0 ∧ ws ≠ []) ∨ (k = .lst ∧ m = 1 ∧ ws ≠ []) ∨ (k = .lst ∧ m = 3 ∧ ws = []) := by
  unfold bmeth at e
  split at e
  · split at e
    · split at e
      · exact .inl ⟨rfl, rfl, by simp⟩
      · cases e
    · cases e
  · split at e
    · split at e
      · split at e
        · exact .inr (.inl ⟨rfl, rfl, by simp⟩)
        · exact .inr (.inr (.inl ⟨rfl, rfl, by simp⟩))
        · exact .inr (.inr (.inr ⟨rfl, rfl, rfl⟩))
        · cases e
      · cases e
    · cases e
  · cases e
theorem goV {k : Kd} {w : W} {m : Nat} {ws : List W} {x : LV} {xs : List LV} (R : Rep G ρ h H) (r : RV G ρ H w x) (rs : RVs G ρ H ws xs) (p : Post G Y σ ρ H (Wants Q G) (lf (bmeth k w m ws h))) : rM G k m x xs H Q := ⟨ρ, h, w, ws, R, r, rs, p.val⟩
/-- o.m(..) -/
theorem pe_mth (hK : X.K = G.K) (B : BnOk G) {pg : Pg} {F k m : Nat} (M : MOk G X pg F k m) (hr : L2.Room k X.A) (tk : L2.Takes X Y) (hpg : c.pg = pg) (hcf : c.cf = run pg F k) {o : Expr} {a : E} {apos pos : Pos} {es : List Expr} {as : Es} (hb : okBase o = true) (hl : (apos.endLine == pos.line) = true)
    (hs : es.all (fun e => match e with | .Starred .. => false | _ => true) = true) (hn : es.length < 20) (hnil : es = [] → as = .nil) (hcons : es ≠ [] → as ≠ .nil) (ho : L2.PE X o (tev G Y c a)) (ha : L2.PA X es (tes G Y c as)) : L2.PE X (.Call (.Attribute o (G.an m) apos) es [] pos) (tev G Y c (.mth a m as)) := by
  refine ⟨fun pins s σ H Q I hh => ?_⟩
  obtain ⟨ρ, h, τ, R, S, p⟩ := hh
  simp only [evE] at p
  cases e1 : evE c a τ h with
  | no => rw [e1] at p; exact p.elim
  | ex e h1 =>
    -- the receiver raises
    rw [e1] at p
    refine PySem.W.methodCall_KW (pl := (do return (← importBound o X.env).getD true)) (L2.thn (ho.run pins s σ H (fun _ _ => False) I ⟨ρ, h, τ, R, S, by rw [e1]; exact p⟩) fun u s1 ⟨_, _, _, _, q⟩ => q.elim) (meth_eval hb hl hs hn)
  | ok w h1 =>
    rw [e1] at p
    have p1 : ∀ ρ1 H1, To ρ H ρ1 H1 → Post G Y σ ρ1 H1 (Wants Q G) (match mkind c.pg h1 m w with
      | .usr g => (evEs c as τ h1).b fun xs h => c.cf g (w :: xs) h
      | .bt k => (evEs c as τ h1).b fun xs h => lf (bmeth k w m xs h)
      | .no => .no) := fun ρ1 H1 t => Post.shift p t
    cases z : mkind c.pg h1 m w with
    | no => exact ((by have := p1 ρ H .refl; rw [z] at this; exact this) : False).elim
    | usr g =>
      -- an own method
      unfold mkind at z
      split at z
      · split at z <;> cases z
      · rename_i n
        split at z
        · split at z <;> cases z
        · rename_i kk fs g1
          split at z
          · rename_i g' em
            cases z
            refine PySem.W.methodCall_KW (pl := (do return (← importBound o X.env).getD true)) (L2.thn (ho.run pins s σ H (fun x H1 => ∃ ρ1, Rep G ρ1 h1 H1 ∧ RSl G ρ1 H1 τ σ ∧ RV G ρ1 H1 (.obj n) x ∧ To ρ H ρ1 H1) I ⟨ρ, h, τ, R, S, by rw [e1]; exact fun ρ1 H1 t1 R1 x r => ⟨ρ1, R1, S.to t1 R, r, t1⟩⟩) fun u s1 ⟨x, H1, I1, rx, ρ1, R1, S1, r1, t1⟩ => ?_) (meth_eval hb hl hs hn)
            obtain ⟨b, rfl, eb⟩ := rv_obj r1
            obtain rfl : u = Value.ref b := rx
            obtain ⟨C, dx, ys, ec, ea, cl, nl⟩ := meth_ins (m := m) hK R1 eb g1
            obtain ⟨f, Mf, F0⟩ := M.ok kk C g ec (hpg ▸ em)
            refine L2.getmeth_ok I1 ea cl Mf (nl f Mf) ?_
            have p2 := p1 ρ1 H1 t1
            unfold mkind at p2
            simp only [g1, em, hcf] at p2
            cases es with
            | nil =>
              rw [hnil rfl] at p2
              simp only [evEs] at p2
              exact PySem.W.callWith_K0 (first := [.ref b]) I1.kIn Mf.kp (run_g F0 hr tk I1 (us := [.ref b]) (vs := [.ref b]) (.cons rfl .nil) R1 (.cons r1 .nil) p2)
            | cons e es =>
              rw [List.all_cons, Bool.and_eq_true] at hs
              refine PySem.W.callWith_K (first := [.ref b]) (h₀ := X.base) I.ok.mod.kin Mf.kp (L2.thn (ha.run pos pins s1 σ H1 (fun xs H2 => ∃ ρ2 h2 ws, Rep G ρ2 h2 H2 ∧ RVs G ρ2 H2 ws xs ∧ To ρ1 H1 ρ2 H2 ∧ Post G Y σ ρ2 H2 (Wants Q G) (run pg F k g (.obj n :: ws) h2)) I1 ?_) fun us s2 hq => ?_) (starEach_cons hs.1) (any_star hs.2)
              · exact goS R1 S1 p2 fun ws h2 ρ2 H2 xs e2 R2 S2 r2 t2 p => ⟨ρ2, h2, ws, R2, r2, t2, p⟩
              · obtain ⟨vs, H2, I2, r, ρ2, h2, ws, R2, r2, t2, p⟩ := hq
                exact ⟨I2.kIn, run_g F0 hr tk I2 (us := .ref b :: us) (vs := .ref b :: vs) (.cons rfl r) R2 (.cons (r1.to t2 R1) r2) p⟩
          · cases z
        · cases z
      · cases z
    | bt k' =>
      have go : ∀ (T id : String) (ht : k' = .str ∧ T = "str" ∨ k' = .lst ∧ T = "list") (pa : PlainAttrs T) (sl : Slot T (G.an m) id) (hty : typeOf (.builtin id) = pure (.type "method_descriptor")) (hm : L2.MtR X id (rM G k' m)), wpAny (model X.prog X.w) X.A (eval (.Call (.Attribute o (G.an m) apos) es [] pos) X.env) (L2.EP X pins σ Q) X.xe s := by
        intro T id ht pa sl hty hm
        have ty : ∀ ρ1 H1 x, Rep G ρ1 h1 H1 → RV G ρ1 H1 w x → L2.tyV X.K T x H1 := fun ρ1 H1 x R1 r => by
          unfold mkind at z
          split at z
          · split at z
            · cases z
              simp only [RV] at r; subst r
              rcases ht with ⟨_, rfl⟩ | ⟨q, _⟩
              · rfl
              · cases q
            · cases z
          · split at z
            · rename_i xs g1
              have q : k' = .lst := by split at z <;> cases z <;> rfl
              subst q
              rcases ht with ⟨q, _⟩ | ⟨_, rfl⟩
              · cases q
              · obtain ⟨b, rfl, eb⟩ := rv_obj r
                obtain ⟨ys, t, _⟩ := R1.seq eb (show h1.lst? _ = some xs by simp [Hp.lst?, g1])
                exact .inl ⟨rfl, ys, hK ▸ t⟩
            · split at z <;> cases z
            · cases z
          · cases z
        cases es with
        | nil =>
          refine (L2.pe_bm0 pa sl hty hm ho (base_ok hb) hl).run pins s σ H Q I ?_
          refine ⟨ρ, h, τ, R, S, ?_⟩
          rw [e1]
          intro ρ1 H1 t1 R1 x r
          refine ⟨ty ρ1 H1 x R1 r, ?_⟩
          have p2 := p1 ρ1 H1 t1
          rw [z, hnil rfl] at p2
          simp only [evEs] at p2
          exact goV R1 r .nil p2
        | cons e es =>
          rw [List.all_cons, Bool.and_eq_true] at hs
          refine (L2.pe_bm pa sl hty hm ho ha (base_ok hb) (by have := few_ok (env := X.env) (pos := pos) (es := e :: es) (by rw [List.all_cons, Bool.and_eq_true]; exact hs) hn; exact this) hl (starEach_cons hs.1) (any_star hs.2)).run pins s σ H Q I ?_
          refine ⟨ρ, h, τ, R, S, ?_⟩
          rw [e1]
          intro ρ1 H1 t1 R1 x r
          refine ⟨ty ρ1 H1 x R1 r, ?_⟩
          have p2 := p1 ρ1 H1 t1
          rw [z] at p2
          exact goS R1 (S.to t1 R) p2 fun ws h2 ρ2 H2 xs e2 R2 S2 r2 t2 p => goV R2 (r.to t2 R1) r2 p
      have z' := z
      unfold mkind at z'
      split at z'
      · split at z'
        · cases z'
          exact go "str" "str.join" (.inl ⟨rfl, rfl⟩) PySem.F.plainAttrs_str (B.join ▸ PySem.F.slot_str_join) PySem.F.type_str_join (mt_join' hK)
        · cases z'
      · split at z'
        · split at z'
          · cases z'
            exact go "list" "list.append" (.inr ⟨rfl, rfl⟩) PySem.F.plainAttrs_list (B.append ▸ PySem.F.slot_list_append) PySem.F.type_list_append (mt_append' hK)
          · cases z'
            exact go "list" "list.extend" (.inr ⟨rfl, rfl⟩) PySem.F.plainAttrs_list (B.extend ▸ PySem.F.slot_list_extend) PySem.F.type_list_extend (mt_extend' hK)
          · cases z'
            exact go "list" "list.pop" (.inr ⟨rfl, rfl⟩) PySem.F.plainAttrs_list (B.pop ▸ PySem.F.slot_list_pop) PySem.F.type_list_pop (mt_pop' hK)
          · cases z'
        · split at z' <;> cases z'
        · cases z'
      · cases z'
end TX
end
section
set_option maxRecDepth 100000
set_option linter.unusedVariables false
/-! EvLoop: what is walked. -/
namespace TX
open PySem PySem.Spec PyProof.Rows
variable {G : Gx} {ρ ρ' ρ'' : List Addr} {H H' H'' : LH} {h h' : Hp} {a : Addr}
variable {Y : L2.WX} {σ : L2.St} {c : Cf} {Q : L2.VK} {τ : Sl} {X : L2.Cx}
/-- the next item: some none is the end -/
def nextQ (q : Sq) (i : Nat) (h : Hp) : Option (Option W) := match q with
  | .snap xs => some xs[i]?
  | .live n => (h.lst? n).map fun xs => xs[i]?
  | .enml n => (h.lst? n).map fun xs => (xs[i]?).map (item true i)
/-- the model's walk goes along -/
def JOk (G : Gx) (q : Sq) (J : L2.It) (ρ1 : List Addr) (H1 : LH) : Prop := ∀ ρ h H i, To ρ1 H1 ρ H → Rep G ρ h H → match nextQ q i h with
  | some (some w) => J.go i H ∧ ∀ x H', J.yld i H x H' → To ρ H ρ H' ∧ Rep G ρ h H' ∧ RV G ρ H' w x
  | some none => J.stop i H
  | none => True
def tin (G : Gx) (Y : L2.WX) (c : Cf) (it : It) : L2.TI := fun σ H K => ∃ ρ h τ, Rep G ρ h H ∧ RSl G ρ H τ σ ∧ Post G Y σ ρ H (fun q h1 ρ1 H1 => ∀ J, JOk G q J ρ1 H1 → K J H1) (evI c it τ h)
theorem jok_list (R1 : Rep G ρ h H) {n : Nat} (e : ρ[n]? = some a) : JOk G (.live n) (L2.Itl G.K a) ρ H := by
  intro ρ2 h2 H2 i t R
  have e2 := pre_get t.pre e
  simp only [nextQ]
  cases g : h2.lst? n with
  | none => trivial
  | some xs =>
    obtain ⟨ys, s, q⟩ := R.seq e2 g
    simp only [Option.map_some]
    cases g2 : xs[i]? with
    | none => exact ⟨ys, s, by rw [q.len]; exact List.getElem?_eq_none_iff.mp g2⟩
    | some w =>
      obtain ⟨x, e3, r⟩ := q.get g2
      refine ⟨⟨ys, x, s, e3⟩, fun x' H' y => ?_⟩
      obtain ⟨rfl, y⟩ := y
      have := y ys s
      rw [e3] at this; cases this
      exact ⟨.refl, R, r⟩
theorem jok_enum (R1 : Rep G ρ h H) {n : Nat} (e : ρ[n]? = some a) : JOk G (.enml n) (L2.Ite G.K a) ρ H := by
  intro ρ2 h2 H2 i t R
  have e2 := pre_get t.pre e
  simp only [nextQ]
  cases g : h2.lst? n with
  | none => trivial
  | some xs =>
    obtain ⟨ys, s, q⟩ := R.seq e2 g
    simp only [Option.map_some]
    cases g2 : xs[i]? with
    | none => exact ⟨ys, s, by rw [q.len]; exact List.getElem?_eq_none_iff.mp g2⟩
    | some w =>
      obtain ⟨x, e3, r⟩ := q.get g2
      refine ⟨⟨ys, x, s, e3⟩, fun x' H' y => ?_⟩
      obtain ⟨T, z, rfl, hT, rfl, y⟩ := y
      have := y ys s
      rw [e3] at this; cases this
      obtain ⟨R', t'⟩ := R.aside (o := .tup [.int (i : Nat), x]) hT
      refine ⟨t', R', ?_⟩
      simp only [item, RV]
      refine ⟨T, _, rfl, L2.upd_same, .cons (by simp [RV]) (.cons (r.to t' R) .nil)⟩
theorem jok_tup {xs : List W} {ys : List LV} (R1 : Rep G ρ h H) (s : H a = some (.tup ys)) (q : RVs G ρ H xs ys) : JOk G (.snap xs) (L2.Itt G.K a) ρ H := by
  intro ρ2 h2 H2 i t R
  have s2 : L2.SqT G.K H2 a ys := .inl (.inl (t.fr a _ s (R1.not_tup s) rfl))
  have q2 := q.to t R1
  simp only [nextQ]
  cases g2 : xs[i]? with
  | none => exact ⟨ys, s2, by rw [q.len]; exact List.getElem?_eq_none_iff.mp g2⟩
  | some w =>
    obtain ⟨x, e3, r⟩ := q2.get g2
    refine ⟨⟨ys, x, s2, e3⟩, fun x' H' y => ?_⟩
    obtain ⟨rfl, y⟩ := y
    have := y ys s2
    rw [e3] at this; cases this
    exact ⟨.refl, R, r⟩
theorem jok_lis {xs : List W} {ys : List LV} (R1 : Rep G ρ h H) (s : LisAt G H a ys) (q : RVs G ρ H xs ys) : JOk G (.snap xs) (L2.Itl G.K a) ρ H := by
  intro ρ2 h2 H2 i t R
  have s2 : L2.SqL G.K H2 a ys := (s.mono (t.tk R1)).sq
  have q2 := q.to t R1
  simp only [nextQ]
  cases g2 : xs[i]? with
  | none => exact ⟨ys, s2, by rw [q.len]; exact List.getElem?_eq_none_iff.mp g2⟩
  | some w =>
    obtain ⟨x, e3, r⟩ := q2.get g2
    refine ⟨⟨ys, x, s2, e3⟩, fun x' H' y => ?_⟩
    obtain ⟨rfl, y⟩ := y
    have := y ys s2
    rw [e3] at this; cases this
    exact ⟨.refl, R, r⟩
theorem jok_str {s : List Nat} : JOk G (.snap (s.map fun c => .str [c])) (L2.Its (S' s)) ρ H := by
  intro ρ2 h2 H2 i t R
  simp only [nextQ, List.getElem?_map]
  cases g : s[i]? with
  | none =>
    have := List.getElem?_eq_none_iff.mp g
    show (S' s).cps.size ≤ i
    simpa using this
  | some d =>
    obtain ⟨h1, h2⟩ := List.getElem?_eq_some_iff.mp g
    refine ⟨by show i < (S' s).cps.size; simpa using h1, fun x' H' y => ?_⟩
    obtain ⟨rfl, e, e1, rfl⟩ := y
    have e2 : s[i]? = some e := by simpa using e1
    rw [g] at e2; cases e2
    exact ⟨.refl, R, by simp [RV]⟩
theorem rngL_get : ∀ (n : Nat) (lo c : Int) (i : Nat), (rngL n lo c)[i]? = if i < n then some (.int (lo + (i : Nat) * c)) else none
  | 0, _, _, i => by simp [rngL]
  | n + 1, lo, c, 0 => by simp [rngL]
  | n + 1, lo, c, i + 1 => by
    rw [rngL, List.getElem?_cons_succ, rngL_get n]
    by_cases h : i < n
    · rw [if_pos h, if_pos (by omega)]
      congr 2
      rw [Int.add_assoc, show ((i + 1 : Nat) : Int) = (i : Int) + 1 by omega, Int.add_mul, Int.one_mul, Int.add_comm c]
    · rw [if_neg h, if_neg (by omega)]
theorem jok_rngC {lo c : Int} {n : Nat} : JOk G (.snap (rngL n lo c)) (L2.Itc lo c n) ρ H := by
  intro ρ2 h2 H2 i t R
  simp only [nextQ, rngL_get]
  by_cases hi : i < n
  · rw [if_pos hi]
    refine ⟨hi, fun x' H' y => ?_⟩
    obtain ⟨rfl, rfl⟩ := y
    exact ⟨.refl, R, by simp [RV]⟩
  · rw [if_neg hi]
    exact Nat.le_of_not_lt hi
theorem jok_rng {lo : Int} {n : Nat} : JOk G (.snap (rngL n lo 1)) (L2.Itr lo n) ρ H := by
  intro ρ2 h2 H2 i t R
  simp only [nextQ, rngL_get]
  by_cases hi : i < n
  · rw [if_pos hi]
    refine ⟨hi, fun x' H' y => ?_⟩
    obtain ⟨rfl, rfl⟩ := y
    exact ⟨.refl, R, by simp [RV]⟩
  · rw [if_neg hi]
    exact Nat.le_of_not_lt hi
/-! ### iterables -/
theorem goI {it : E} {f : W → Hp → R Sq} {K : Sq → Hp → List Addr → LH → Prop} (R : Rep G ρ h H) (S : RSl G ρ H τ σ) {Q' : L2.VK} (p : Post G Y σ ρ H K ((evE c it τ h).b f))
    (k : ∀ w h1 ρ1 H1 x, evE c it τ h = .ok w h1 → Rep G ρ1 h1 H1 → RSl G ρ1 H1 τ σ → RV G ρ1 H1 w x → To ρ H ρ1 H1 → Post G Y σ ρ1 H1 K (f w h1) → Q' x H1) : tev G Y c it σ H Q' :=
  ⟨ρ, h, τ, R, S, p.bind.imp fun w h1 ρ1 H1 e1 t1 R1 q x r => k w h1 ρ1 H1 x e1 R1 (S.to t1 R) r t1 q⟩
theorem pi_ex (hK : X.K = G.K) {tg e : Expr} {a : E} (ha : L2.PE X e (tev G Y c a)) : L2.PI X tg e (tin G Y c (.ex a)) := by
  refine ⟨fun pins s σ H K I hh => ?_⟩
  obtain ⟨ρ, h, τ, R, S, p⟩ := hh
  simp only [evI] at p
  cases e1 : evE c a τ h with
  | no => rw [e1] at p; exact p.elim
  | ex e h1 =>
    rw [e1] at p
    exact (L2.pi_tup ha).run pins s σ H K I ⟨ρ, h, τ, R, S, by rw [e1]; exact p⟩
  | ok w h1 =>
    cases w with
    | tup ws =>
      refine (L2.pi_tup ha).run pins s σ H K I (goI R S p fun w h1' ρ1 H1 x e2 R1 S1 r1 t1 p => ?_)
      rw [e1] at e2; cases e2
      simp only [walk?] at p
      split at p
      · rename_i q hq
        split at hq
        · cases hq
          obtain ⟨b, ys, rfl, s, rs⟩ := rv_tup' r1
          exact ⟨b, rfl, ⟨ys, .inl (.inl s)⟩, hK ▸ p.here R1 _ (jok_tup R1 s rs)⟩
        · cases hq
      · exact p.elim
    | lis ws =>
      refine (L2.pi_list ha).run pins s σ H K I (goI R S p fun w h1' ρ1 H1 x e2 R1 S1 r1 t1 p => ?_)
      rw [e1] at e2; cases e2
      simp only [walk?] at p
      split at p
      · rename_i q hq
        split at hq
        · cases hq
          simp only [RV] at r1
          obtain ⟨b, ys, rfl, s, rs⟩ := r1
          exact ⟨b, rfl, ⟨ys, hK ▸ s.sq⟩, hK ▸ p.here R1 _ (jok_lis R1 s rs)⟩
        · cases hq
      · exact p.elim
    | str s =>
      refine (L2.pi_str ha).run pins _ σ H K I (goI R S p fun w h1' ρ1 H1 x e2 R1 S1 r1 t1 p => ?_)
      rw [e1] at e2; cases e2
      simp only [walk?] at p
      split at p
      · rename_i q hq
        split at hq
        · cases hq
          simp only [RV] at r1; subst r1
          exact ⟨_, rfl, p.here R1 _ jok_str⟩
        · cases hq
      · exact p.elim
    | obj n =>
      refine (L2.pi_list ha).run pins s σ H K I (goI R S p fun w h1' ρ1 H1 x e2 R1 S1 r1 t1 p => ?_)
      rw [e1] at e2; cases e2
      obtain ⟨b, rfl, eb⟩ := rv_obj r1
      simp only [walk?] at p
      split at p
      · rename_i q hq
        split at hq
        · rename_i xs g
          split at hq
          · cases hq
            obtain ⟨ys, s, _⟩ := R1.seq eb g
            exact ⟨b, rfl, ⟨ys, hK ▸ s⟩, hK ▸ p.here R1 _ (jok_list R1 eb)⟩
          · cases hq
        · cases hq
      · exact p.elim
    | _ => rw [e1] at p; exact p.elim
theorem pi_enm (hK : X.K = G.K) {e : Expr} {a : E} {elts : List Expr} {kk : Nat} {p0 pos tpos : Pos} (hg : L2.Gl X "enumerate") (hm : X.mg "enumerate" = none) (hs : (match e with | .Starred .. => false | _ => true) = true) (ha : L2.PE X e (tev G Y c a)) :
    L2.PI X (.Tuple elts kk tpos) (.Call (.Name "enumerate" p0) [e] [] pos) (tin G Y c (.enm a)) := by
  refine ⟨fun pins s σ H K I hh => ?_⟩
  obtain ⟨ρ, h, τ, R, S, p⟩ := hh
  simp only [evI] at p
  refine (L2.pi_enum hg hm (L2.pa_cons ha L2.pa_nil (starEach_cons hs)) (starEach_cons hs)).run pins s σ H K I (goI R S p fun w h1 ρ1 H1 x e1 R1 S1 r1 t1 p => ?_)
  split at p
  · rename_i n hq
    unfold walk? at hq
    split at hq
    · split at hq <;> cases hq
    · split at hq <;> cases hq
    · split at hq <;> cases hq
    · rename_i m
      split at hq
      · rename_i xs g
        split at hq
        · cases hq
          obtain ⟨b, rfl, eb⟩ := rv_obj r1
          obtain ⟨ys, s, _⟩ := R1.seq eb g
          exact ⟨b, ys, rfl, hK ▸ s, hK ▸ p.here R1 _ (jok_enum R1 eb)⟩
        · cases hq
      · cases hq
    · cases hq
  · exact p.elim
theorem lim62 : (LIM : Int) < 2 ^ 62 := by decide
theorem small_iff {i : Int} (h : small i = true) : -(2 ^ 62) ≤ i ∧ i < 2 ^ 62 := by
  unfold small at h
  simpa using h
theorem len_two {α : Type} : ∀ {l : List α}, l.length = 2 → ∃ a b, l = [a, b]
  | [a, b], _ => ⟨a, b, rfl⟩
  | [], h => by simp at h
  | [_], h => by simp at h
  | _ :: _ :: _ :: _, h => by simp at h
theorem len_three {α : Type} : ∀ {l : List α}, l.length = 3 → ∃ a b c, l = [a, b, c]
  | [a, b, c], _ => ⟨a, b, c, rfl⟩
  | [], h => by simp at h
  | [_], h => by simp at h
  | [_, _], h => by simp at h
  | _ :: _ :: _ :: _ :: _, h => by simp at h
theorem pi_rng {tg : Expr} {es : List Expr} {as : Es} {p0 pos : Pos} (hg : L2.Gl X "range") (hm : X.mg "range" = none) (hs : es.all (fun e => match e with | .Starred .. => false | _ => true) = true) (ha : L2.PA X es (tes G Y c as)) (hne : es.length = 1 ∨ es.length = 2 ∨ es.length = 3) (hlen : ∀ τ h ws h1, evEs c as τ h = .ok ws h1 → ws.length = es.length) :
    L2.PI X tg (.Call (.Name "range" p0) es [] pos) (tin G Y c (.rng as)) := by
  refine ⟨fun pins s σ H K I hh => ?_⟩
  obtain ⟨ρ, h, τ, R, S, p⟩ := hh
  simp only [evI] at p
  have go : ∀ Q', (∀ ws h1 ρ1 H1 xs q, ws.length = es.length → rng? ws = some q → Rep G ρ1 h1 H1 → RVs G ρ1 H1 ws xs → (∀ J, JOk G (.snap q) J ρ1 H1 → K J H1) → Q' xs H1) → tes G Y c as σ H Q' := fun Q' k => by
    refine ⟨ρ, h, τ, R, S, p.bind.imp fun ws h1 ρ1 H1 e1 t1 R1 p xs rs => ?_⟩
    split at p
    · rename_i q hq
      exact k ws h1 ρ1 H1 xs q (hlen τ h ws h1 e1) hq R1 rs (p.here R1)
    · exact p.elim
  rcases hne with hl | hl | hl
  · obtain ⟨e, rfl⟩ := List.length_eq_one_iff.mp hl
    rw [List.all_cons, Bool.and_eq_true] at hs
    refine (L2.pi_range1 hg hm ha (starEach_cons hs.1)).run pins s σ H K I (go _ fun ws h1 ρ1 H1 xs q hw hq R1 rs k => ?_)
    unfold rng? at hq
    split at hq
    · split at hq
      · rename_i j hj
        cases hq
        obtain ⟨x, z, rfl, r1, rs⟩ := rs.inv
        rw [rs.inv0]
        simp only [RV] at r1; subst r1
        have := small_iff hj.1
        exact ⟨_, rfl, this.1, this.2, k _ jok_rng⟩
      · cases hq
    · simp at hw
    · simp at hw
    · cases hq
  · obtain ⟨e, e', rfl⟩ := len_two hl
    rw [List.all_cons, Bool.and_eq_true] at hs
    have hs2 := hs.2
    rw [List.all_cons, Bool.and_eq_true] at hs2
    have e2 : starEach [e'] X.env = [(false, eval e' X.env)] := starEach_cons hs2.1
    refine (L2.pi_range2 hg hm ha (by rw [starEach_cons hs.1, e2]) e2).run pins s σ H K I (go _ fun ws h1 ρ1 H1 xs q hw hq R1 rs k => ?_)
    unfold rng? at hq
    split at hq
    · simp at hw
    · split at hq
      · rename_i j hj
        cases hq
        obtain ⟨x, z, rfl, r1, rs⟩ := rs.inv
        obtain ⟨y, z, rfl, r2, rs⟩ := rs.inv
        rw [rs.inv0]
        simp only [RV] at r1 r2; subst r1 r2
        have h1 := small_iff hj.1
        have h2 := small_iff hj.2.1
        exact ⟨_, _, rfl, ⟨h1.1, h1.2, h2.1, h2.2⟩, k _ jok_rng⟩
      · cases hq
    · simp at hw
    · cases hq
  · obtain ⟨e, e', e'', rfl⟩ := len_three hl
    rw [List.all_cons, Bool.and_eq_true] at hs
    refine (L2.pi_range3 hg hm ha (starEach_cons hs.1) (any_star hs.2)).run pins s σ H K I (go _ fun ws h1 ρ1 H1 xs q hw hq R1 rs k => ?_)
    unfold rng? at hq
    split at hq
    · simp at hw
    · simp at hw
    · split at hq
      · rename_i j hj
        obtain ⟨h1, h2, h3, h4⟩ := hj
        cases hq
        obtain ⟨x, z, rfl, r1, rs⟩ := rs.inv
        obtain ⟨y, z, rfl, r2, rs⟩ := rs.inv
        obtain ⟨u, z, rfl, r3, rs⟩ := rs.inv
        rw [rs.inv0]
        simp only [RV] at r1 r2 r3; subst r1 r2 r3
        have h1 := small_iff h1
        have h2 := small_iff h2
        subst h3
        exact ⟨_, _, _, _, rfl, L2.RgC.neg h1.1 h1.2 h2.1 h2.2, k _ jok_rngC⟩
      · cases hq
    · cases hq
end TX
end
section
set_option maxRecDepth 100000
set_option linter.unusedVariables false
/-! EvTgt: targets; what follows a statement. -/
namespace TX
open PySem PySem.Spec PyProof.Rows
variable {G : Gx} {ρ ρ' ρ'' : List Addr} {H H' H'' : LH} {h h' : Hp} {a : Addr}
variable {Y : L2.WX} {σ : L2.St} {c : Cf} {Q : L2.VK} {τ : Sl} {X : L2.Cx}
/-- only these slots change -/
def Fr (V : Nat → Bool) (σ σ' : L2.St) : Prop := σ'.length = σ.length ∧ ∀ j, V j = false → σ'[j]? = σ[j]?
theorem Fr.refl {V : Nat → Bool} : Fr V σ σ := ⟨rfl, fun _ _ => rfl⟩
theorem Fr.trans {V : Nat → Bool} {σ' σ'' : L2.St} (a : Fr V σ σ') (b : Fr V σ' σ'') : Fr V σ σ'' := ⟨b.1.trans a.1, fun j e => (b.2 j e).trans (a.2 j e)⟩
/-- a target stores a value -/
def ttg (G : Gx) (Y : L2.WX) (c : Cf) (V : Nat → Bool) (t : T) : L2.TG := fun v σ H K => ∃ ρ h τ w, Rep G ρ h H ∧ RSl G ρ H τ σ ∧ RV G ρ H w v ∧ Post G Y σ ρ H (fun τ' h' ρ' H' => ∀ σ', RSl G ρ' H' τ' σ' → Fr V σ σ' → K σ' H') (evT c t w τ h)
def tgs (G : Gx) (Y : L2.WX) (c : Cf) (V : Nat → Bool) (t : Ts) : L2.TGs := fun vs σ H K => ∃ ρ h τ ws, Rep G ρ h H ∧ RSl G ρ H τ σ ∧ RVs G ρ H ws vs ∧ Post G Y σ ρ H (fun τ' h' ρ' H' => ∀ σ', RSl G ρ' H' τ' σ' → Fr V σ σ' → K σ' H') (evTs c t ws τ h)
variable {V : Nat → Bool}
theorem pg_nm {x : Str} {i : Nat} {pos : Pos} (hV : V i = true) (hN : X.N.Nodup) (hi : X.N[i]? = some x) (hx : L2.Loc X.env.scope x) (hf : X.fn x = true ∨ X.env.scope.names.lookup x = some .local) : L2.PG X (.Name x pos) (ttg G Y c V (.nm i)) := by
  refine ⟨fun pins s σ H v u K I r hh => ?_⟩
  obtain ⟨ρ, h, τ, w, R, S, rv, p⟩ := hh
  simp only [evT] at p
  refine (L2.pg_name hN hi hx hf).run pins s σ H v u K I r (p.here R _ (S.set i rv) ⟨by simp, fun j e => ?_⟩)
  exact List.getElem?_set_ne (fun q => by subst q; rw [hV] at e; cases e)
theorem pgs_nil : L2.PGs X [] (tgs G Y c V .nil) := by
  refine ⟨fun pins s σ H vs us K I r hh => ?_⟩
  obtain ⟨ρ, h, τ, ws, R, S, rs, p⟩ := hh
  simp only [evTs] at p
  split at p
  · have e := rs.inv0
    subst e
    exact L2.pgs_nil.run pins s σ H [] us K I r ⟨rfl, p.here R _ S .refl⟩
  · exact p.elim
theorem assignEach_cons {e : Expr} {es : List Expr} {env : Env} (h : (match e with | .Starred .. => false | _ => true) = true) : (assignEach (e :: es) env).map (·.2) = assign e env :: (assignEach es env).map (·.2) := by
  cases e <;> first | rfl | cases h
/-- a target leaves the slots' relation -/
theorem pgs_cons {e : Expr} {es : List Expr} {t : T} {ts : Ts} (hs : (match e with | .Starred .. => false | _ => true) = true) (he : L2.PG X e (ttg G Y c V t)) (hr : L2.PGs X es (tgs G Y c V ts)) (hYs : ∀ w τ h e h', evTs c ts w τ h ≠ .ex e h') : L2.PGs X (e :: es) (tgs G Y c V (.cons t ts)) := by
  refine ⟨fun pins s σ H vs us K I r hh => ?_⟩
  obtain ⟨ρ, h, τ, ws, R, S, rs, p⟩ := hh
  simp only [evTs] at p
  split at p
  · rename_i w ws'
    obtain ⟨x, z, rfl, r1, rs⟩ := rs.inv
    refine (L2.pgs_cons he hr (assignEach_cons hs)).run pins s σ H _ us K I r ⟨x, z, rfl, ?_⟩
    refine ⟨ρ, h, τ, w, R, S, r1, p.bind.imp fun τ1 h1 ρ1 H1 e1 t1 R1 p σ1 S1 f1 => ?_⟩
    refine ⟨ρ1, h1, τ1, ws', R1, S1, rs.to t1 R, ?_⟩
    cases e2 : evTs c ts ws' τ1 h1 with
    | no => rw [e2] at p; exact p.elim
    | ex e h2 => exact absurd e2 (hYs _ _ _ _ _)
    | ok τ2 h2 => rw [e2] at p; exact fun ρ3 H3 t3 R3 σ' S' f' => p ρ3 H3 t3 R3 σ' S' (f1.trans f')
  · exact p.elim
/-- a, b = ..: a tuple, or a list -/
theorem pg_tp (hK : X.K = G.K) (hc : X.calm = true) {es : List Expr} {k : Nat} {pos : Pos} {ts : Ts} (hr : L2.PGs X es (tgs G Y c V ts)) (hl : ∀ ws τ h τ' h', evTs c ts ws τ h = .ok τ' h' → ws.length = es.length) (hY : ∀ w τ h e h', evTs c ts w τ h ≠ .ex e h') (hn : (assignEach es X.env).length = es.length) (hst : (assignEach es X.env).findIdx? (·.1) = none) : L2.PG X (.Tuple es k pos) (ttg G Y c V (.tp ts)) := by
  refine ⟨fun pins s σ H v u K I r hh => ?_⟩
  obtain ⟨ρ, h, τ, w, R, S, rv, p⟩ := hh
  simp only [evT] at p
  split at p
  · rename_i ws e
    cases e2 : evTs c ts ws τ h with
    | no => rw [e2] at p; exact p.elim
    | ex e h2 => exact absurd e2 (hY _ _ _ _ _)
    | ok τ2 h2 =>
      have hlen := hl _ _ _ _ _ e2
      obtain ⟨b, ys, rfl, t, q⟩ := seq_rel R e rv
      rcases t with ⟨t, n, _⟩ | ⟨t, _⟩
      · exact (L2.pg_lst hc hr hn hst).run pins s σ H _ u K I r ⟨b, ys, rfl, hK ▸ t, by rw [q.len, hlen], ρ, h, τ, ws, R, S, q, p⟩
      · exact (L2.pg_tup hc hr hn hst).run pins s σ H _ u K I r ⟨b, ys, rfl, hK ▸ t, by rw [q.len, hlen], ρ, h, τ, ws, R, S, q, p⟩
  · exact p.elim
theorem assign_sub {o i : Expr} {pos : Pos} {env : Env} (hp : plainE i = true) (v : Value) : assign (.Subscript o i pos) env v = (do
      let ov ← holding [v] (eval o env)
      let iv ← holding [v, ov] (eval i env)
      standAt pos
      holding [v, ov, iv] (setItem ov iv v)
      release [v, ov, iv] []) := by
  cases i <;> first | rfl | cases hp
theorem pg_sb (hK : X.K = G.K) (hu : X.A.units + 65 < cLine) {o i : Expr} {a b : E} {pos : Pos} (hp : plainE i = true) (ho : L2.PE X o (tev G Y c a)) (hi : L2.PE X i (tev G Y c b)) : L2.PG X (.Subscript o i pos) (ttg G Y c V (.sb a b)) := by
  refine ⟨fun pins s σ H v u K I r hh => ?_⟩
  obtain ⟨ρ, h, τ, w, R, S, rv, p⟩ := hh
  simp only [evT] at p
  refine (L2.pg_sub ho hi (set_ok hK hu) (assign_sub hp)).run pins s σ H v u K I r ?_
  refine ⟨ρ, h, τ, R, S, p.bind.imp fun x h1 ρ1 H1 e1 t1 R1 p o' r1 => ?_⟩
  have S1 := S.to t1 R
  refine ⟨ρ1, h1, τ, R1, S1, p.bind.imp fun y h2 ρ2 H2 e2 t2 R2 p i' r2 => ?_⟩
  refine ⟨ρ2, h2, x, y, w, R2, r1.to t2 R1, r2, (rv.to t1 R).to t2 R1, ?_⟩
  split at p
  · rename_i h3 e
    rw [e]
    exact fun ρ3 H3 t3 R3 => p ρ3 H3 t3 R3 σ ((S1.to t2 R1).to t3 R2) .refl
  · exact p.elim
/-- o.f = .. as a target -/
theorem pg_at (hK : X.K = G.K) {na : Nat → Nat → Bool} {f : Nat} (hf : f < G.nn) (hna : ∀ k C, G.ca k = some C → c.pg.na k f = true → L2.NoAttr G.K C (G.an f)) {o : Expr} {a : E} {pos : Pos} (ho : L2.PE X o (tev G Y c a)) : L2.PG X (.Attribute o (G.an f) pos) (ttg G Y c V (.at a f)) := by
  refine ⟨fun pins s σ H v u K I r hh => ?_⟩
  obtain ⟨ρ, h, τ, w, R, S, rv, p⟩ := hh
  simp only [evT] at p
  show wpAny _ _ (do
    let ov ← holding [u] (eval o X.env)
    standAt pos.atName
    holding [u, ov] (setAttr ov (G.an f) u)
    release [u, ov] []) _ _ _
  refine wpAny_bind (wpAny_holding (L2.thn (ho.run pins s σ H (fun x H1 => ∃ ρ1 h1 w1, Rep G ρ1 h1 H1 ∧ To ρ H ρ1 H1 ∧ RV G ρ1 H1 w1 x ∧ Post G Y σ ρ1 H1 (fun τ' h' ρ' H' => ∀ σ', RSl G ρ' H' τ' σ' → Fr V σ σ' → K σ' H') (match setat c.pg.na w1 f w h1 with
      | some h => .ok τ h
      | none => .no)) I ⟨ρ, h, τ, R, S, p.bind.imp fun x h1 ρ1 H1 e1 t1 R1 p o' r1 => ⟨ρ1, h1, x, R1, t1, r1, p⟩⟩) fun ov s1 hq => ?_))
  obtain ⟨x, H1, I1, rx, ρ1, h1, w1, R1, t1, r1, p⟩ := hq
  have V : ValH G (fun H2 => ∃ ρ2 h2, To ρ1 H1 ρ2 H2 ∧ Rep G ρ2 h2 H2 ∧ K σ H2) ρ1 H1 (setat c.pg.na w1 f w h1) := by
    cases e : setat c.pg.na w1 f w h1 with
    | none => rw [e] at p; exact p.elim
    | some h2 => rw [e] at p; exact fun ρ2 H2 t2 R2 => ⟨ρ2, h2, t2, R2, p ρ2 H2 t2 R2 σ ((S.to t1 R).to t2 R1) .refl⟩
  obtain ⟨b, C, dx, fs, rfl, e1, cl, hn, hl, ρ2, h2, t2, R2, q⟩ := fset_rel R1 hf hna r1 (rv.to t1 R) V
  obtain rfl : ov = Value.ref b := rx
  refine wpAny_bind (wpAny_standAt (wpAny_bind (wpAny_holding (L2.setattr_ok I1 e1 (hK ▸ cl) (hK ▸ hn) hl r fun s2 I2 => ?_))))
  exact wpAny_release ⟨σ, _, I2, q⟩
end TX
end
section
set_option maxRecDepth 100000
set_option linter.unusedVariables false
/-! EvLc: list comprehensions. -/
namespace TX
open PySem PySem.Spec PyProof.Rows
variable {G : Gx} {ρ ρ' ρ'' : List Addr} {H H' H'' : LH} {h h' : Hp} {a : Addr}
variable {Y : L2.WX} {σ : L2.St} {c : Cf} {Q : L2.VK} {τ : Sl} {X : L2.Cx}
/-- nothing is let out -/
def Y0 : L2.WX := fun _ _ _ _ => False
theorem takes0 : L2.Takes X Y0 := L2.takes0
def pushO (y : Option W) (acc : List W) : List W := match y with | some y => y :: acc | none => acc
def qm (q : Sq) (h : Hp) : Nat := match q with
  | .snap xs => xs.length
  | .live n => ((h.lst? n).getD []).length + 1
  | .enml n => ((h.lst? n).getD []).length + 1
def lcR (q : Sq) (body : W → Hp → R (Option W)) (m i : Nat) (acc : List W) (h : Hp) : R (List W) := match q with
  | .snap xs => if m = xs.length - i then lcS body (xs.drop i) acc h else .no
  | .live n => lcL false n body m i acc h
  | .enml n => lcL true n body m i acc h
theorem lcQ_R (q : Sq) (body : W → Hp → R (Option W)) (h : Hp) : lcQ q body h = lcR q body (qm q h) 0 [] h := by
  cases q with
  | snap xs => simp [lcQ, lcR, qm]
  | live n => rfl
  | enml n => rfl
theorem lcL_step {en : Bool} {n : Nat} {body : W → Hp → R (Option W)} {m i : Nat} {acc : List W} {h : Hp} (hn : lcL en n body m i acc h ≠ .no) :
    ∃ xs, h.lst? n = some xs ∧ ((∃ w m', xs[i]? = some w ∧ m = m' + 1 ∧ lcL en n body m i acc h = (body (item en i w) h).b fun y h => lcL en n body m' (i + 1) (pushO y acc) h) ∨ (xs[i]? = none ∧ lcL en n body m i acc h = .ok acc.reverse h)) := by
  cases m with
  | zero => exact absurd rfl hn
  | succ m =>
    rw [lcL] at hn ⊢
    cases g : h.lst? n with
    | none => rw [g] at hn; exact absurd rfl hn
    | some xs =>
      refine ⟨xs, rfl, ?_⟩
      cases g2 : xs[i]? with
      | none => exact .inr ⟨rfl, by simp only [g2]⟩
      | some w =>
        refine .inl ⟨w, m, rfl, rfl, ?_⟩
        simp only [g2]
        rfl
theorem lcR_step {q : Sq} {body : W → Hp → R (Option W)} {m i : Nat} {acc : List W} {h : Hp} (hn : lcR q body m i acc h ≠ .no) :
    (∃ w m', nextQ q i h = some (some w) ∧ m = m' + 1 ∧ lcR q body m i acc h = (body w h).b fun y h => lcR q body m' (i + 1) (pushO y acc) h) ∨ (nextQ q i h = some none ∧ lcR q body m i acc h = .ok acc.reverse h) := by
  cases q with
  | snap xs =>
    simp only [lcR, nextQ] at hn ⊢
    by_cases hm : m = xs.length - i
    · rw [if_pos hm] at hn ⊢
      by_cases hi : i < xs.length
      · left
        refine ⟨xs[i], m - 1, by simp [hi], by omega, ?_⟩
        rw [List.drop_eq_getElem_cons hi, lcS]
        congr 1
        funext y h
        rw [if_pos (by omega)]
        rfl
      · right
        rw [List.drop_eq_nil_of_le (by omega)]
        exact ⟨by rw [List.getElem?_eq_none (by omega)], rfl⟩
    · rw [if_neg hm] at hn; exact absurd rfl hn
  | live n =>
    obtain ⟨xs, g, z⟩ := lcL_step (en := false) hn
    simp only [nextQ, g, Option.map_some]
    rcases z with ⟨w, m', e, rfl, z⟩ | ⟨e, z⟩
    · exact .inl ⟨w, m', by rw [e], rfl, z⟩
    · exact .inr ⟨by rw [e], z⟩
  | enml n =>
    obtain ⟨xs, g, z⟩ := lcL_step (en := true) hn
    simp only [nextQ, g, Option.map_some]
    rcases z with ⟨w, m', e, rfl, z⟩ | ⟨e, z⟩
    · exact .inl ⟨item true i w, m', by rw [e]; rfl, rfl, z⟩
    · exact .inr ⟨by rw [e]; rfl, z⟩
theorem walk_len {h : Hp} {w : W} {q : Sq} (e : walk? h w = some q) : (∃ xs, q = .snap xs ∧ xs.length ≤ LIM) ∨ ∃ n xs, q = .live n ∧ h.lst? n = some xs ∧ xs.length ≤ LIM := by
  unfold walk? at e
  split at e
  · split at e
    · cases e; exact .inl ⟨_, rfl, by assumption⟩
    · cases e
  · split at e
    · cases e; exact .inl ⟨_, rfl, by assumption⟩
    · cases e
  · split at e
    · cases e; exact .inl ⟨_, rfl, by simpa using by assumption⟩
    · cases e
  · split at e
    · rename_i g
      split at e
      · cases e; exact .inr ⟨_, _, rfl, g, by assumption⟩
      · cases e
    · cases e
  · cases e
theorem rngL_len : ∀ (n : Nat) (lo c : Int), (rngL n lo c).length = n
  | 0, _, _ => rfl
  | n + 1, lo, c => by rw [rngL, List.length_cons, rngL_len n]
theorem rng_len {ws xs : List W} (e : rng? ws = some xs) : xs.length ≤ LIM := by
  unfold rng? at e
  split at e
  · split at e
    · rename_i z; cases e; rw [rngL_len]; have := z.2; omega
    · cases e
  · split at e
    · rename_i z; cases e; rw [rngL_len]; have := z.2.2; omega
    · cases e
  · split at e
    · rename_i z; cases e; rw [rngL_len]; have := z.2.2.2; omega
    · cases e
  · cases e
theorem evI_len {it : It} {τ : Sl} {h h1 : Hp} {q : Sq} (e : evI c it τ h = .ok q h1) : qm q h1 ≤ LIM + 1 := by
  cases it with
  | ex a =>
    simp only [evI] at e
    cases g : evE c a τ h with
    | no => rw [g] at e; cases e
    | ex _ _ => rw [g] at e; cases e
    | ok w h2 =>
      rw [g] at e
      change (match walk? h2 w with | some q => R.ok q h2 | none => .no) = _ at e
      split at e
      · rename_i q' g2
        cases e
        rcases walk_len g2 with ⟨xs, rfl, l⟩ | ⟨n, xs, rfl, l1, l⟩
        · exact Nat.le_succ_of_le l
        · show ((h1.lst? n).getD []).length + 1 ≤ _
          rw [l1]; exact Nat.succ_le_succ l
      · cases e
  | rng as =>
    simp only [evI] at e
    cases g : evEs c as τ h with
    | no => rw [g] at e; cases e
    | ex _ _ => rw [g] at e; cases e
    | ok w h2 =>
      rw [g] at e
      change (match rng? w with | some xs => R.ok (Sq.snap xs) h2 | none => .no) = _ at e
      split at e
      · rename_i q' g2
        cases e
        exact Nat.le_succ_of_le (rng_len g2)
      · cases e
  | enm a =>
    simp only [evI] at e
    cases g : evE c a τ h with
    | no => rw [g] at e; cases e
    | ex _ _ => rw [g] at e; cases e
    | ok w h2 =>
      rw [g] at e
      change (match walk? h2 w with | some (.live n) => R.ok (Sq.enml n) h2 | _ => .no) = _ at e
      split at e
      · rename_i n g2
        cases e
        rcases walk_len g2 with ⟨xs, q, l⟩ | ⟨n, xs, q, l1, l⟩
        · cases q
        · cases q
          show ((h1.lst? n).getD []).length + 1 ≤ _
          rw [l1]; exact Nat.succ_le_succ l
      · cases e
  | _ => simp only [evI] at e; cases e
theorem lim_lt : LIM < sizeLine := by rw [sizeLine_eq]; decide
/-- something stands that the reckoner does not number, and is written -/
theorem Rep.over {o : L2.HO} {ys : List LV} (R : Rep G ρ h H) (e : H a = some (.lst ys)) (na : a ∉ ρ) : Rep G ρ h (L2.upd H a o) := by
  have tk : Tk H (L2.upd H a o) := tk_upd (by rw [e]; rfl)
  refine ⟨R.len, R.nd, fun j b e1 => ?_, tabs_at R.tabs fun u z => by rw [e] at z; cases z; rfl⟩
  obtain ⟨u, g, ro⟩ := R.ob j b e1
  refine ⟨u, g, ro.mono (List.prefix_refl _) tk fun q hq => ?_⟩
  have hb : b ≠ a := fun z => by subst z; exact na (List.mem_of_getElem? e1)
  rw [L2.upd_ne hb]; exact hq
/-- it gets a number -/
theorem Rep.adopt {ob : Ob} {o : L2.HO} (R : Rep G ρ h H) (e : H a = some o) (na : a ∉ ρ) (r : RO G (ρ ++ [a]) H a ob) : Rep G (ρ ++ [a]) (h.new ob) H ∧ (ρ ++ [a])[h.n]? = some a := by
  refine ⟨⟨by simp [R.len, Hp.n_new], ?_, fun i b e => ?_, R.tabs⟩, by rw [← R.len]; simp⟩
  · rw [List.nodup_append]
    exact ⟨R.nd, by simp, fun x hx y hy => by simp at hy; subst hy; exact fun e => na (e ▸ hx)⟩
  · rcases snoc_get e with e | ⟨rfl, rfl⟩
    · obtain ⟨u, g, ro⟩ := R.ob i b e
      have hi := R.lt e
      exact ⟨u, by rw [Hp.get_new, if_neg (by omega)]; exact g, ro.mono (List.prefix_append _ _) .refl fun q hq => hq⟩
    · exact ⟨ob, by rw [Hp.get_new, if_pos R.len], r⟩
theorem wipe_fr {V : Nat → Bool} {σ σ' : L2.St} {vs : List Nat} (hV : ∀ j, V j = true → j ∈ vs) (f : Fr V (L2.wipe σ vs) σ') : L2.wipe σ' vs = L2.wipe σ vs := by
  have look : ∀ (σ : L2.St) (vs : List Nat) (j : Nat), (L2.wipe σ vs)[j]? = if j ∈ vs then (if j < σ.length then some none else none) else σ[j]? := by
    intro σ vs j
    induction vs with
    | nil => simp [L2.wipe]
    | cons v vs ih =>
      unfold L2.wipe
      by_cases hj : v = j
      · subst hj
        rw [if_pos List.mem_cons_self]
        by_cases hl : v < σ.length
        · rw [List.getElem?_set_self (by rw [L2.wipe_length]; exact hl), if_pos hl]
        · rw [List.getElem?_eq_none (by rw [List.length_set, L2.wipe_length]; omega), if_neg hl]
      · rw [List.getElem?_set_ne hj, ih]
        have : (j ∈ v :: vs) ↔ j ∈ vs := by
          rw [List.mem_cons]; exact ⟨fun z => z.elim (fun q => absurd q.symm hj) id, .inr⟩
        by_cases hm : j ∈ vs
        · rw [if_pos hm, if_pos (this.mpr hm)]
        · rw [if_neg hm, if_neg (fun z => hm (this.mp z))]
  have hl : σ'.length = σ.length := by rw [f.1, L2.wipe_length]
  refine List.ext_getElem? fun j => ?_
  rw [look σ' vs j, look σ vs j]
  by_cases hm : j ∈ vs
  · rw [if_pos hm, if_pos hm, hl]
  · rw [if_neg hm, if_neg hm]
    have hv : V j = false := by
      cases z : V j with
      | false => rfl
      | true => exact absurd (hV j z) hm
    rw [f.2 j hv, look σ vs j, if_neg hm]
/-- the comprehension's body -/
def lcB (c : Cf) (e : E) (t : T) (d : Cs) (own : List Nat) (τ : Sl) : W → Hp → R (Option W) := fun x h => (evT c t x (wipe τ own) h).b fun τ' h => (evC c d τ' h).b fun b h => match b with
      | true => (evE c e τ' h).b fun y h => .ok (some y) h
      | false => .ok none h
def tec (G : Gx) (Y : L2.WX) (c : Cf) (d : Cs) : L2.TT := fun σ H Q => ∃ ρ h τ, Rep G ρ h H ∧ RSl G ρ H τ σ ∧ Post G Y σ ρ H (fun b _ _ H' => Q b H') (evC c d τ h)
theorem pcs_nil : L2.PTs X [] (tec G Y c .nil) := by
  refine ⟨fun pins s σ H Q I hh => ?_⟩
  obtain ⟨ρ, h, τ, R, S, p⟩ := hh
  simp only [evC] at p
  exact L2.pts_nil.run pins s σ H Q I (p.here R)
theorem pcs_one {e : Expr} {a : E} (ha : L2.PT X e (tet G Y c a)) : L2.PTs X [e] (tec G Y c (.one a)) := by
  refine ⟨fun pins s σ H Q I hh => ?_⟩
  obtain ⟨ρ, h, τ, R, S, p⟩ := hh
  simp only [evC] at p
  exact (L2.pts_one ha).run pins s σ H Q I ⟨ρ, h, τ, R, S, p⟩
/-- what the rest of the comprehension leads to -/
def LP (K : List W → Hp → Prop) : R (List W) → Prop
  | .ok ys h => K ys h
  | _ => False
theorem LP.ne {K : List W → Hp → Prop} {x : R (List W)} (p : LP K x) : x ≠ .no := fun e => by rw [e] at p; exact p.elim
theorem post0 {α : Type} {x : R α} {K : List W → Hp → Prop} {f : α → Hp → R (List W)} (p : LP K (x.b f)) : Post G Y0 σ ρ H (fun a h _ _ => LP K (f a h)) x := by
  cases x with
  | ok a h1 => exact fun ρ2 H2 t2 R2 => p
  | ex e h1 => exact p.elim
  | no => exact p
theorem lp_b {α β : Type} {x : R α} {g : α → Hp → R β} {f : β → Hp → R (List W)} {K : List W → Hp → Prop} (p : LP K ((x.b g).b f)) : LP K (x.b fun a h => (g a h).b f) := by
  cases x <;> exact p
theorem tlc_ok {e : E} {t : T} {it : It} {d : Cs} {own : List Nat} {V : Nat → Bool} (hV : ∀ j, V j = true → j ∈ own)
    {σ : L2.St} {H : LH} (R : Rep G ρ h H) (S : RSl G ρ H τ σ) (p : Post G Y σ ρ H (Wants Q G) (evE c (.lc e t it d own) τ h)) :
    L2.tLc (tin G Y c it) (ttg G Y0 c V t) (tec G Y0 c d) (tev G Y0 c e) own σ H Q := by
  have ev : evE c (.lc e t it d own) τ h = (evI c it τ h).b fun q h => (lcQ q (lcB c e t d own τ) h).nox.b fun ys h => .ok (.obj h.n) (h.new (.lst ys)) := by simp only [evE]; rfl
  rw [ev] at p
  refine ⟨ρ, h, τ, R, S, p.bind.imp fun q h1 ρ1 H1 e1 t1 R1 p J hJ D hD => ?_⟩
  have S1 := S.to t1 R
  have hlen := evI_len e1
  have hDρ : D ∉ ρ1 := R1.notin hD
  -- the end
  let K : List W → Hp → Prop := fun ys h2 => Post G Y σ ρ1 H1 (Wants Q G) (.ok (.obj h2.n) (h2.new (.lst ys)))
  have p0 : LP K (lcR q (lcB c e t d own τ) (qm q h1) 0 [] h1) := by
    rw [← lcQ_R]
    revert p
    cases lcQ q (lcB c e t d own τ) h1 with
    | ok ys h2 => exact fun p => p
    | ex e h2 => exact fun p => p.elim
    | no => exact fun p => p.elim
  -- the turns
  let Wi : Nat → Nat → LH → Prop := fun i m H => ∃ ρ h acc xs, To ρ1 H1 ρ H ∧ Rep G ρ h H ∧ H D = some (.lst acc) ∧ D ∉ ρ ∧ RVs G ρ H xs.reverse acc ∧ acc.length + m ≤ LIM + 1 ∧ RSl G ρ H τ σ ∧ LP K (lcR q (lcB c e t d own τ) m i xs h)
  have dn : ∀ {ρ ρ' : List Addr} {H H' : LH} {acc : List LV}, To ρ H ρ' H' → H D = some (.lst acc) → D ∉ ρ → D ∉ ρ' := fun t e n z => by
    have := t.nw D z n _ e
    cases this
  obtain ⟨R1', t1'⟩ := R1.aside (o := .lst []) hD
  refine ⟨Wi, ⟨qm q h1, ρ1, h1, [], [], t1', R1', L2.upd_same, hDρ, by simpa using RVs.nil, by simpa using hlen, S1.to t1' R1, p0⟩, ?_⟩
  rintro i m H2 ⟨ρ2, h2, acc, xs, t2, R2, d2, n2, ra, hl, S2, p2⟩
  have hj := hJ ρ2 h2 H2 i t2 R2
  rcases lcR_step p2.ne with ⟨w, m', en, rfl, er⟩ | ⟨en, er⟩
  · rw [en] at hj
    rw [er] at p2
    refine .inr ⟨hj.1, Wi (i + 1) m', fun H' w' => ⟨m', Nat.lt_succ_self _, w'⟩, fun x H3 y => ?_⟩
    obtain ⟨t3, R3, r3⟩ := hj.2 x H3 y
    have S3 := (S2.to t3 R2).wipe own
    have p2 := lp_b p2
    refine ⟨ρ2, h2, TX.wipe τ own, w, R3, S3, r3, (post0 p2).imp fun τ4 h4 ρ4 H4 _ t4 R4 p4 σ4 S4 f4 => ?_⟩
    refine ⟨wipe_fr hV f4, ρ4, h4, τ4, R4, S4, ?_⟩
    have p4 := lp_b p4
    refine (post0 p4).imp fun b h5 ρ5 H5 _ t5 R5 p5 => ?_
    have t35 := t3.trans (t4.trans t5)
    cases b with
    | false =>
      show Wi (i + 1) m' H5
      refine ⟨ρ5, h5, acc, xs, t2.trans t35, R5, t35.fr D _ d2 n2 rfl, dn t35 d2 n2, ra.to t35 R2, by omega, S2.to t35 R2, p5⟩
    | true =>
      show tev G Y0 c e σ4 H5 _
      have p5 := lp_b p5
      refine ⟨ρ5, h5, τ4, R5, S4.to t5 R4, (post0 p5).imp fun v h6 ρ6 H6 _ t6 R6 p6 y r6 => ?_⟩
      have t36 := t35.trans t6
      have d6 := t36.fr D _ d2 n2 rfl
      have n6 := dn t36 d2 n2
      refine ⟨acc, d6, by have := lim_lt; omega, ρ6, h6, acc ++ [y], v :: xs, ?_, R6.over d6 n6, L2.upd_same, n6, ?_, by simp; omega, ?_, p6⟩
      · have t := t2.trans t36
        refine ⟨t.pre, fun b u e n z1 => ?_, t.nw⟩
        have hb : b ≠ D := fun z => by subst z; rw [hD] at e; cases e
        rw [L2.upd_ne hb]; exact t.fr b u e n z1
      · have tk : Tk H6 (L2.upd H6 D (.lst (acc ++ [y]))) := tk_upd (by rw [d6]; rfl)
        rw [List.reverse_cons]
        exact RVs.mono (List.prefix_refl _) tk _ _ ((ra.to t36 R2).app (.cons r6 .nil))
      · have tk : Tk H6 (L2.upd H6 D (.lst (acc ++ [y]))) := tk_upd (by rw [d6]; rfl)
        exact (S2.to t36 R2).mono (List.prefix_refl _) tk
  · rw [en] at hj
    rw [er] at p2
    refine .inl ⟨hj, ?_⟩
    obtain ⟨R3, e3⟩ := R2.adopt (ob := .lst xs.reverse) d2 n2 ⟨acc, d2, RVs.mono (List.prefix_append _ _) .refl _ _ ra⟩
    refine p2 (ρ2 ++ [D]) H2 ⟨t2.pre.trans (List.prefix_append _ _), t2.fr, fun b hb n => ?_⟩ R3 _ ?_
    · rcases List.mem_append.mp hb with hb | hb
      · exact t2.nw b hb n
      · simp at hb; subst hb; exact fun o e => by rw [hD] at e; cases e
    · simp only [RV]; exact ⟨D, rfl, e3⟩
end TX
end
section
set_option maxRecDepth 100000
set_option linter.unusedVariables false
/-! EvStm: statements. -/
namespace TX
open PySem PySem.Spec PyProof.Rows
variable {G : Gx} {ρ ρ' ρ'' : List Addr} {H H' H'' : LH} {h h' : Hp} {a : Addr}
variable {Y : L2.WX} {σ : L2.St} {c : Cf} {Q : L2.VK} {τ : Sl} {X : L2.Cx}
def PostS (G : Gx) (Y : L2.WX) (ρ : List Addr) (H : LH) (D : L2.Ends) : RS → Prop
  | .fl (.nx τ) h' => ∀ ρ' H' σ', To ρ H ρ' H' → Rep G ρ' h' H' → RSl G ρ' H' τ σ' → D.nx σ' H'
  | .fl (.bk τ) h' => ∀ ρ' H' σ', To ρ H ρ' H' → Rep G ρ' h' H' → RSl G ρ' H' τ σ' → D.bk σ' H'
  | .fl (.ct τ) h' => ∀ ρ' H' σ', To ρ H ρ' H' → Rep G ρ' h' H' → RSl G ρ' H' τ σ' → D.ct σ' H'
  | .fl (.rt w) h' => ∀ ρ' H' x, To ρ H ρ' H' → Rep G ρ' h' H' → RV G ρ' H' w x → D.rt x H'
  | .ex e τ h' => ∀ ρ' H' σ' cl d, To ρ H ρ' H' → Rep G ρ' h' H' → RSl G ρ' H' τ σ' → RX G ρ' H' e cl d → Y cl d σ' H'
  | .no => False
variable {D : L2.Ends}
theorem PostS.shift {x : RS} (p : PostS G Y ρ H D x) (t : To ρ H ρ' H') : PostS G Y ρ' H' D x := by
  cases x with
  | fl f h1 =>
    cases f with
    | nx τ => exact fun ρ2 H2 σ t2 R2 => p ρ2 H2 σ (t.trans t2) R2
    | bk τ => exact fun ρ2 H2 σ t2 R2 => p ρ2 H2 σ (t.trans t2) R2
    | ct τ => exact fun ρ2 H2 σ t2 R2 => p ρ2 H2 σ (t.trans t2) R2
    | rt τ => exact fun ρ2 H2 σ t2 R2 => p ρ2 H2 σ (t.trans t2) R2
  | ex e τ h1 => exact fun ρ2 H2 σ cl d t2 R2 => p ρ2 H2 σ cl d (t.trans t2) R2
  | no => exact p
/-- behind an expression -/
theorem PostS.of {α : Type} {x : R α} {f : α → Hp → RS} (R : Rep G ρ h H) (S : RSl G ρ H τ σ) (p : PostS G Y ρ H D (x.s τ f)) : Post G Y σ ρ H (fun a h1 ρ1 H1 => PostS G Y ρ1 H1 D (f a h1)) x := by
  cases x with
  | ok a h1 => exact fun ρ2 H2 t2 R2 => PostS.shift (x := f a h1) p t2
  | ex e h1 => exact fun ρ2 H2 cl d t2 R2 rx => p ρ2 H2 σ cl d t2 R2 (S.to t2 R) rx
  | no => exact p
/-- behind a statement -/
theorem PostS.bind {x : RS} {f : Sl → Hp → RS} (K : L2.St → LH → Prop) (p : PostS G Y ρ H D (x.b f)) (k : ∀ τ1 h1 ρ1 H1 σ1, To ρ H ρ1 H1 → Rep G ρ1 h1 H1 → RSl G ρ1 H1 τ1 σ1 → PostS G Y ρ1 H1 D (f τ1 h1) → K σ1 H1) : PostS G Y ρ H { D with nx := K } x := by
  cases x with
  | fl g h1 =>
    cases g with
    | nx τ => exact fun ρ2 H2 σ t2 R2 S2 => k τ h1 ρ2 H2 σ t2 R2 S2 (PostS.shift (x := f τ h1) p t2)
    | bk τ => exact p
    | ct τ => exact p
    | rt τ => exact p
  | ex e τ h1 => exact p
  | no => exact p
/-- behind a turn -/
theorem PostS.turn {x : RS} {f : Sl → Hp → RS} (K : L2.St → LH → Prop) (p : PostS G Y ρ H D (x.turn f)) (k : ∀ τ1 h1 ρ1 H1 σ1, To ρ H ρ1 H1 → Rep G ρ1 h1 H1 → RSl G ρ1 H1 τ1 σ1 → PostS G Y ρ1 H1 D (f τ1 h1) → K σ1 H1) : PostS G Y ρ H { D with nx := K, ct := K, bk := D.nx } x := by
  cases x with
  | fl g h1 =>
    cases g with
    | nx τ => exact fun ρ2 H2 σ t2 R2 S2 => k τ h1 ρ2 H2 σ t2 R2 S2 (PostS.shift (x := f τ h1) p t2)
    | bk τ => exact p
    | ct τ => exact fun ρ2 H2 σ t2 R2 S2 => k τ h1 ρ2 H2 σ t2 R2 S2 (PostS.shift (x := f τ h1) p t2)
    | rt τ => exact p
  | ex e τ h1 => exact p
  | no => exact p
theorem PostS.next (p : PostS G Y ρ H D (.fl (.nx τ) h)) (R : Rep G ρ h H) (S : RSl G ρ H τ σ) : D.nx σ H := p ρ H σ .refl R S
def tst (G : Gx) (Y : L2.WX) (c : Cf) (s : S) : L2.TS := fun D σ H => ∃ ρ h τ, Rep G ρ h H ∧ RSl G ρ H τ σ ∧ PostS G Y ρ H D (evS c s τ h)
def tsts (G : Gx) (Y : L2.WX) (c : Cf) (s : Ss) : L2.TS := fun D σ H => ∃ ρ h τ, Rep G ρ h H ∧ RSl G ρ H τ σ ∧ PostS G Y ρ H D (evSs c s τ h)
/-! ### blocks -/
theorem pss_nil : L2.PSs X [] (tsts G Y c .nil) := by
  refine ⟨fun pins s σ H D I hh => ?_⟩
  obtain ⟨ρ, h, τ, R, S, p⟩ := hh
  simp only [evSs] at p
  exact L2.pss_nil.run pins s σ H D I (p.next R S)
theorem pss_cons {st : Stmt} {rest : List Stmt} {a : S} {as : Ss} (h1 : L2.PS X st (tst G Y c a)) (h2 : L2.PSs X rest (tsts G Y c as)) : L2.PSs X (st :: rest) (tsts G Y c (.cons a as)) := by
  refine ⟨fun pins s σ H D I hh => ?_⟩
  obtain ⟨ρ, h, τ, R, S, p⟩ := hh
  simp only [evSs] at p
  exact (L2.pss_cons h1 h2).run pins s σ H D I ⟨ρ, h, τ, R, S, p.bind _ fun τ1 h1 ρ1 H1 σ1 t1 R1 S1 p1 => ⟨ρ1, h1, τ1, R1, S1, p1⟩⟩
/-- a docstring -/
theorem pss_doc {x : Str} {j pos pos'} {rest : List Stmt} {as : Ss} (h2 : L2.PSs X rest (tsts G Y c as)) : L2.PSs X (.Expr (.Constant (.str x) j pos) pos' :: rest) (tsts G Y c as) := by
  refine ⟨fun pins s σ H D I hh => ?_⟩
  exact (L2.pss_cons L2.ps_doc h2).run pins s σ H D I hh
/-! ### small statements -/
theorem ps_pas {pos : Pos} : L2.PS X (.Pass pos) (tst G Y c .pas) := by
  refine ⟨fun pins s σ H D I hh => ?_⟩
  obtain ⟨ρ, h, τ, R, S, p⟩ := hh
  simp only [evS] at p
  exact L2.ps_pass.run pins s σ H D I (p.next R S)
theorem ps_brk {pos : Pos} : L2.PS X (.Break pos) (tst G Y c .brk) := by
  refine ⟨fun pins s σ H D I hh => ?_⟩
  obtain ⟨ρ, h, τ, R, S, p⟩ := hh
  simp only [evS] at p
  exact L2.ps_break.run pins s σ H D I (p ρ H σ .refl R S)
theorem ps_cnt {pos : Pos} : L2.PS X (.Continue pos) (tst G Y c .cnt) := by
  refine ⟨fun pins s σ H D I hh => ?_⟩
  obtain ⟨ρ, h, τ, R, S, p⟩ := hh
  simp only [evS] at p
  exact L2.ps_continue.run pins s σ H D I (p ρ H σ .refl R S)
theorem ps_exp {e : Expr} {a : E} {pos : Pos} (ha : L2.PE X e (tev G Y c a)) (hs : swapsWith e none pos.line X.env = pure false) : L2.PS X (.Expr e pos) (tst G Y c (.exp a)) := by
  refine ⟨fun pins s σ H D I hh => ?_⟩
  obtain ⟨ρ, h, τ, R, S, p⟩ := hh
  simp only [evS] at p
  exact (L2.ps_expr ha hs).run pins s σ H D I ⟨ρ, h, τ, R, S, (p.of R S).imp fun w h1 ρ1 H1 e1 t1 R1 p x r => p.next R1 (S.to t1 R)⟩
theorem ps_ret {e : Expr} {a : E} {pos : Pos} (ha : L2.PE X e (tev G Y c a)) : L2.PS X (.Return (some e) pos) (tst G Y c (.ret a)) := by
  refine ⟨fun pins s σ H D I hh => ?_⟩
  obtain ⟨ρ, h, τ, R, S, p⟩ := hh
  simp only [evS] at p
  exact (L2.ps_ret ha).run pins s σ H D I ⟨ρ, h, τ, R, S, (p.of R S).imp fun w h1 ρ1 H1 e1 t1 R1 p x r => p ρ1 H1 x .refl R1 r⟩
theorem ps_retN {pos : Pos} : L2.PS X (.Return none pos) (tst G Y c .retN) := by
  refine ⟨fun pins s σ H D I hh => ?_⟩
  obtain ⟨ρ, h, τ, R, S, p⟩ := hh
  simp only [evS] at p
  exact L2.ps_retN.run pins s σ H D I (p ρ H .non .refl R (by simp [RV]))
theorem ps_iff {d : Expr} {a b : List Stmt} {d' : E} {a' b' : Ss} {pos : Pos} (hd : L2.PT X d (tet G Y c d')) (ha : L2.PSs X a (tsts G Y c a')) (hb : L2.PSs X b (tsts G Y c b')) : L2.PS X (.If d a b pos) (tst G Y c (.iff d' a' b')) := by
  refine ⟨fun pins s σ H D I hh => ?_⟩
  obtain ⟨ρ, h, τ, R, S, p⟩ := hh
  simp only [evS] at p
  refine (L2.ps_if hd ha hb).run pins s σ H D I ⟨ρ, h, τ, R, S, (p.of R S).imp fun t h1 ρ1 H1 e1 t1 R1 p => ?_⟩
  cases t with
  | true => exact ⟨ρ1, h1, τ, R1, S.to t1 R, p⟩
  | false => exact ⟨ρ1, h1, τ, R1, S.to t1 R, p⟩
/-! ### stores -/
theorem asg_of {e : E} {t : T} {V : Nat → Bool} (R : Rep G ρ h H) (S : RSl G ρ H τ σ) (p : PostS G Y ρ H D (evS c (.asg t e) τ h)) : L2.tAsg (tev G Y c e) (ttg G Y c V t) D σ H := by
  simp only [evS] at p
  refine ⟨ρ, h, τ, R, S, (p.of R S).imp fun w h1 ρ1 H1 e1 t1 R1 p x r => ?_⟩
  have S1 := S.to t1 R
  exact ⟨ρ1, h1, τ, w, R1, S1, r, (p.of R1 S1).imp fun τ2 h2 ρ2 H2 e2 t2 R2 p σ2 S2 _ => p.next R2 S2⟩
theorem ps_asg {tg e : Expr} {a : E} {t : T} {V : Nat → Bool} {pos : Pos} (ha : L2.PE X e (tev G Y c a)) (hg : L2.PG X tg (ttg G Y c V t)) (hs : swapsWithSole [tg] e pos.line X.env = pure false) (hw : swappedStores [tg] e X.env = pure none) (h1 : (assignEach [tg] X.env).map (·.2) = [assign tg X.env]) : L2.PS X (.Assign [tg] e pos) (tst G Y c (.asg t a)) := by
  refine ⟨fun pins s σ H D I hh => ?_⟩
  obtain ⟨ρ, h, τ, R, S, p⟩ := hh
  exact (L2.ps_asg ha hg hs hw h1).run pins s σ H D I (asg_of R S p)
/-- an argument list, as a tuple's items -/
theorem ps_par {x y : Str} {i j : Nat} {a b : Expr} {a' b' : E} {px py pt pos : Pos} {kt k2 pt2} (hc : X.calm = true) (hN : X.N.Nodup) (hi : X.N[i]? = some x) (hj : X.N[j]? = some y) (hij : i ≠ j)
    (hx : X.env.scope.names.lookup x = some .local) (hy : X.env.scope.names.lookup y = some .local) (ha : L2.PA X [a, b] (tes G Y c (.cons a' (.cons b' .nil))))
    (hw : swappedStores [.Tuple [.Name x px, .Name y py] kt pt] (.Tuple [a, b] k2 pt2) X.env = pure (some [x, y])) :
    L2.PS X (.Assign [.Tuple [.Name x px, .Name y py] kt pt] (.Tuple [a, b] k2 pt2) pos) (tst G Y c (.asg (.tp (.cons (.nm i) (.cons (.nm j) .nil))) (.tup (.cons a' (.cons b' .nil))))) := by
  refine ⟨fun pins s σ H D I hh => ?_⟩
  obtain ⟨ρ, h, τ, R, S, p⟩ := hh
  simp only [evS, evE] at p
  refine (L2.ps_par hc hN hi hj hij hx hy ha hw).run pins s σ H D I ⟨ρ, h, τ, R, S, ?_⟩
  have q : PostS G Y ρ H D ((evEs c (.cons a' (.cons b' .nil)) τ h).s τ fun xs h1 => (if xs.length ≤ LIM then TX.R.ok (.tup xs) h1 else .no : TX.R W).s τ fun x h => (evT c (.tp (.cons (.nm i) (.cons (.nm j) .nil))) x τ h).s τ fun τ h => .fl (.nx τ) h) := by
    revert p
    cases evEs c (.cons a' (.cons b' .nil)) τ h <;> exact fun p => p
  refine (q.of R S).imp fun ws h1 ρ1 H1 e1 t1 R1 p xs rs => ?_
  by_cases hl : ws.length ≤ LIM
  · rw [if_pos hl] at p
    simp only [TX.R.s, evT, seq?, evTs] at p
    have S1 := S.to t1 R
    cases ws with
    | nil => exact p.elim
    | cons w1 ws =>
      cases ws with
      | nil => exact p.elim
      | cons w2 ws =>
        cases ws with
        | cons _ _ => exact p.elim
        | nil =>
          obtain ⟨x1, z, rfl, r1, rs⟩ := rs.inv
          obtain ⟨x2, z, rfl, r2, rs⟩ := rs.inv
          rw [rs.inv0]
          exact ⟨x1, x2, rfl, PostS.next (τ := (τ.set i (some w1)).set j (some w2)) p R1 ((S1.set i r1).set j r2)⟩
  · rw [if_neg hl] at p; exact p.elim
theorem ps_par3 {x y z : Str} {i j l : Nat} {a b d : Expr} {a' b' d' : E} {px py pz pt pos : Pos} {kt k2 pt2} (hc : X.calm = true) (hN : X.N.Nodup) (hi : X.N[i]? = some x) (hj : X.N[j]? = some y) (hl : X.N[l]? = some z) (hij : i ≠ j) (hil : i ≠ l) (hjl : j ≠ l)
    (hx : X.env.scope.names.lookup x = some .local) (hy : X.env.scope.names.lookup y = some .local) (hz : X.env.scope.names.lookup z = some .local) (ha : L2.PA X [a, b, d] (tes G Y c (.cons a' (.cons b' (.cons d' .nil)))))
    (hw : swappedStores [.Tuple [.Name x px, .Name y py, .Name z pz] kt pt] (.Tuple [a, b, d] k2 pt2) X.env = pure (some [x, y, z])) :
    L2.PS X (.Assign [.Tuple [.Name x px, .Name y py, .Name z pz] kt pt] (.Tuple [a, b, d] k2 pt2) pos) (tst G Y c (.asg (.tp (.cons (.nm i) (.cons (.nm j) (.cons (.nm l) .nil)))) (.tup (.cons a' (.cons b' (.cons d' .nil)))))) := by
  refine ⟨fun pins s σ H D I hh => ?_⟩
  obtain ⟨ρ, h, τ, R, S, p⟩ := hh
  simp only [evS, evE] at p
  refine (L2.ps_par3 hc hN hi hj hl hij hil hjl hx hy hz ha hw).run pins s σ H D I ⟨ρ, h, τ, R, S, ?_⟩
  have q : PostS G Y ρ H D ((evEs c (.cons a' (.cons b' (.cons d' .nil))) τ h).s τ fun xs h1 => (if xs.length ≤ LIM then TX.R.ok (.tup xs) h1 else .no : TX.R W).s τ fun x h => (evT c (.tp (.cons (.nm i) (.cons (.nm j) (.cons (.nm l) .nil)))) x τ h).s τ fun τ h => .fl (.nx τ) h) := by
    revert p
    cases evEs c (.cons a' (.cons b' (.cons d' .nil))) τ h <;> exact fun p => p
  refine (q.of R S).imp fun ws h1 ρ1 H1 e1 t1 R1 p xs rs => ?_
  by_cases hl : ws.length ≤ LIM
  · rw [if_pos hl] at p
    simp only [TX.R.s, evT, seq?, evTs] at p
    have S1 := S.to t1 R
    rcases ws with _ | ⟨w1, _ | ⟨w2, _ | ⟨w3, _ | ⟨_, _⟩⟩⟩⟩
    · exact p.elim
    · exact p.elim
    · exact p.elim
    · obtain ⟨x1, z, rfl, r1, rs⟩ := rs.inv
      obtain ⟨x2, z, rfl, r2, rs⟩ := rs.inv
      obtain ⟨x3, z, rfl, r3, rs⟩ := rs.inv
      rw [rs.inv0]
      exact ⟨x1, x2, x3, rfl, PostS.next (τ := ((τ.set i (some w1)).set j (some w2)).set l (some w3)) p R1 (((S1.set i r1).set j r2).set l r3)⟩
    · exact p.elim
  · rw [if_neg hl] at p; exact p.elim
/-- in place -/
theorem iop_ok (o : BO) : L2.InOp X (bo o) (rB G (iop o)) := by
  intro pins s σ H x y v u Q I rx ry q
  obtain ⟨ρ, h, wa, wb, R, ra, rb, V⟩ := q
  unfold iop at V
  split at V
  · simp only [RV] at ra rb; subst ra rb
    exact L2.in_add pins s σ H _ _ v u Q I rx ry ⟨_, _, rfl, rfl, V.here R (by simp [RV])⟩
  · simp only [RV] at ra rb; subst ra rb
    exact L2.in_sub pins s σ H _ _ v u Q I rx ry ⟨_, _, rfl, rfl, V.here R (by simp [RV])⟩
  · rename_i i j
    cases hb : okI i || okI j with
    | false => rw [hb] at V; exact V.elim
    | true =>
      rw [hb] at V
      simp only [RV] at ra rb; subst ra rb
      obtain ⟨t, rfl⟩ := (show ∃ t, v = Value.int i t from rx)
      obtain ⟨t', rfl⟩ := (show ∃ t, u = Value.int j t from ry)
      refine imul_int ⟨.int (i * j), H, I.tok _, ⟨_, rfl⟩, V.here R (by simp [RV])⟩ (L2.CMul.ok ?_)
      unfold okI at hb
      simp only [Bool.or_eq_true, Bool.and_eq_true, decide_eq_true_eq] at hb
      exact hb
  · split at V
    · rename_i hl
      simp only [RV] at ra rb; subst ra rb
      exact L2.in_addS pins s σ H _ _ v u Q I rx ry ⟨_, _, rfl, rfl, lim_le hl, V.here R (by simp only [RV]; rw [S'_app])⟩
    · exact V.elim
  · exact V.elim
theorem ps_aug {i : Nat} {x : Str} {e : Expr} {a : E} {o : BO} {pos pos' : Pos} (hN : X.N.Nodup) (hi : X.N[i]? = some x) (hx : L2.Loc X.env.scope x) (hf : X.fn x = true ∨ X.env.scope.names.lookup x = some .local) (ha : L2.PE X e (tev G Y c a)) : L2.PS X (.AugAssign (.Name x pos') (bo o) e pos) (tst G Y c (.aug i o a)) := by
  refine ⟨fun pins s σ H D I hh => ?_⟩
  obtain ⟨ρ, h, τ, R, S, p⟩ := hh
  simp only [evS] at p
  split at p
  · rename_i w e1
    obtain ⟨v, e2, r⟩ := S.2 i w e1
    refine (L2.ps_aug hN hi hx ha (iop_ok (G := G) o) hf).run pins s σ H D I ⟨v, e2, ρ, h, τ, R, S, (p.of R S).imp fun y h1 ρ1 H1 e3 t1 R1 p y' ry => ?_⟩
    have S1 := S.to t1 R
    refine ⟨ρ1, h1, w, y, R1, r.to t1 R, ry, ?_⟩
    have q := p.of R1 S1
    cases z : iop o w y h1 with
    | none => rw [z] at q; exact q.elim
    | some q2 => rw [z] at q; exact fun ρ2 H2 x2 t2 R2 r2 => (q ρ2 H2 t2 R2).next R2 ((S1.to t2 R1).set i r2)
  · exact p.elim
theorem getat_obj {w : W} {f : Nat} {q : W × Hp} (e : getat w f h = some q) : ∃ n c fs v, w = .obj n ∧ h.get n = some (.ins c fs) ∧ getF f fs = some v ∧ q = (v, h) := by
  unfold getat at e
  split at e
  · split at e
    · rename_i n _ c fs g
      revert e
      cases l : getF f fs with
      | none => exact fun e => by cases e
      | some v => exact fun e => by cases e; exact ⟨_, _, _, _, rfl, g, l, rfl⟩
    · cases e
  · cases e
theorem ps_agf (hK : X.K = G.K) {f : Nat} (hf : f < G.nn) (hna : ∀ k C, G.ca k = some C → c.pg.na k f = true → L2.NoAttr G.K C (G.an f)) {o e : Expr} {a b : E} {op : BO} {pos tpos : Pos} (ho : L2.PE X o (tev G Y c a)) (he : L2.PE X e (tev G Y c b)) : L2.PS X (.AugAssign (.Attribute o (G.an f) tpos) (bo op) e pos) (tst G Y c (.agf a f op b)) := by
  refine ⟨fun pins s σ H D I hh => ?_⟩
  obtain ⟨ρ, h, τ, R, S, p⟩ := hh
  simp only [evS] at p
  refine (L2.ps_fldaug ho he (iop_ok (G := G) op)).run pins s σ H D I ⟨ρ, h, τ, R, S, (p.of R S).imp fun w h1 ρ1 H1 e1 t1 R1 p x r => ?_⟩
  have S1 := S.to t1 R
  cases g1 : getat w f h1 with
  | none => rw [g1] at p; exact p.elim
  | some q =>
    obtain ⟨n, k, fs, v, rfl, g2, g3, rfl⟩ := getat_obj g1
    rw [g1] at p
    replace p : PostS G Y ρ1 H1 D ((evE c b τ h1).s τ fun y h => (lf (iop op v y h)).s τ fun z h => if clsN (.obj n) h1 = clsN (.obj n) h then (match setat c.pg.na (.obj n) f z h with | some h => .fl (.nx τ) h | none => .no) else .no) := p
    obtain ⟨pp, rfl, ep⟩ := rv_obj r
    obtain ⟨C, dx, ys, ec, e2, q, nas, cl⟩ := R1.at ep g2
    have fr := getF_rel hf q
    rw [g3] at fr
    obtain ⟨v', e3, rv⟩ := fr
    obtain ⟨pr, hp, z⟩ := getF_mem g3
    refine ⟨pp, C, dx, ys, v', rfl, e2, hK ▸ cl, hK ▸ (z ▸ nas pr hp), e3, ρ1, h1, τ, R1, S1, (p.of R1 S1).imp fun y h2 ρ2 H2 e4 t2 R2 p y' ry => ?_⟩
    have S2 := S1.to t2 R1
    refine ⟨ρ2, h2, v, y, R2, rv.to t2 R1, ry, ?_⟩
    have q2 := p.of R2 S2
    cases g4 : iop op v y h2 with
    | none => rw [g4] at q2; exact q2.elim
    | some q3 =>
      obtain ⟨z', h3⟩ := q3
      rw [g4] at q2
      refine fun ρ3 H3 zv t3 R3 r3 => ?_
      replace q2 : PostS G Y ρ3 H3 D (if clsN (.obj n) h1 = clsN (.obj n) h3 then (match setat c.pg.na (.obj n) f z' h3 with | some h => .fl (.nx τ) h | none => .no) else .no) := q2 ρ3 H3 t3 R3
      have S3 := S2.to t3 R2
      by_cases hcl : clsN (.obj n) h1 = clsN (.obj n) h3
      · rw [if_pos hcl] at q2
        have V : ValH G (fun H4 => D.nx σ H4) ρ3 H3 (setat c.pg.na (.obj n) f z' h3) := by
          cases e5 : setat c.pg.na (.obj n) f z' h3 with
          | none => rw [e5] at q2; exact q2.elim
          | some h4 => rw [e5] at q2; exact fun ρ4 H4 t4 R4 => q2 ρ4 H4 σ t4 R4 (S3.to t4 R3)
        have rp : RV G ρ3 H3 (.obj n) (.ref pp) := by simp only [RV]; exact ⟨pp, rfl, pre_get (t2.pre.trans t3.pre) ep⟩
        obtain ⟨b', C', dx', fs', eb, e6, cl', hn, hl, q5⟩ := fset_rel R3 hf hna rp r3 V
        cases eb
        -- the class is the same
        have ek : ∃ fs'', h3.get n = some (.ins k fs'') := by
          simp only [clsN, g2] at hcl
          split at hcl
          · rename_i k' fs'' g5
            have : k = k' := by omega
            subst this
            exact ⟨_, g5⟩
          · omega
        obtain ⟨fs'', g5⟩ := ek
        obtain ⟨C'', dx'', ys'', ec'', e7, _⟩ := R3.at (pre_get (t2.pre.trans t3.pre) ep) g5
        rw [ec] at ec''; cases ec''
        rw [e6] at e7; cases e7
        exact ⟨dx', fs', e6, hl, q5⟩
      · rw [if_neg hcl] at q2; exact q2.elim
/-! ### loops -/
theorem ps_whl {d : Expr} {body : List Stmt} {d' : E} {b : Ss} {pos : Pos} (hp : PassesOwn (model X.prog X.w) X.A X.env X.xe) (hd : L2.PT X d (tet G Y c d')) (hb : L2.PSs X body (tsts G Y c b)) : L2.PS X (.While d body [] pos) (tst G Y c (.whl d' b)) := by
  refine ⟨fun pins s σ H D I hh => ?_⟩
  obtain ⟨ρ, h, τ, R, S, p⟩ := hh
  simp only [evS] at p
  let Wi : Nat → L2.St → LH → Prop := fun m σ H => ∃ ρ h τ, Rep G ρ h H ∧ RSl G ρ H τ σ ∧ PostS G Y ρ H D (whF (evB c d') (evSs c b) m τ h)
  refine (L2.ps_while hp hd hb).run pins s σ H D I ⟨Wi, ⟨c.F, ρ, h, τ, R, S, p⟩, ?_⟩
  rintro m σ1 H1 ⟨ρ1, h1, τ1, R1, S1, p1⟩
  cases m with
  | zero => exact p1.elim
  | succ m =>
    rw [whF] at p1
    refine ⟨ρ1, h1, τ1, R1, S1, (p1.of R1 S1).imp fun t h2 ρ2 H2 e2 t2 R2 p2 => ?_⟩
    have S2 := S1.to t2 R1
    cases t with
    | true => exact ⟨Wi m, fun σ' H' w => ⟨m, Nat.lt_succ_self _, w⟩, ρ2, h2, τ1, R2, S2, PostS.turn (Wi m) p2 fun τ3 h3 ρ3 H3 σ3 t3 R3 S3 p3 => ⟨ρ3, h3, τ3, R3, S3, p3⟩⟩
    | false => exact PostS.next (τ := τ1) p2 R2 S2
def foR (q : Sq) (body : W → Sl → Hp → RS) (m i : Nat) (τ : Sl) (h : Hp) : RS := match q with
  | .snap xs => if m = xs.length - i then forS body (xs.drop i) τ h else .no
  | .live n => forL false n body m i τ h
  | .enml n => forL true n body m i τ h
theorem forQ_R (q : Sq) (body : W → Sl → Hp → RS) (τ : Sl) (h : Hp) : forQ q body τ h = foR q body (qm q h) 0 τ h := by
  cases q with
  | snap xs => simp [forQ, foR, qm]
  | live n => rfl
  | enml n => rfl
theorem forL_step {en : Bool} {n : Nat} {body : W → Sl → Hp → RS} {m i : Nat} {τ : Sl} {h : Hp} (hn : forL en n body m i τ h ≠ .no) :
    ∃ xs, h.lst? n = some xs ∧ ((∃ w m', xs[i]? = some w ∧ m = m' + 1 ∧ forL en n body m i τ h = (body (item en i w) τ h).turn (forL en n body m' (i + 1))) ∨ (xs[i]? = none ∧ forL en n body m i τ h = .fl (.nx τ) h)) := by
  cases m with
  | zero => exact absurd rfl hn
  | succ m =>
    rw [forL] at hn ⊢
    cases g : h.lst? n with
    | none => rw [g] at hn; exact absurd rfl hn
    | some xs =>
      refine ⟨xs, rfl, ?_⟩
      cases g2 : xs[i]? with
      | none => exact .inr ⟨rfl, by simp only [g2]⟩
      | some w =>
        refine .inl ⟨w, m, rfl, rfl, ?_⟩
        simp only [g2]
theorem foR_step {q : Sq} {body : W → Sl → Hp → RS} {m i : Nat} {τ : Sl} {h : Hp} (hn : foR q body m i τ h ≠ .no) :
    (∃ w m', nextQ q i h = some (some w) ∧ m = m' + 1 ∧ foR q body m i τ h = (body w τ h).turn (foR q body m' (i + 1))) ∨ (nextQ q i h = some none ∧ foR q body m i τ h = .fl (.nx τ) h) := by
  cases q with
  | snap xs =>
    simp only [foR, nextQ] at hn ⊢
    by_cases hm : m = xs.length - i
    · rw [if_pos hm] at hn ⊢
      by_cases hi : i < xs.length
      · left
        refine ⟨xs[i], m - 1, by simp [hi], by omega, ?_⟩
        rw [List.drop_eq_getElem_cons hi, forS]
        congr 1
        funext τ h
        simp only [foR]
        rw [if_pos (by omega)]
      · right
        rw [List.drop_eq_nil_of_le (by omega)]
        exact ⟨by rw [List.getElem?_eq_none (by omega)], rfl⟩
    · rw [if_neg hm] at hn; exact absurd rfl hn
  | live n =>
    obtain ⟨xs, g, z⟩ := forL_step (en := false) hn
    simp only [nextQ, g, Option.map_some]
    rcases z with ⟨w, m', e, rfl, z⟩ | ⟨e, z⟩
    · exact .inl ⟨w, m', by rw [e], rfl, z⟩
    · exact .inr ⟨by rw [e], z⟩
  | enml n =>
    obtain ⟨xs, g, z⟩ := forL_step (en := true) hn
    simp only [nextQ, g, Option.map_some]
    rcases z with ⟨w, m', e, rfl, z⟩ | ⟨e, z⟩
    · exact .inl ⟨item true i w, m', by rw [e]; rfl, rfl, z⟩
    · exact .inr ⟨by rw [e]; rfl, z⟩
theorem PostS.ne {x : RS} (p : PostS G Y ρ H D x) : x ≠ .no := fun e => by rw [e] at p; exact p.elim
theorem turn_s {α : Type} {x : TX.R α} {τ : Sl} {f : α → Hp → RS} {g : Sl → Hp → RS} : (x.s τ f).turn g = x.s τ fun a h => (f a h).turn g := by cases x <;> rfl
theorem ps_for {tg iter : Expr} {body : List Stmt} {t : T} {it : It} {b : Ss} {V : Nat → Bool} {pos : Pos} (hp : PassesOwn (model X.prog X.w) X.A X.env X.xe) (hc : X.calm = true) (hi : L2.PI X tg iter (tin G Y c it)) (hg : L2.PG X tg (ttg G Y c V t)) (hb : L2.PSs X body (tsts G Y c b)) (hs : ∀ x, foldedSetIterable iter X.env x = pure x) : L2.PS X (.For tg iter body [] pos) (tst G Y c (.for t it b)) := by
  refine ⟨fun pins s σ H D I hh => ?_⟩
  obtain ⟨ρ, h, τ, R, S, p⟩ := hh
  simp only [evS] at p
  refine (L2.ps_for hp hc hi hg hb hs).run pins s σ H D I ⟨ρ, h, τ, R, S, (p.of R S).imp fun q h1 ρ1 H1 e1 t1 R1 p J hJ => ?_⟩
  have S1 := S.to t1 R
  let bd : W → Sl → Hp → RS := fun x τ h => (evT c t x τ h).s τ fun τ h => evSs c b τ h
  let Wi : Nat → Nat → L2.St → LH → Prop := fun i m σ H => ∃ ρ h τ, To ρ1 H1 ρ H ∧ Rep G ρ h H ∧ RSl G ρ H τ σ ∧ PostS G Y ρ H D (foR q bd m i τ h)
  rw [forQ_R] at p
  refine ⟨Wi, ⟨qm q h1, ρ1, h1, τ, .refl, R1, S1, p⟩, ?_⟩
  rintro i m σ2 H2 ⟨ρ2, h2, τ2, t2, R2, S2, p2⟩
  have hj := hJ ρ2 h2 H2 i t2 R2
  rcases foR_step p2.ne with ⟨w, m', en, rfl, er⟩ | ⟨en, er⟩
  · rw [en] at hj
    rw [er, turn_s] at p2
    refine .inr ⟨hj.1, Wi (i + 1) m', fun σ' H' w' => ⟨m', Nat.lt_succ_self _, w'⟩, fun x H3 y => ?_⟩
    obtain ⟨t3, R3, r3⟩ := hj.2 x H3 y
    have S3 := S2.to t3 R2
    refine ⟨ρ2, h2, τ2, w, R3, S3, r3, ((p2.shift t3).of R3 S3).imp fun τ4 h4 ρ4 H4 e4 t4 R4 p4 σ4 S4 _ => ⟨ρ4, h4, τ4, R4, S4, PostS.turn _ p4 fun τ5 h5 ρ5 H5 σ5 t5 R5 S5 p5 => ⟨ρ5, h5, τ5, ?_, R5, S5, p5⟩⟩⟩
    exact t2.trans (t3.trans (t4.trans t5))
  · rw [en] at hj
    rw [er] at p2
    exact .inl ⟨hj, p2.next R2 S2⟩
/-- name = [..] on one line -/
theorem ps_setLc {i : Nat} {y : Str} {py : Pos} {elt tg iter : Expr} {ifs : List Expr} {scope : Scope} {own : List (Str × Nat)} {pos spos : Pos} {e : E} {t : T} {it : It} {d : Cs} {V : Nat → Bool} (hV : ∀ j, V j = true → j ∈ own.map (·.2)) (hc : X.calm = true) (hN : X.N.Nodup) (hy : X.N[i]? = some y) (hyl : X.env.scope.names.lookup y = some .local)
    (hsw : swapsWith (.ListComp elt [⟨tg, iter, ifs, 0⟩] scope pos) (some (.Name y py)) spos.line X.env = pure true) (hi : L2.PI X tg iter (tin G Y c it)) (ok : L2.BlkOk X.N X.env.scope scope own)
    (hg : ∀ (s : Shared) (H : LH) (C : Addr) (cl : List (Str × Addr)) (fp : List Addr), L2.PG (X.blk s H scope (compEnvC scope cl C X.env) fp) tg (ttg G Y0 c V t)) (ht : ∀ (s : Shared) (H : LH) (C : Addr) (cl : List (Str × Addr)) (fp : List Addr), L2.PTs (X.blk s H scope (compEnvC scope cl C X.env) fp) ifs (tec G Y0 c d))
    (he : ∀ (s : Shared) (H : LH) (C : Addr) (cl : List (Str × Addr)) (fp : List Addr), L2.PE (X.blk s H scope (compEnvC scope cl C X.env) fp) elt (tev G Y0 c e)) (hs : ∀ x, foldedSetIterable iter X.env x = pure x) :
    L2.PS X (.Assign [.Name y py] (.ListComp elt [⟨tg, iter, ifs, 0⟩] scope pos) spos) (tst G Y c (.asg (.nm i) (.lc e t it d (own.map (·.2))))) := by
  refine ⟨fun pins s σ H D I hh => ?_⟩
  obtain ⟨ρ, h, τ, R, S, p⟩ := hh
  refine (L2.ps_setLc hc hN hy hyl hsw hi ok hg ht he hs).run pins s σ H D I (tlc_ok hV R S ?_)
  simp only [evS] at p
  exact (p.of R S).imp fun w h1 ρ1 H1 e1 t1 R1 p x r => PostS.next (τ := τ.set i (some w)) (by simp only [evT] at p; exact p) R1 ((S.to t1 R).set i r)
theorem pe_lc {elt tg iter : Expr} {ifs : List Expr} {scope : Scope} {own : List (Str × Nat)} {pos : Pos} {e : E} {t : T} {it : It} {d : Cs} {V : Nat → Bool} (hV : ∀ j, V j = true → j ∈ own.map (·.2)) (hc : X.calm = true) (hN : X.N.Nodup) (hi : L2.PI X tg iter (tin G Y c it)) (ok : L2.BlkOk X.N X.env.scope scope own)
    (hg : ∀ (s : Shared) (H : LH) (C : Addr) (cl : List (Str × Addr)) (fp : List Addr), L2.PG (X.blk s H scope (compEnvC scope cl C X.env) fp) tg (ttg G Y0 c V t)) (ht : ∀ (s : Shared) (H : LH) (C : Addr) (cl : List (Str × Addr)) (fp : List Addr), L2.PTs (X.blk s H scope (compEnvC scope cl C X.env) fp) ifs (tec G Y0 c d))
    (he : ∀ (s : Shared) (H : LH) (C : Addr) (cl : List (Str × Addr)) (fp : List Addr), L2.PE (X.blk s H scope (compEnvC scope cl C X.env) fp) elt (tev G Y0 c e)) (hs : ∀ x, foldedSetIterable iter X.env x = pure x) :
    L2.PE X (.ListComp elt [⟨tg, iter, ifs, 0⟩] scope pos) (tev G Y c (.lc e t it d (own.map (·.2)))) := by
  refine ⟨fun pins s σ H Q I hh => ?_⟩
  obtain ⟨ρ, h, τ, R, S, p⟩ := hh
  exact (L2.pe_lc hc hN hi ok hg ht he hs).run pins s σ H Q I (tlc_ok hV R S p)
end TX
end
section
set_option maxRecDepth 100000
set_option linter.unusedVariables false
/-! EvMore: sorted, dict displays, dict comprehensions, what a name means. -/
namespace TX
open PySem PySem.Spec PyProof.Rows
variable {G : Gx} {ρ ρ' ρ'' : List Addr} {H H' H'' : LH} {h h' : Hp} {a : Addr}
variable {Y : L2.WX} {σ : L2.St} {c : Cf} {Q : L2.VK} {τ : Sl} {X : L2.Cx}
/-! ### sorted -/
theorem insB_perm {α : Type} (le : α → α → Bool) (x : α) : ∀ r : List α, (insB le x r).Perm (x :: r)
  | [] => .refl _
  | y :: r => by
    unfold insB
    cases le x y with
    | true => exact .refl _
    | false => exact ((insB_perm le x r).cons y).trans (.swap x y r)
theorem sortB_perm {α : Type} (le : α → α → Bool) : ∀ r : List α, (sortB le r).Perm r
  | [] => .refl _
  | x :: r => (insB_perm le x _).trans ((sortB_perm le r).cons x)
section
variable {α : Type} {le : α → α → Bool} (tot : ∀ a b, le a b = true ∨ le b a = true) (tr : ∀ a b c, le a b = true → le b c = true → le a c = true)
include tot tr
theorem insB_sorted (x : α) : ∀ r : List α, r.Pairwise (fun a b => le a b = true) → (insB le x r).Pairwise (fun a b => le a b = true)
  | [], _ => by simp [insB]
  | y :: r, p => by
    unfold insB
    have q := List.pairwise_cons.mp p
    cases e : le x y with
    | true =>
      refine List.pairwise_cons.mpr ⟨fun z hz => ?_, p⟩
      rcases List.mem_cons.mp hz with rfl | hz
      · exact e
      · exact tr _ _ _ e (q.1 z hz)
    | false =>
      refine List.pairwise_cons.mpr ⟨fun z hz => ?_, insB_sorted x r q.2⟩
      rcases List.mem_cons.mp ((insB_perm le x r).mem_iff.mp hz) with rfl | hz
      · rcases tot z y with w | w
        · rw [w] at e; cases e
        · exact w
      · exact q.1 z hz
theorem sortB_sorted : ∀ r : List α, (sortB le r).Pairwise (fun a b => le a b = true)
  | [] => .nil
  | x :: r => insB_sorted tot tr x _ (sortB_sorted r)
end
theorem leN_lt : ∀ x y : List Nat, leN x y = !ltCps y x
  | [], [] => rfl
  | [], _ :: _ => rfl
  | _ :: _, [] => rfl
  | x :: xs, y :: ys => by
    rw [leN, ltCps]
    by_cases h1 : x < y
    · have e1 : Nat.blt x y = true := by simp [Nat.blt]; omega
      rw [e1]
      have : decide (y < x) = false := by simp; omega
      have e2 : (y == x) = false := by simp; omega
      simp [this, e2]
    · have e1 : Nat.blt x y = false := by
        cases q : Nat.blt x y with
        | false => rfl
        | true => exact absurd (by simp [Nat.blt] at q; omega) h1
      rw [e1]
      by_cases h2 : x = y
      · subst h2
        have : Nat.beq x x = true := Nat.beq_refl x
        rw [this]
        simp [leN_lt xs ys]
      · have e2 : Nat.beq x y = false := by
          cases q : Nat.beq x y with
          | false => rfl
          | true => exact absurd (Nat.eq_of_beq_eq_true q) h2
        rw [e2]
        have : decide (y < x) = true := by simp; omega
        simp [this]
theorem leN_iff (x y : List Nat) : leN x y = true ↔ x ≤ y := by
  rw [leN_lt, PyProof.Rows.ltCps_eq]
  simp [List.not_lt]
theorem leN_tot (x y : List Nat) : leN x y = true ∨ leN y x = true := by rw [leN_iff, leN_iff]; exact List.le_total x y
theorem leN_tr (x y z : List Nat) (a : leN x y = true) (b : leN y z = true) : leN x z = true := by rw [leN_iff] at *; exact List.le_trans a b
theorem rising_pw : ∀ (r : List Str) (p : Str), risingS p r = true → (p :: r).Pairwise (fun a b => leN a.cps.toList b.cps.toList = true)
  | [], p, _ => by simp
  | x :: r, p, h => by
    rw [risingS, Bool.and_eq_true] at h
    have ih := rising_pw r x h.2
    have e : leN p.cps.toList x.cps.toList = true := by rw [leN_lt]; exact h.1
    refine List.pairwise_cons.mpr ⟨fun z hz => ?_, ih⟩
    rcases List.mem_cons.mp hz with rfl | hz
    · exact e
    · exact leN_tr _ _ _ e ((List.pairwise_cons.mp ih).1 z hz)
theorem sortedS_pw {ys : List Str} (h : sortedS ys = true) : ys.Pairwise (fun a b => leN a.cps.toList b.cps.toList = true) := by
  cases ys with
  | nil => exact .nil
  | cons x r => exact rising_pw r x h
theorem S'_list (s : List Nat) : (S' s).cps.toList = s := by simp
theorem sort_strs {ys : List Str} {ss : List (List Nat)} (p : ys.Perm (ss.map S')) (h : sortedS ys = true) : ys = (sortB leN ss).map S' := by
  refine List.Perm.eq_of_pairwise (le := fun a b : Str => leN a.cps.toList b.cps.toList = true) (fun a b _ _ h1 h2 => ?_) (sortedS_pw h) ?_ (p.trans ((sortB_perm leN ss).map S').symm)
  · rw [leN_iff] at h1 h2
    have := List.le_antisymm h1 h2
    cases a; cases b
    simp only [Str.mk.injEq]
    exact Array.toList_inj.mp this
  · rw [List.pairwise_map]
    exact (sortB_sorted leN_tot leN_tr ss).imp fun q => by simpa only [S'_list] using q
theorem sort_ints {ns is : List Int} (p : ns.Perm is) (h : ns.Pairwise (· ≤ ·)) : ns = sortB (fun i j => decide (i ≤ j)) is := by
  refine List.Perm.eq_of_pairwise (le := fun a b : Int => a ≤ b) (fun a b _ _ h1 h2 => by omega) h ?_ (p.trans (sortB_perm _ is).symm)
  have := sortB_sorted (le := fun i j : Int => decide (i ≤ j)) (fun a b => by simp; omega) (fun a b c => by simp; omega) is
  exact this.imp fun q => by simpa using q
theorem rps_keys : ∀ {kvs : List (W × W)} {ks : List (L2.Key × LV)} {ss : List (List Nat)}, RPs G RK ρ H kvs ks → strs? (kvs.map (·.1)) = some ss → ks.map (·.1) = (ss.map S').map Sum.inr
  | [], ks, ss, r, e => by
    simp only [RPs] at r; subst r
    simp only [List.map_nil, strs?, Option.some.injEq] at e; subst e; rfl
  | (k, w) :: kvs, ks, ss, r, e => by
    simp only [RPs] at r
    obtain ⟨k', x, r', rfl, a, b, c⟩ := r
    rw [List.map_cons] at e
    unfold strs? at e
    split at e
    · cases ‹_ = []›
    · rename_i q
      injection q with q1 q2
      subst q1 q2
      obtain ⟨qs, e1, rfl⟩ := Option.map_eq_some_iff.mp e
      simp only [RK] at a; subst a
      rw [List.map_cons, List.map_cons, List.map_cons, rps_keys c e1]
    · cases e
theorem sorted_ok (hK : X.K = G.K) (hc : X.calm = true) : L2.CallR X (.builtin "sorted") (rF G (bfn .sorted)) := by
  intro pins s σ H xs us Q I r q
  obtain ⟨ρ, h, ws, R, rs, V⟩ := q
  have sh : ∃ n, ws = [.obj n] := by
    rcases ws with _ | ⟨w, _ | ⟨w2, r⟩⟩
    · exact False.elim V
    · cases w <;> first | exact False.elim V | exact ⟨_, rfl⟩
    · cases w <;> exact False.elim V
  obtain ⟨n, rfl⟩ := sh
  simp only [bfn] at V
  obtain ⟨x, z, rfl, r1, rs⟩ := rs.inv
  have := rs.inv0
  subst this
  obtain ⟨p, rfl, ep⟩ := rv_obj r1
  split at V
  · rename_i ws g
    obtain ⟨ys, e1, q⟩ := R.lst ep g
    have sq : L2.SqL X.K H p ys := .inl (.inl e1)
    split at V
    · rename_i ss hs
      split at V
      · rename_i hl
        refine L2.cr_sortedS pins s σ H _ us Q I r ⟨p, ss.map S', rfl, by rw [q.strs hs] at sq; exact sq, by simpa using hl, fun zs b hp hz hb => ?_⟩
        rw [sort_strs hp hz]
        exact V.newL R (RVs.ofStrs _) hb
      · exact V.elim
    · split at V
      · rename_i is hs
        split at V
        · rename_i hl
          refine L2.cr_sorted pins s σ H _ us Q I r ⟨p, is, rfl, by rw [q.ints hs] at sq; exact sq, hl, fun zs b hp hz hb => ?_⟩
          rw [sort_ints hp hz]
          exact V.newL R (RVs.ofInts _) hb
        · exact V.elim
      · exact V.elim
  · rename_i kvs g
    obtain ⟨ks, e1, q⟩ := R.at ep g
    split at V
    · rename_i ss hs
      split at V
      · rename_i hl
        refine L2.call_sortedD hc pins s σ H _ us Q I r ⟨p, ks, ss.map S', rfl, .inl e1, rps_keys q hs, by simpa using hl, fun zs b hp hz hb => ?_⟩
        rw [sort_strs hp hz]
        exact V.newL R (RVs.ofStrs _) hb
      · exact V.elim
    · exact V.elim
  · exact V.elim
theorem pe_sorted (hK : X.K = G.K) (hc : X.calm = true) {x : Str} {p pos : Pos} {e : Expr} {es : List Expr} {as : Es} (hg : L2.Gl X x) (hm : X.mg x = none) (hv : bootBuiltins x = some (.builtin "sorted")) (ha : L2.PA X (e :: es) (tes G Y c as))
    (hn : x ≠ "__name__") (hd : (x == ("__debug__" : Str)) = false) (hs : (e :: es).all (fun e => match e with | .Starred .. => false | _ => true) = true) : L2.PE X (.Call (.Name x p) (e :: es) [] pos) (tev G Y c (.bfn .sorted as)) := by
  have main : L2.PE X (.Call (.Name x p) (e :: es) [] pos) (L2.tCB (rF G (bfn .sorted)) (tes G Y c as)) := by
    rw [List.all_cons, Bool.and_eq_true] at hs
    exact L2.pe_callB (sorted_ok hK hc) hg hm hv ha hn hd (starEach_cons hs.1) (any_star hs.2)
  refine ⟨fun pins s σ H Q I hh => ?_⟩
  obtain ⟨ρ, h, τ, R, S, p⟩ := hh
  simp only [evE] at p
  refine main.run pins s σ H Q I ?_
  exact goS R S p fun ws h1 ρ1 H1 xs e1 R1 S1 r1 t1 p => ⟨ρ1, h1, ws, R1, r1, p.val⟩
/-! ### a dict that the reckoner does not number, as it grows -/
theorem Rep.overD {o o' : L2.HO} (hd : isSt (some o) = false) (R : Rep G ρ h H) (e : H a = some o) (na : a ∉ ρ) (ho : isOt o = false := by rfl) : Rep G ρ h (L2.upd H a o') ∧ Tk H (L2.upd H a o') := by
  have tk : Tk H (L2.upd H a o') := tk_upd (by rw [e]; exact hd)
  refine ⟨⟨R.len, R.nd, fun j b e1 => ?_, tabs_at R.tabs fun u z => by rw [e] at z; cases z; exact ho⟩, tk⟩
  obtain ⟨u, g, ro⟩ := R.ob j b e1
  refine ⟨u, g, ro.mono (List.prefix_refl _) tk fun q hq => ?_⟩
  have hb : b ≠ a := fun z => by subst z; exact na (List.mem_of_getElem? e1)
  rw [L2.upd_ne hb]; exact hq
theorem put_len (p : W → W → Bool) (k v : W) (d : List (W × W)) : (put p k v d).length ≤ d.length + 1 := by
  unfold put
  cases d.any fun e => p e.1 k <;> simp
theorem RPs.to {κ : Type} {rk : W → κ → Prop} {kvs : List (W × W)} {ks : List (κ × LV)} (r : RPs G rk ρ H kvs ks) (t : To ρ H ρ' H') (R : Rep G ρ h H) : RPs G rk ρ' H' kvs ks := RPs.mono t.pre (t.tk R) _ _ r
def dcB (c : Cf) (k v : E) (t : T) (own : List Nat) (τ : Sl) : W → Hp → R (Option W) := fun x h => (evT c t x (wipe τ own) h).b fun τ' h => (evE c k τ' h).b fun k h => (evE c v τ' h).b fun v h => match keyW k with
      | true => .ok (some (.tup [k, v])) h
      | false => .no
theorem tdc_ok {k v : E} {t : T} {it : It} {own : List Nat} {V : Nat → Bool} (hV : ∀ j, V j = true → j ∈ own)
    {σ : L2.St} {H : LH} (R : Rep G ρ h H) (S : RSl G ρ H τ σ) (p : Post G Y σ ρ H (Wants Q G) (evE c (.dc k v t it own) τ h)) :
    L2.tDc (tin G Y c it) (ttg G Y0 c V t) L2.tYes (tev G Y0 c k) (tev G Y0 c v) own σ H Q := by
  have ev : evE c (.dc k v t it own) τ h = (evI c it τ h).b fun q h => (lcQ q (dcB c k v t own τ) h).nox.b fun ys h => .ok (.obj h.n) (h.new (.dK (ys.foldl putW []))) := by simp only [evE]; rfl
  rw [ev] at p
  refine ⟨ρ, h, τ, R, S, p.bind.imp fun q h1 ρ1 H1 e1 t1 R1 p J hJ D hD => ?_⟩
  have S1 := S.to t1 R
  have hlen := evI_len e1
  have hDρ : D ∉ ρ1 := R1.notin hD
  let K : List W → Hp → Prop := fun ys h2 => Post G Y σ ρ1 H1 (Wants Q G) (.ok (.obj h2.n) (h2.new (.dK (ys.foldl putW []))))
  have p0 : LP K (lcR q (dcB c k v t own τ) (qm q h1) 0 [] h1) := by
    rw [← lcQ_R]
    revert p
    cases lcQ q (dcB c k v t own τ) h1 with
    | ok ys h2 => exact fun p => p
    | ex e h2 => exact fun p => p.elim
    | no => exact fun p => p.elim
  let Wi : Nat → Nat → LH → Prop := fun i m H => ∃ ρ h acc xs, To ρ1 H1 ρ H ∧ Rep G ρ h H ∧ H D = some (.dK acc) ∧ D ∉ ρ ∧ RPs G RK ρ H (xs.reverse.foldl putW []) acc ∧ acc.length + m ≤ LIM + 1 ∧ RSl G ρ H τ σ ∧ LP K (lcR q (dcB c k v t own τ) m i xs h)
  have dn : ∀ {ρ ρ' : List Addr} {H H' : LH} {acc}, To ρ H ρ' H' → H D = some (.dK acc) → D ∉ ρ → D ∉ ρ' := fun t e n z => by
    have := t.nw D z n _ e
    cases this
  obtain ⟨R1', t1'⟩ := R1.aside (o := .dK []) hD
  refine ⟨Wi, ⟨qm q h1, ρ1, h1, [], [], t1', R1', L2.upd_same, hDρ, by simp [RPs], by simpa using hlen, S1.to t1' R1, p0⟩, ?_⟩
  rintro i m H2 ⟨ρ2, h2, acc, xs, t2, R2, d2, n2, ra, hl, S2, p2⟩
  have hj := hJ ρ2 h2 H2 i t2 R2
  rcases lcR_step p2.ne with ⟨w, m', en, rfl, er⟩ | ⟨en, er⟩
  · rw [en] at hj
    rw [er] at p2
    refine .inr ⟨hj.1, Wi (i + 1) m', fun H' w' => ⟨m', Nat.lt_succ_self _, w'⟩, fun x H3 y => ?_⟩
    obtain ⟨t3, R3, r3⟩ := hj.2 x H3 y
    have S3 := (S2.to t3 R2).wipe own
    have p2 := lp_b p2
    refine ⟨ρ2, h2, TX.wipe τ own, w, R3, S3, r3, (post0 p2).imp fun τ4 h4 ρ4 H4 _ t4 R4 p4 σ4 S4 f4 => ?_⟩
    refine ⟨wipe_fr hV f4, ?_⟩
    show tev G Y0 c k σ4 H4 _
    have p4 := lp_b p4
    refine ⟨ρ4, h4, τ4, R4, S4, (post0 p4).imp fun kw h5 ρ5 H5 _ t5 R5 p5 kx rk => ?_⟩
    have p5 := lp_b p5
    refine ⟨ρ5, h5, τ4, R5, S4.to t5 R4, (post0 p5).imp fun v h6 ρ6 H6 _ t6 R6 p6 y r6 => ?_⟩
    have t36 := t3.trans (t4.trans (t5.trans t6))
    have d6 := t36.fr D _ d2 n2 rfl
    have n6 := dn t36 d2 n2
    cases hk : keyW kw with
    | false => rw [hk] at p6; exact p6.elim
    | true =>
      rw [hk] at p6
      obtain ⟨k', rk', rfl⟩ := rk_kV hk rk
      have ra6 := put_rel hpK rk' r6 (ra.to t36 R2)
      obtain ⟨R7, tk⟩ := R6.overD (o' := .dK (L2.putK acc k' y)) rfl d6 n6
      have t := t2.trans t36
      have hlp := rps_len ra6
      have hlq := rps_len (ra.to t36 R2)
      have hput := put_len keyEq kw v (xs.reverse.foldl putW [])
      refine ⟨acc, k', rfl, d6, by have := lim_lt; omega, ρ6, h6, L2.putK acc k' y, .tup [kw, v] :: xs, ⟨t.pre, fun b u e n z1 => ?_, t.nw⟩, R7, L2.upd_same, n6, ?_, by omega, (S2.to t36 R2).mono (List.prefix_refl _) tk, p6⟩
      · have hb : b ≠ D := fun z => by subst z; rw [hD] at e; cases e
        rw [L2.upd_ne hb]; exact t.fr b u e n z1
      · rw [List.reverse_cons, List.foldl_append]
        exact RPs.mono (List.prefix_refl _) tk _ _ ra6
  · rw [en] at hj
    rw [er] at p2
    refine .inl ⟨hj, ?_⟩
    obtain ⟨R3, e3⟩ := R2.adopt (ob := .dK (xs.reverse.foldl putW [])) d2 n2 ⟨acc, d2, RPs.mono (List.prefix_append _ _) .refl _ _ ra⟩
    refine p2 (ρ2 ++ [D]) H2 ⟨t2.pre.trans (List.prefix_append _ _), t2.fr, fun b hb n => ?_⟩ R3 _ ?_
    · rcases List.mem_append.mp hb with hb | hb
      · exact t2.nw b hb n
      · simp at hb; subst hb; exact fun o e => by rw [hD] at e; cases e
    · simp only [RV]; exact ⟨D, rfl, e3⟩
theorem pts_yes : L2.PTs X [] L2.tYes := L2.pts_nil
theorem pe_dc {kx vx tg iter : Expr} {scope : Scope} {own : List (Str × Nat)} {pos : Pos} {k v : E} {t : T} {it : It} {V : Nat → Bool} (hV : ∀ j, V j = true → j ∈ own.map (·.2)) (hc : X.calm = true) (hN : X.N.Nodup) (hi : L2.PI X tg iter (tin G Y c it)) (ok : L2.BlkOk X.N X.env.scope scope own)
    (hg : ∀ (s : Shared) (H : LH) (C : Addr) (cl : List (Str × Addr)) (fp : List Addr), L2.PG (X.blk s H scope (compEnvC scope cl C X.env) fp) tg (ttg G Y0 c V t))
    (hk : ∀ (s : Shared) (H : LH) (C : Addr) (cl : List (Str × Addr)) (fp : List Addr), L2.PE (X.blk s H scope (compEnvC scope cl C X.env) fp) kx (tev G Y0 c k))
    (he : ∀ (s : Shared) (H : LH) (C : Addr) (cl : List (Str × Addr)) (fp : List Addr), L2.PE (X.blk s H scope (compEnvC scope cl C X.env) fp) vx (tev G Y0 c v)) (hs : ∀ x, foldedSetIterable iter X.env x = pure x) :
    L2.PE X (.DictComp kx vx [⟨tg, iter, [], 0⟩] scope pos) (tev G Y c (.dc k v t it (own.map (·.2)))) := by
  refine ⟨fun pins s σ H Q I hh => ?_⟩
  obtain ⟨ρ, h, τ, R, S, p⟩ := hh
  exact (L2.pe_dc hc hN hi ok hg (fun _ _ _ _ _ => pts_yes) hk he hs).run pins s σ H Q I (tdc_ok hV R S p)
/-! ### a dict display -/
def trsOf (G : Gx) (Y : L2.WX) (c : Cf) : List (E × E) → List (L2.TE × L2.TE)
  | [] => []
  | (k, v) :: r => (tev G Y c k, tev G Y c v) :: trsOf G Y c r
theorem disp_go {Qp : List (LV × LV) → LH → Prop} : ∀ (kvs : List (E × E)) {ρ : List Addr} {h : Hp} {H : LH} {P : List W → Hp → List Addr → LH → Prop}, Rep G ρ h H → RSl G ρ H τ σ → Post G Y σ ρ H P (evEs c (flatE kvs) τ h) →
    (∀ ws h1 ρ1 H1 ps ys, To ρ H ρ1 H1 → Rep G ρ1 h1 H1 → pairsOf ws = some ps → RVs G ρ1 H1 (ps.map (·.1)) (ys.map (·.1)) → RVs G ρ1 H1 (ps.map (·.2)) (ys.map (·.2)) → P ws h1 ρ1 H1 → Qp ys H1) → L2.tPairs (trsOf G Y c kvs) σ H Qp
  | [], ρ, h, H, P, R, S, p, k => by
    simp only [flatE, evEs] at p
    exact k [] h ρ H [] [] .refl R rfl (by simpa using RVs.nil) (by simpa using RVs.nil) (p.here R)
  | (a, b) :: r, ρ, h, H, P, R, S, p, k => by
    simp only [flatE, evEs] at p
    refine ⟨ρ, h, τ, R, S, p.bind.imp fun w h1 ρ1 H1 e1 t1 R1 p x rx => ?_⟩
    have S1 := S.to t1 R
    have p1 : Post G Y σ ρ1 H1 P ((evE c b τ h1).b fun v h2 => (evEs c (flatE r) τ h2).b fun xs h => .ok (w :: v :: xs) h) := by
      revert p
      cases evE c b τ h1 with
      | no => exact fun p => p
      | ex e h2 => exact fun p => p
      | ok v h2 =>
        show Post G Y σ ρ1 H1 P (((evEs c (flatE r) τ h2).b fun xs h => .ok (v :: xs) h).b fun xs h => .ok (w :: xs) h) → Post G Y σ ρ1 H1 P ((evEs c (flatE r) τ h2).b fun xs h => .ok (w :: v :: xs) h)
        cases evEs c (flatE r) τ h2 <;> exact fun p => p
    refine ⟨ρ1, h1, τ, R1, S1, p1.bind.imp fun v h2 ρ2 H2 e2 t2 R2 p y ry => ?_⟩
    have S2 := S1.to t2 R1
    refine disp_go r R2 S2 p.bind fun ws h3 ρ3 H3 ps ys t3 R3 ep q1 q2 p3 => ?_
    refine k (w :: v :: ws) h3 ρ3 H3 ((w, v) :: ps) ((x, y) :: ys) (t1.trans (t2.trans t3)) R3 (by simp [pairsOf, ep]) ?_ ?_ (p3.here R3)
    · exact RVs.cons (rx.to (t2.trans t3) R1) q1
    · exact RVs.cons (ry.to t3 R2) q2
theorem rps_of : ∀ {ps : List (W × W)} {ys : List (LV × LV)}, RVs G ρ H (ps.map (·.1)) (ys.map (·.1)) → RVs G ρ H (ps.map (·.2)) (ys.map (·.2)) → ps.all (fun p => keyW p.1) = true → ∃ kvs : List (L2.Key × LV), ys = kvs.map (fun kv => (L2.kV kv.1, kv.2)) ∧ RPs G RK ρ H ps kvs
  | [], ys, r1, r2, _ => by
    have := r1.len
    have : ys = [] := by cases ys with | nil => rfl | cons _ _ => simp at this
    subst this
    exact ⟨[], rfl, by simp [RPs]⟩
  | (k, v) :: ps, ys, r1, r2, hk => by
    rw [List.all_cons, Bool.and_eq_true] at hk
    cases ys with
    | nil => have := r1.len; simp at this
    | cons y ys =>
      obtain ⟨y1, y2⟩ := y
      simp only [List.map_cons] at r1 r2
      obtain ⟨x, z, e, a, r1⟩ := r1.inv
      cases e
      obtain ⟨x, z, e, b, r2⟩ := r2.inv
      cases e
      obtain ⟨kvs, rfl, q⟩ := rps_of r1 r2 hk.2
      obtain ⟨k', rk, rfl⟩ := rk_kV hk.1 a
      exact ⟨(k', y2) :: kvs, rfl, by simp only [RPs]; exact ⟨k', y2, kvs, rfl, rk, b, q⟩⟩
theorem Post.bind0 {α β : Type} {P : β → Hp → List Addr → LH → Prop} {x : TX.R α} {f : α → Hp → TX.R β} (p : Post G Y σ ρ H P (x.b f)) : Post G Y σ ρ H (fun a h1 _ _ => Post G Y σ ρ H P (f a h1)) x := by
  cases x with
  | ok a h1 => exact fun ρ2 H2 t2 R2 => p
  | ex e h1 => exact p
  | no => exact p
theorem pe_dct {pos : Pos} {keys : List (Option Expr)} {values : List Expr} {kvs : List (E × E)} (hp : L2.PPs X pos keys values (trsOf G Y c kvs)) (hall : keys.all (·.isSome) = true) (hl : keys.length = values.length) (h0 : keys ≠ [])
    (h15 : keys.length ≤ 15) : L2.PE X (.Dict keys values pos) (tev G Y c (.dct (flatE kvs))) := by
  refine ⟨fun pins s σ H Q I hh => ?_⟩
  obtain ⟨ρ, h, τ, R, S, p⟩ := hh
  simp only [evE] at p
  refine (L2.pe_disp hp hall hl h0 h15).run pins s σ H Q I fun D hD => ?_
  have hDρ : D ∉ ρ := R.notin hD
  obtain ⟨R1, t1⟩ := R.aside (o := .dK []) hD
  refine disp_go kvs R1 (S.to t1 R) (p.bind0.shift t1) fun ws h2 ρ2 H2 ps ys t2 R2 ep q1 q2 p2 => ?_
  have t := t1.trans t2
  have d2 : H2 D = some (.dK []) := t2.fr D _ L2.upd_same hDρ rfl
  have n2 : D ∉ ρ2 := fun z => by
    have := t2.nw D z hDρ _ L2.upd_same
    cases this
  refine ⟨d2, ?_⟩
  simp only [ep] at p2
  split at p2
  · rename_i hc
    obtain ⟨mk, rfl, rk⟩ := rps_of q1 q2 hc.1
    refine ⟨mk, rfl, by rw [rps_len rk]; exact hc.2, ?_⟩
    obtain ⟨R3, tk⟩ := R2.overD (o' := .dK (L2.mergeK [] mk)) rfl d2 n2
    obtain ⟨R4, e4⟩ := R3.adopt (ob := .dK (ps.foldl (fun d p => put keyEq p.1 p.2 d) [])) L2.upd_same n2 ⟨_, L2.upd_same, RPs.mono (List.prefix_append _ _) tk _ _ (merge_rel rk (by simp [RPs]))⟩
    refine p2 (ρ2 ++ [D]) _ ⟨t.pre.trans (List.prefix_append _ _), fun b u e n z1 => ?_, fun b hb n => ?_⟩ R4 _ (by simp only [RV]; exact ⟨D, rfl, e4⟩)
    · have hb : b ≠ D := fun z => by subst z; rw [hD] at e; cases e
      rw [L2.upd_ne hb]; exact t.fr b u e n z1
    · rcases List.mem_append.mp hb with hb | hb
      · exact t.nw b hb n
      · simp at hb; subst hb; exact fun o e => by rw [hD] at e; cases e
  · exact p2.elim
end TX
end
section
set_option maxRecDepth 100000
set_option linter.unusedVariables false
/-! EvExc: own exceptions with fields, made and raised. -/
namespace TX
open PySem PySem.Spec PyProof.Rows
variable {G : Gx} {ρ ρ' ρ'' : List Addr} {H H' H'' : LH} {h h' : Hp} {a : Addr}
variable {Y : L2.WX} {σ : L2.St} {c : Cf} {Q : L2.VK} {τ : Sl} {X : L2.Cx}
/-- a class of exceptions, as raising and reading want it -/
structure XcC (K : PySem.W.Frag) (C : Addr) (fs : List Str) : Prop where
  ox : L2.OexC K C
  xf : L2.XfC K C
  no : ∀ f ∈ fs, PySem.W.findIn K (.ref C) f = some none
/-- __init__'s promise: its values into the exception's dict -/
def spX (K : PySem.W.Frag) (fs : List Str) : L2.Sp := fun vs H Q _ => ∃ (a C : Addr) (xs : List LV), vs = .ref a :: xs ∧ xs.length = fs.length ∧ XcC K C fs ∧ H a = some (L2.exo a C none) ∧ H a ≠ none ∧
  ∀ dx, H dx = none → dx ≠ a → Q .non (L2.upd (L2.upd H dx (L2.exd dx (fs.zip xs).reverse)) a (L2.exo a C (some dx)))
theorem upd_twice {H : LH} {x y : Addr} {o o' p : L2.HO} (h : x ≠ y) : L2.upd (L2.upd (L2.upd H x o) y p) x o' = L2.upd (L2.upd H x o') y p := by
  funext b
  by_cases hx : b = x
  · subst hx
    rw [L2.upd_same, L2.upd_ne h, L2.upd_same]
  · rw [L2.upd_ne hx]
    by_cases hy : b = y
    · subst hy; rw [L2.upd_same, L2.upd_same]
    · rw [L2.upd_ne hy, L2.upd_ne hx, L2.upd_ne hy, L2.upd_ne hx]
section
variable {P : Program} {w : World} {K : PySem.W.Frag} {mg : Str → Option Value} {base : Heap} {f : Addr} {fd : FuncData} {qual : Str} {st : Stmt}
/-- one field -/
theorem init1_ok {self p fl : Str} {p1 p2 p3 p4 : Pos} (Fu : L2.Fun K "__init__" qual st f fd) (S : L2.FnScope [self, p] [self, p] (L2.defScope st)) (hb : L2.defBody st = [.Assign [.Attribute (.Name self p1) fl p2] (.Name p p3) p4])
    (h1 : L2.Vis (L2.defScope st) self) (h2 : L2.Vis (L2.defScope st) p) (d1 : okName self = true) (d2 : okName p = true) : L2.FnOk P w K mg base (L2.CX P w) 1 f fd [self, p] (spX K [fl]) := by
  have o1 : (self == ("__debug__" : Str)) = false ∧ (self == ("__classdict__" : Str)) = false := by
    unfold okName at d1
    simp only [Bool.and_eq_true, bne_iff_ne, ne_eq] at d1
    exact ⟨by simpa using d1.1.1, by simpa using d1.1.2⟩
  have o2 : (p == ("__debug__" : Str)) = false ∧ (p == ("__classdict__" : Str)) = false := by
    unfold okName at d2
    simp only [Bool.and_eq_true, bne_iff_ne, ne_eq] at d2
    exact ⟨by simpa using d2.1.1, by simpa using d2.1.2⟩
  refine L2.Fun.okX Fu S (fun vs H Q E h => ?_) fun cdv A outer s H vs Q E hr h => ?_
  · obtain ⟨a, C, xs, rfl, hl, _⟩ := h
    simp only [List.length_cons] at hl ⊢; omega
  obtain ⟨a, C, xs, rfl, hl, T, ea, _, hq⟩ := h
  obtain ⟨x, rfl⟩ : ∃ x, xs = [x] := List.length_eq_one_iff.mp hl
  rw [hb]
  refine ⟨_, L2.pss_one (L2.ps_ost (L2.pe_var (i := 0) rfl h1 o1.1 o1.2) (L2.pe_var (i := 1) rfl h2 o2.1 o2.2)), ?_⟩
  refine ⟨x, rfl, .ref a, rfl, a, C, rfl, T.ox, T.no fl List.mem_cons_self, .inl ⟨ea, fun dx hd hn => ?_⟩⟩
  exact hq dx hd hn
/-- two fields -/
theorem init2_ok {self p q fl gl : Str} {p1 p2 p3 p4 q1 q2 q3 q4 : Pos} (Fu : L2.Fun K "__init__" qual st f fd) (S : L2.FnScope [self, p, q] [self, p, q] (L2.defScope st)) (hb : L2.defBody st = [.Assign [.Attribute (.Name self p1) fl p2] (.Name p p3) p4, .Assign [.Attribute (.Name self q1) gl q2] (.Name q q3) q4])
    (h1 : L2.Vis (L2.defScope st) self) (h2 : L2.Vis (L2.defScope st) p) (h3 : L2.Vis (L2.defScope st) q) (d1 : okName self = true) (d2 : okName p = true) (d3 : okName q = true) : L2.FnOk P w K mg base (L2.CX P w) 1 f fd [self, p, q] (spX K [fl, gl]) := by
  have ok : ∀ {x : Str}, okName x = true → (x == ("__debug__" : Str)) = false ∧ (x == ("__classdict__" : Str)) = false := fun {x} d => by
    unfold okName at d
    simp only [Bool.and_eq_true, bne_iff_ne, ne_eq] at d
    exact ⟨by simpa using d.1.1, by simpa using d.1.2⟩
  have o1 := ok d1
  have o2 := ok d2
  have o3 := ok d3
  refine L2.Fun.okX Fu S (fun vs H Q E h => ?_) fun cdv A outer s H vs Q E hr h => ?_
  · obtain ⟨a, C, xs, rfl, hl, _⟩ := h
    simp only [List.length_cons] at hl ⊢; omega
  obtain ⟨a, C, xs, rfl, hl, T, ea, _, hq⟩ := h
  obtain ⟨x, y, rfl⟩ : ∃ x y, xs = [x, y] := by
    rcases xs with _ | ⟨x, _ | ⟨y, _ | ⟨z, r⟩⟩⟩
    · cases hl
    · cases hl
    · exact ⟨x, y, rfl⟩
    · simp at hl
  rw [hb]
  refine ⟨_, L2.pss_cons (L2.ps_ost (L2.pe_var (i := 0) rfl h1 o1.1 o1.2) (L2.pe_var (i := 1) rfl h2 o2.1 o2.2)) (L2.pss_one (L2.ps_ost (L2.pe_var (i := 0) rfl h1 o1.1 o1.2) (L2.pe_var (i := 2) rfl h3 o3.1 o3.2))), ?_⟩
  refine ⟨x, rfl, .ref a, rfl, a, C, rfl, T.ox, T.no fl List.mem_cons_self, .inl ⟨ea, fun dx hd hn => ?_⟩⟩
  refine ⟨y, rfl, .ref a, rfl, a, C, rfl, T.ox, T.no gl (List.mem_cons_of_mem _ List.mem_cons_self), .inr ⟨dx, [(fl, x)], L2.upd_same, ?_, by simp, ?_⟩⟩
  · rw [L2.upd_ne hn, L2.upd_same]
  · have e := hq dx hd hn
    rw [show ([fl, gl].zip [x, y]).reverse = [(gl, y), (fl, x)] from rfl] at e
    show Q .non _
    rw [upd_twice hn]; exact e
end
/-- a class as raising wants it -/
structure XiOk (G : Gx) (X : L2.Cx) (C : Addr) (fs : List Nat) : Prop where
  lt : ∀ f ∈ fs, f < G.nn
  nd : fs.Nodup
  le : fs.length ≤ 1000
  xc : XcC X.K C (fs.map G.an)
  ini : ∃ fI fd ps, PySem.W.findIn X.K (.ref C) "__init__" = some (some (.ref fI)) ∧ PySem.W.typeIn X.K (.ref fI) = some (.type "function") ∧ L2.Binds X.K fd ps [] ∧ L2.FnOk X.prog X.w X.K X.mg X.base (L2.CX X.prog X.w) 1 fI fd ps (spX X.K (fs.map G.an))
/-- the fields, found in the dict -/
theorem getF_zip : ∀ {fs : List Nat} {ws : List W} {f : Nat} {w : W}, getF f (fs.zip ws) = some w → ∃ i : Nat, fs[i]? = some f ∧ ws[i]? = some w
  | [], ws, f, w, e => by simp [getF] at e
  | g :: fs, [], f, w, e => by simp [getF] at e
  | g :: fs, v :: ws, f, w, e => by
    rw [List.zip_cons_cons] at e
    unfold getF at e
    cases q : Nat.beq g f with
    | true =>
      have := Nat.eq_of_beq_eq_true q
      subst this
      simp only [q, cond_true] at e
      exact ⟨0, rfl, e⟩
    | false =>
      simp only [q, cond_false] at e
      obtain ⟨i, h1, h2⟩ := getF_zip e
      exact ⟨i + 1, h1, h2⟩
theorem lookup_rev {l : List (Str × LV)} {x : Str} {v : LV} (nd : (l.map (·.1)).Nodup) (h : (x, v) ∈ l) : l.lookup x = some v := by
  induction l with
  | nil => cases h
  | cons p l ih =>
    obtain ⟨y, u⟩ := p
    rw [List.map_cons, List.nodup_cons] at nd
    rcases List.mem_cons.mp h with e | h
    · cases e; simp [List.lookup]
    · have : (x == y) = false := by
        have : x ≠ y := fun z => nd.1 (z ▸ List.mem_map.mpr ⟨_, h, rfl⟩)
        simpa using this
      rw [List.lookup_cons, this]
      exact ih nd.2 h
theorem rvs_get {ws : List W} {xs : List LV} (r : RVs G ρ H ws xs) {i : Nat} {w : W} (e : ws[i]? = some w) : ∃ x, xs[i]? = some x ∧ RV G ρ H w x := r.get e
theorem zip_sub {α β : Type} : ∀ (l : List α) (m : List β), ((l.zip m).map (·.1)).Sublist l
  | [], _ => List.Sublist.refl _
  | x :: l, [] => by simp
  | x :: l, y :: m => by
    rw [List.zip_cons_cons, List.map_cons]
    exact (zip_sub l m).cons_cons x
theorem xd_fields {fs : List Nat} {ws : List W} {xs : List LV} (lt : ∀ f ∈ fs, f < G.nn) (nd : fs.Nodup) (r : RVs G ρ H ws xs) {f : Nat} {w : W} (e : getF f (fs.zip ws) = some w) : f < G.nn ∧ ∃ x, (((fs.map G.an).zip xs).reverse).lookup (G.an f) = some x ∧ RV G ρ H w x := by
  obtain ⟨i, h1, h2⟩ := getF_zip e
  obtain ⟨x, h3, h4⟩ := r.get h2
  refine ⟨lt f (List.mem_of_getElem? h1), x, lookup_rev ?_ ?_, h4⟩
  · rw [List.map_reverse]
    rw [List.nodup_iff_pairwise_ne, List.pairwise_reverse]
    refine List.Pairwise.imp (fun q z => q z.symm) (List.nodup_iff_pairwise_ne.mp ?_)
    have : (((fs.map G.an).zip xs).map (·.1)).Sublist (fs.map G.an) := by
      exact zip_sub _ _
    refine List.Nodup.sublist this ?_
    rw [List.nodup_iff_pairwise_ne, List.pairwise_map]
    exact (List.nodup_iff_pairwise_ne.mp nd).imp_of_mem fun ha hb hne q => hne (G.inj _ _ (lt _ ha) (lt _ hb) q)
  · rw [List.mem_reverse]
    refine List.mem_iff_getElem?.mpr ⟨i, ?_⟩
    rw [List.getElem?_zip_eq_some]
    exact ⟨by rw [List.getElem?_map, h1]; rfl, h3⟩
theorem ps_rai (hK : X.K = G.K) {k : Nat} {C : Addr} {fs : List Nat} (hca : G.ca k = some C) (T : XiOk G X C fs) (hxf : c.pg.xfs k = some fs) (hc : X.calm = true) (tk : L2.Takes X Y) (hr : ∀ l, c.hx = some l → L2.Room 2 X.A) {x : Str} {p pos rpos : Pos} {e : Expr} {es : List Expr} {as : Es} (hg : L2.Gl X x) (hm : X.mg x = some (.ref C))
    (hd : (x == ("__debug__" : Str)) = false) (hs : (e :: es).all nsE = true) (ha : L2.PA X (e :: es) (tes G Y c as)) : L2.PS X (.Raise (some (.Call (.Name x p) (e :: es) [] pos)) none rpos) (tst G Y c (.rai k as)) := by
  refine ⟨fun pins s σ H D I hh => ?_⟩
  obtain ⟨ρ, h, τ, R, S, pp⟩ := hh
  simp only [evS] at pp
  cases hl : c.hx with
  | none => simp only [hl] at pp; exact pp.elim
  | some l =>
    simp only [hl, hxf] at pp
    obtain ⟨fI, fd, ps, i1, i2, i3, i4⟩ := T.ini
    rw [List.all_cons, Bool.and_eq_true] at hs
    refine (L2.ps_raise (W := Y) hc tk (L2.pmk_oex (CX := L2.CX X.prog X.w) (sp := spX X.K (fs.map G.an)) (ds := []) (dvs := []) T.xc.ox i1 i2 i4 (hr l hl) i3 .nil L2.passL hg hm ha hd (starEach_cons hs.1) (any_star hs.2))).run pins s σ H D I ?_
    refine ⟨ρ, h, τ, R, S, (pp.of R S).imp fun ws h1 ρ1 H1 e1 t1 R1 q xs rs => ?_⟩
    by_cases hlen : fs.length = ws.length
    · rw [if_pos hlen] at q
      have hx := rs.len
      refine ⟨?_, fun a na => ⟨a, C, xs, by rw [List.append_nil], by rw [List.length_map, hx, hlen], T.xc, L2.upd_same, by rw [L2.upd_same]; simp, fun dx hdx hne => ?_⟩⟩
      · rw [hx, ← hlen]; exact T.le
      · have nd : H1 dx = none := by rw [L2.upd_ne hne] at hdx; exact hdx
        refine ⟨rfl, dx, _, L2.upd_same, by rw [L2.upd_ne hne, L2.upd_same], nd, ?_⟩
        have eH : L2.upd (L2.del (L2.upd (L2.upd (L2.upd H1 a (L2.exo a C none)) dx (L2.exd dx ((fs.map G.an).zip xs).reverse)) a (L2.exo a C (some dx))) a) dx (.xd ((fs.map G.an).zip xs).reverse) = L2.upd H1 dx (.xd ((fs.map G.an).zip xs).reverse) := by
          funext b
          by_cases hb : b = dx
          · subst hb; rw [L2.upd_same, L2.upd_same]
          · rw [L2.upd_ne hb, L2.upd_ne hb]
            by_cases hb2 : b = a
            · subst hb2; rw [L2.del_same, na]
            · rw [L2.del_ne hb2, L2.upd_ne hb2, L2.upd_ne hb, L2.upd_ne hb2]
        rw [eH]
        obtain ⟨R2, t2⟩ := R1.aside (o := .xd ((fs.map G.an).zip xs).reverse) nd
        refine q ρ1 _ σ _ _ t2 R2 ((S.to t1 R).to t2 R1) ⟨C, hca, rfl, .inr ⟨dx, _, rfl, L2.upd_same, fun f w ef => ?_⟩⟩
        obtain ⟨z1, x, z2, z3⟩ := xd_fields (ρ := ρ1) (H := H1) T.lt T.nd rs ef
        exact ⟨z1, x, z2, z3.to t2 R1⟩
    · rw [if_neg hlen] at q; exact q.elim
end TX
end
section
set_option maxRecDepth 100000
set_option linter.unusedVariables false
/-! EvTry: several clauses, each with a name. -/
namespace TX
open PySem PySem.Spec PyProof.Rows
/-- a clause: its class, its name's slot, how its suite reads -/
structure Cl where
  cls : Value
  i : Nat
  ts : Addr → Value → Option Addr → L2.TS
/-- the ends behind a suite: the name is gone -/
def offE (D : L2.Ends) (i : Nat) : L2.Ends := { nx := fun σ' H' => D.nx (σ'.set i none) H', rt := D.rt, bk := fun σ' H' => D.bk (σ'.set i none) H', ct := fun σ' H' => D.ct (σ'.set i none) H' }
/-- what is wished of an exception: clause by clause -/
def wCl (K : PySem.W.Frag) (out : L2.WX) (D : L2.Ends) : List Cl → L2.WX
  | [] => out
  | k :: ks => fun cls d σ H => ∃ b, PySem.W.exmOne K cls k.cls = some b ∧ (b = true → ∀ a, H a = none → k.ts a cls d (offE D k.i) (σ.set k.i (some (.ref a))) H) ∧ (b = false → wCl K out D ks cls d σ H)
/-- .. where the slots are the frame's -/
def wLen (X : L2.Cx) (V : L2.WX) : L2.WX := fun cls d σ H => σ.length = X.N.length → V cls d σ H
inductive ClsOk (X : L2.Cx) : List ExceptHandler → List Cl → Prop
  | nil : ClsOk X [] []
  | cons {x n : Str} {k : Cl} {b₀ : Stmt} {suite : List Stmt} {np hp : Pos} {hs : List ExceptHandler} {ks : List Cl} (ni : X.N[k.i]? = some n) (nl : X.env.kindOf n = some .local) (nc : L2.Names X x k.cls)
      (su : ∀ (a : Addr) (oe : Obj) (cls : Value) (d : Option Addr) (pn : List (Addr × Obj)), L2.Zc cls d oe → (∃ vs, oe.data = .fields vs) → L2.PSs (X.suite a ((a, oe) :: pn)) (b₀ :: suite) (k.ts a cls d)) (rest : ClsOk X hs ks) :
      ClsOk X (.ExceptHandler (some (.Name x np)) (some n) (b₀ :: suite) hp :: hs) (k :: ks)
section
variable {X : L2.Cx}
theorem ps_tryA {body : List Stmt} {h₀ : ExceptHandler} {hds : List ExceptHandler} {ks : List Cl} {pos : Pos} {tb : L2.WX → L2.TS} {out : L2.WX} (hs : X.stack = X.env :: X.outer) (hf : X.env.frame = some X.env.locals) (hN : X.N.Nodup) (tk : L2.Takes X out)
    (hb : ∀ (V : L2.WX) (pn : List (Addr × Obj)) (xe : Value → Shared → Prop), L2.Takes (X.tr pn xe) V → PassesOwn (model X.prog X.w) X.A X.env xe → L2.PSs (X.tr pn xe) body (tb V)) (hh : ClsOk X (h₀ :: hds) ks) :
    L2.PS X (.Try body (h₀ :: hds) [] [] pos) (fun D σ H => tb (wLen X (wCl X.K out D ks)) D σ H) := by
  constructor
  intro pins s σ H D I hyp
  have kk := I.ok
  have frs' : X.A.frames = some (X.env :: X.outer) := by rw [kk.frames, hs]
  refine wpAny_Try_except (wpAny_mono (Q := L2.SP (X.tr (X.pn ++ pins) fun e s₁ => wpAny (model X.prog X.w) X.A (noteFrame e X.env) (fun _ s₂ => wpAny (model X.prog X.w) X.A (setFlight e none) (fun _ s₃ => wpAny (model X.prog X.w) X.A (handleBy e X.env (h₀ :: hds)) (L2.SP X pins D) X.xe s₃) X.xe s₂) X.xe s₁) [] D) (E := fun e s₁ => wpAny (model X.prog X.w) X.A (noteFrame e X.env) (fun _ s₂ => wpAny (model X.prog X.w) X.A (setFlight e none) (fun _ s₃ => wpAny (model X.prog X.w) X.A (handleBy e X.env (h₀ :: hds)) (L2.SP X pins D) X.xe s₃) X.xe s₂) X.xe s₁) ?run ?fin fun _ _ z => z)
  case fin =>
    intro fl s1 q
    cases fl with
    | next => obtain ⟨σ2, H2, J2, r⟩ := q; exact wpAny_execs_nil ⟨σ2, H2, J2.ofTry kk, r⟩
    | brk => obtain ⟨σ2, H2, J2, r⟩ := q; exact ⟨σ2, H2, J2.ofTry kk, r⟩
    | cont => obtain ⟨σ2, H2, J2, r⟩ := q; exact ⟨σ2, H2, J2.ofTry kk, r⟩
    | ret u => obtain ⟨v2, σ2, H2, J2, rv, r⟩ := q; exact ⟨v2, σ2, H2, J2.ofTry kk, rv, r⟩
  case run =>
    refine (hb (wLen X (wCl X.K out D ks)) (X.pn ++ pins) _ (fun u s2 met => ?_) PassesOwn.looking).run [] s σ H D (I.toTry _) hyp
    obtain ⟨a, B, sI, pins2, σ2, H2, cls, d, rfl, J2, nb, up, sky, na, os, ag, w⟩ := met
    have J : L2.Inv X pins σ2 H2 sI := J2.ofTry kk
    rw [show X.stack = X.env :: X.outer from hs] at sky
    show wpAny (model X.prog X.w) X.A (noteFrame (.ref a) X.env) _ _ _
    refine L2.Sky.land L2.Zc.steady frs' hf sky fun h3 fl3 up3 => ?_
    have J3 : L2.Inv X pins σ2 H2 { s2 with heap := h3 } := J.landed nb fl3.1 (up.trans up3) os ag
    obtain ⟨oe3, vs3, he3, hz3, hd3⟩ := fl3.there
    have nfr : a ∉ L2.frs (X.env :: X.outer) := fun mem => by
      obtain ⟨_, o3, e3, k3⟩ := fl3.2.2.1.mem mem
      rw [he3] at e3; cases e3
      exact k3 _ hd3
    have nLoc : a ≠ X.env.locals := fun z => nfr (List.mem_filterMap.mpr ⟨X.env, .head _, by rw [hf, z]⟩)
    have nFr : a ∉ X.fs := fun mem => by
      obtain ⟨e, me, q⟩ := List.mem_filterMap.mp mem
      exact nfr (List.mem_filterMap.mpr ⟨e, .tail _ me, q⟩)
    have S3 := J3.suite he3 hd3 na nLoc nFr
    have step : ∀ {hs' : List ExceptHandler} {ks' : List Cl}, ClsOk X hs' ks' → wCl X.K out D ks' cls d σ2 H2 → wpAny (model X.prog X.w) X.A (handleBy (.ref a) X.env hs') (L2.SP X pins D) X.xe { s2 with heap := h3 } := fun {hs' ks'} ok => by
      induction ok with
      | nil =>
        intro w0
        refine wpAny_handleBy_nil ?_
        obtain ⟨_, _, _, oe, vs, T, oT, _, heo, _, hdo, hv1, _⟩ := id fl3
        unfold PySem.passOn
        refine wpAny_bind (wpAny_field heo hdo hv1 ?_)
        rw [if_neg (by simp : ¬ ((Value.ref T == Value.none) = true))]
        have away : wpAny (model X.prog X.w) X.A (setFlight (.ref a) X.env.frame) (fun _ s4 => wpAny (model X.prog X.w) X.A (throw (.ref a) : Sem Flow) (L2.SP X pins D) X.xe s4) X.xe { s2 with heap := h3 } := by
          rw [hf]
          exact HandSPX.setFlight_upZ fl3 fun h4 fl4 up4 => wpAny_throw (tk _ _ ⟨a, B, sI, pins, σ2, H2, cls, d, rfl, J, nb, (up.trans up3).trans up4, .inr (.inr (by rw [hs]; exact fl4)), na, os, ag, w0⟩)
        first
          | exact wpAny_bind (wpAny_pure (wpAny_bind away))
          | exact wpAny_bind away
      | @cons x n k b₀ suite np hp hs2 ks2 ni nl nc su rest ih =>
        rintro ⟨b, hb1, yes, no⟩
        refine wpAny_handleBy_cons (codeAny_handlers_test ?_) (fun q => by cases q)
        have look : PySem.W.Looks (model X.prog X.w) h3 (typeOf (.ref a)) cls := fun A Q E s k q => wpAny_typeOf_ref (k _ _ he3) (by rw [hz3.1]; exact q)
        have cmp := PySem.W.exm_one (M := model X.prog X.w) J3.kIn look hb1
        have named : ∀ {Q : Value → Shared → Prop} {E : Value → Shared → Prop}, Q k.cls { s2 with heap := h3 } → wpAny (model X.prog X.w) (X.A.mark (some (.ref a))) (eval (.Name x np) X.env) Q E { s2 with heap := h3 } := fun {Q E} q => by
          obtain ⟨g1, g2, g3 | ⟨g3, g4, g5⟩⟩ := nc
          · exact L2.ld_glob (X := X.suite a ((a, oe3) :: (X.pn ++ pins))) S3 g1 g3 q g2
          · exact L2.ld_blt (X := X.suite a ((a, oe3) :: (X.pn ++ pins))) S3 g1 g3 g4 q g5 g2
        refine named (cmp.here ?_)
        cases b with
        | false => exact ih (no rfl)
        | true =>
          refine codeAny_handlers_suite_as (HandSPX.lands_againZ fl3 fun h4 fl4 up4 => ?_)
          have J4 : L2.Inv X pins σ2 H2 { s2 with heap := h4 } := J.landed nb fl4.1 ((up.trans up3).trans up4) os ag
          obtain ⟨oe4, vs4, he4, hz4, hd4⟩ := fl4.there
          refine L2.store_ok (X := X.suite a ((a, oe4) :: (X.pn ++ pins))) (v := .ref a) (J4.suite he4 hd4 na nLoc nFr) hN ni (.inl nl) rfl (fun s5 S5 => ?_) (.inr nl)
          refine wpAny_mono ((su a oe4 cls d (X.pn ++ pins) hz4 ⟨_, hd4⟩).run [] s5 _ H2 _ S5 (yes rfl a na)) (fun fl s6 q => ?_) fun _ _ z => z.elim
          have off : ∀ {σ6 : L2.St} {H6 : LH} {Q : Shared → Prop}, L2.Inv (X.suite a ((a, oe4) :: (X.pn ++ pins))) [] σ6 H6 s6 → (∀ s7, L2.Inv X pins (σ6.set k.i none) H6 s7 → Q s7) →
              wpAny (model X.prog X.w) X.A (do bindName X.env n .none; unbindBehindTheSuite X.env n hp) (fun _ s7 => Q s7) X.xe s6 := fun {_ _ _} S6 hq => L2.gone_ok (S6.unsuite kk) hN ni nl hq
          cases fl with
          | next => obtain ⟨σ6, H6, S6, r⟩ := q; exact off S6 fun _ J7 => ⟨_, _, J7, r⟩
          | brk => obtain ⟨σ6, H6, S6, r⟩ := q; exact off S6 fun _ J7 => ⟨_, _, J7, r⟩
          | cont => obtain ⟨σ6, H6, S6, r⟩ := q; exact off S6 fun _ J7 => ⟨_, _, J7, r⟩
          | ret u => obtain ⟨v6, σ6, H6, S6, rv, r⟩ := q; exact off S6 fun _ J7 => ⟨_, _, _, J7, rv, r⟩
    exact step hh (w J.len)
end
end TX
end
section
set_option maxRecDepth 100000
set_option linter.unusedVariables false
/-! EvMet: a def that calls the lambda it got, and tells what is raised. -/
namespace TX
open PySem PySem.Spec PyProof.Rows
variable {G : Gx} {ρ ρ' ρ'' : List Addr} {H H' H'' : LH} {h h' : Hp} {a : Addr}
variable {Y : L2.WX} {σ : L2.St} {c : Cf} {Q : L2.VK} {τ : Sl} {X : L2.Cx}
/-- what is told, from the exception's dict -/
def mfV (G : Gx) (ys : List (Str × LV)) : MF → Option LV
  | .cst (.str s) => some (.str (S' s))
  | .cst _ => none
  | .fld f => ys.lookup (G.an f)
def mfVs (G : Gx) (ys : List (Str × LV)) : List MF → Option (List LV)
  | [] => some []
  | m :: ms => match mfV G ys m, mfVs G ys ms with
    | some v, some vs => some (v :: vs)
    | _, _ => none
def wMet (G : Gx) (K : PySem.W.Frag) (Q : L2.VK) : List Mh → L2.XK
  | [] => fun _ _ _ => False
  | m :: ms => fun cls d H => ∃ C b, G.ca m.c = some C ∧ PySem.W.exmOne K cls (.ref C) = some b ∧
    (b = true → cls = .ref C ∧ ∃ dd ys vs, d = some dd ∧ H dd = some (.xd ys) ∧ mfVs G ys m.fs = some vs ∧ ∀ p, H p = none → Q (.ref p) (L2.upd H p (.tup vs))) ∧ (b = false → wMet G K Q ms cls d H)
def TMet (G : Gx) (K : PySem.W.Frag) (hs : List Mh) : (L2.XK → LH → L2.VK → Prop) → LH → L2.VK → Prop := fun tl H Q => tl (wMet G K Q hs) H Q
/-- a clause's tuple -/
inductive MetEs (G : Gx) (n : Str) : List Expr → List MF → Prop
  | nil : MetEs G n [] []
  | str {s : Str} {j : Nat} {p : Pos} {es : List Expr} {ms : List MF} (r : MetEs G n es ms) : MetEs G n (.Constant (.str s) j p :: es) (.cst (.str s.cps.toList) :: ms)
  | fld {f : Nat} {x : Str} {p p' : Pos} {es : List Expr} {ms : List MF} (e : G.an f = x) (r : MetEs G n es ms) : MetEs G n (.Attribute (.Name n p) x p' :: es) (.fld f :: ms)
def fldsOf (G : Gx) : List MF → List Str
  | [] => []
  | .cst _ :: ms => fldsOf G ms
  | .fld f :: ms => G.an f :: fldsOf G ms
/-- the clauses -/
inductive MetHs (G : Gx) (K : PySem.W.Frag) (mg : Str → Option Value) (Ng : List Str) (sg : Scope) : List ExceptHandler → List Mh → Prop
  | nil : MetHs G K mg Ng sg [] []
  | cons {x n : Str} {i : Nat} {C : Addr} {m : Mh} {ms : List Mh} {es : List Expr} {k : Nat} {np hp rp tp : Pos} {hs : List ExceptHandler} (ni : Ng[i]? = some n) (nl : sg.names.lookup n = some .local) (nx : sg.names.lookup x = some .globalImplicit) (dx : okName x = true) (dn : okName n = true)
      (hm : mg x = some (.ref C)) (hC : G.ca m.c = some C) (xc : XcC K C (fldsOf G m.fs)) (le : m.fs.length ≤ 1000) (he : MetEs G n es m.fs) (r : MetHs G K mg Ng sg hs ms) :
      MetHs G K mg Ng sg (.ExceptHandler (some (.Name x np)) (some n) [.Return (some (.Tuple es k tp)) rp] hp :: hs) (m :: ms)
def taM (G : Gx) (i : Nat) (a : Addr) (cls : Value) (d : Option Addr) (C : Addr) : List MF → L2.TA
  | [] => L2.tNil
  | .cst (.str s) :: ms => L2.tCons (L2.tC (.str (S' s))) (taM G i a cls d C ms)
  | .cst _ :: _ => fun _ _ _ => False
  | .fld f :: ms => L2.tCons (L2.tXf a cls d C (G.an f) (L2.tVar i)) (taM G i a cls d C ms)
theorem names_ok {x : Str} (d : okName x = true) : (x == ("__debug__" : Str)) = false ∧ (x == ("__classdict__" : Str)) = false := by
  unfold okName at d
  simp only [Bool.and_eq_true, bne_iff_ne, ne_eq] at d
  exact ⟨by simpa using d.1.1, by simpa using d.1.2⟩
theorem pa_met {n : Str} {i : Nat} {C : Addr} {oe : Obj} {cls : Value} {d : Option Addr} {pn : List (Addr × Obj)} (ni : X.N[i]? = some n) (nl : X.env.scope.names.lookup n = some .local) (dn : okName n = true) (hz : L2.Zc cls d oe) (hf : ∃ vs, oe.data = .fields vs) :
    ∀ {es : List Expr} {ms : List MF}, MetEs G n es ms → XcC X.K C (fldsOf G ms) → L2.PA (X.suite a ((a, oe) :: pn)) es (taM G i a cls d C ms)
  | _, _, .nil, _ => L2.pa_nil
  | _, _, .str r, xc => L2.pa_cons L2.pe_str (pa_met ni nl dn hz hf r xc)
  | _, _, .fld e r, xc => by
    subst e
    exact L2.pa_cons (L2.pe_xf xc.xf (xc.no _ List.mem_cons_self) hz hf (L2.pe_var (X := X.suite a ((a, oe) :: pn)) (i := i) ni (.inl nl) (names_ok dn).1 (names_ok dn).2)) (pa_met ni nl dn hz hf r ⟨xc.ox, xc.xf, fun f hm => xc.no f (List.mem_cons_of_mem _ hm)⟩)
theorem taM_of {i : Nat} {C dd : Addr} {ys : List (Str × LV)} (hi : σ[i]? = some (some (.ref a))) (hd : H dd = some (.xd ys)) : ∀ {ms : List MF} {vs : List LV} {K : List LV → LH → Prop}, mfVs G ys ms = some vs → K vs H → taM G i a (.ref C) (some dd) C ms σ H K
  | [], vs, K, e, k => by cases e; exact k
  | m :: ms, vs, K, e, k => by
    unfold mfVs at e
    split at e
    · rename_i v vs' e1 e2
      cases e
      cases m with
      | cst w =>
        cases w with
        | str s =>
          cases e1
          exact taM_of hi hd e2 (K := fun vs H => K (.str (S' s) :: vs) H) k
        | _ => cases e1
      | fld f => exact ⟨.ref a, hi, rfl, rfl, dd, ys, v, rfl, hd, e1, taM_of hi hd e2 (K := fun vs H => K (v :: vs) H) k⟩
    · cases e
theorem mfVs_len {ys : List (Str × LV)} : ∀ {ms : List MF} {vs : List LV}, mfVs G ys ms = some vs → vs.length = ms.length
  | [], vs, e => by cases e; rfl
  | m :: ms, vs, e => by
    unfold mfVs at e
    split at e
    · rename_i v vs' e1 e2
      cases e
      rw [List.length_cons, List.length_cons, mfVs_len e2]
    · cases e
/-- the clauses' readings -/
def clsM (G : Gx) (Ng : List Str) : List ExceptHandler → List Mh → List Cl
  | .ExceptHandler _ (some n) _ _ :: hs, m :: ms => ⟨match G.ca m.c with | some C => .ref C | none => .none, (Ng.findIdx? (· == n)).getD 0, fun a cls d => L2.tRet (L2.tTup (taM G ((Ng.findIdx? (· == n)).getD 0) a cls d ((G.ca m.c).getD 0) m.fs))⟩ :: clsM G Ng hs ms
  | _, _ => []
theorem find_of {N : List Str} {n : Str} {i : Nat} (nd : N.Nodup) (h : N[i]? = some n) : (N.findIdx? (· == n)).getD 0 = i := by
  have hi := (List.getElem?_eq_some_iff.mp h).1
  have e : N.findIdx? (· == n) = some i := by
    rw [List.findIdx?_eq_some_iff_getElem]
    refine ⟨hi, by simpa using (List.getElem?_eq_some_iff.mp h).2, fun k hk => ?_⟩
    have h2 := (List.getElem?_eq_some_iff.mp h).2
    intro z
    have z' : N[k] = n := by simpa using z
    have := (List.getElem_inj nd).mp (z'.trans h2.symm)
    omega
  rw [e]; rfl
theorem clsOk_of {sg : Scope} (hN : X.N.Nodup) (hsg : X.env.scope = sg) : ∀ {hs : List ExceptHandler} {ms : List Mh}, MetHs G X.K X.mg X.N sg hs ms → ClsOk X hs (clsM G X.N hs ms)
  | _, _, .nil => .nil
  | _, _, .cons (x := x) (n := n) (i := i) (C := C) (m := m) (es := es) ni nl nx dx dn hm hC xc le he r => by
    have ei := find_of hN ni
    have nl' : X.env.scope.names.lookup n = some .local := by rw [hsg]; exact nl
    have nx' : L2.Gl X x := by
      show X.env.scope.names.lookup x = some .globalImplicit
      rw [hsg]; exact nx
    refine .cons (n := n) ?_ nl' ⟨nx', (names_ok dx).1, .inl ?_⟩ (fun a oe cls d pn hz hf => ?_) (clsOk_of hN hsg r)
    · rw [ei]; exact ni
    · rw [hC]; exact hm
    · simp only [ei, hC, Option.getD_some]
      exact L2.pss_one (L2.ps_ret (L2.pe_tup (pa_met ni nl' dn hz hf he xc)))
theorem wCl_of {K : PySem.W.Frag} {mg : Str → Option Value} {Ng : List Str} {sg : Scope} {D : L2.Ends} {out : L2.WX} (hN : Ng.Nodup) : ∀ {hs : List ExceptHandler} {ms : List Mh}, MetHs G K mg Ng sg hs ms → ∀ {cls : Value} {d : Option Addr} {σ : L2.St} {H : LH}, σ.length = Ng.length → wMet G K D.rt ms cls d H → wCl K out D (clsM G Ng hs ms) cls d σ H
  | _, _, .nil, cls, d, σ, H, hl, w => w.elim
  | _, _, .cons (n := n) (i := i) (C := C) (m := m) ni nl nx dx dn hm hC xc le he r, cls, d, σ, H, hl, w => by
    have ei := find_of hN ni
    obtain ⟨C', b, e1, e2, e3, e4⟩ := w
    rw [hC] at e1; cases e1
    refine ⟨b, by simp only [hC]; exact e2, fun hb a na => ?_, fun hb => wCl_of hN r hl (e4 hb)⟩
    obtain ⟨rfl, dd, ys, vs, rfl, e5, e6, e7⟩ := e3 hb
    simp only [ei, hC, Option.getD_some]
    have hi : i < σ.length := by rw [hl]; exact (List.getElem?_eq_some_iff.mp ni).1
    refine taM_of (List.getElem?_set_self hi) e5 e6 ⟨?_, e7⟩
    rw [mfVs_len e6, sizeLine_eq]
    exact Nat.le_trans le (by decide)
/-- the def's promise, by its clauses -/
theorem met_gives {Ng : List Str} {x a q : Str} {sg : Scope} {g : Addr} {cdg : Value} {hs : List ExceptHandler} {h₀ : ExceptHandler} {ms : List Mh} {p1 p2 p3 p4 : Pos} (nd : Ng.Nodup) (hm : MetHs G X.K X.mg Ng sg (h₀ :: hs) ms) (h0 : ∀ f : Addr, (L2.start Ng [L2.V.ref f])[0]? = some (some (L2.V.ref f))) :
    LamX.GivesTo X Ng x sg g cdg [.Try [.Return (some (.Call (.Name a p1) [] [] p2)) p3] (h₀ :: hs) [] [] p4] a q (TMet G X.K ms) := fun f c' s H Q tl act hc told => by
  have ok := clsOk_of (X := (L2.cxOf C8.CX0 X.prog X.w X.K X.mg X.base Ng x sg g cdg X.A X.stack s H C8.E0).nox) nd rfl hm
  refine ⟨_, L2.pss_one (ps_tryA (X := (L2.cxOf C8.CX0 X.prog X.w X.K X.mg X.base Ng x sg g cdg X.A X.stack s H C8.E0).nox) (out := fun _ _ _ _ => False)
      (tb := fun V D σ H => ∃ E1 : L2.XK, (∀ cls d σ1 H1, E1 cls d H1 → V cls d σ1 H1) ∧ σ[0]? = some (some (.ref f)) ∧ H c' = some (LamX.CodeO c' q) ∧ tl E1 H D.rt) rfl rfl nd LamX.takes0 (fun V pn xe tk _ => ⟨fun pins s1 σ H1 D I w => ?_⟩) ok), ?_⟩
  · obtain ⟨E1, w1, w2, w3, w4⟩ := w
    exact (L2.pss_one (L2.ps_ret (pos := p3) (act V pn xe E1 p1 p2 tk w1))).run pins s1 σ H1 D I ⟨w2, w3, w4⟩
  · exact ⟨wMet G X.K Q ms, fun cls d σ1 H1 w hl => wCl_of nd hm hl w, h0 f, hc, told⟩
end TX
end
section
set_option maxRecDepth 100000
set_option linter.unusedVariables false
/-! EvAll: every translated expression is read as the reckoner reads it. -/
namespace TX
open PySem PySem.Spec PyProof.Rows
variable {G : Gx} {ρ ρ' ρ'' : List Addr} {H H' H'' : LH} {h h' : Hp} {a : Addr}
variable {Y : L2.WX} {σ : L2.St} {c : Cf} {Q : L2.VK} {τ : Sl} {X : L2.Cx}
/-- a def that calls its lambda -/
def MetOk (G : Gx) (pg : Pg) (K : PySem.W.Frag) (mg : Str → Option Value) (x : Str) (hs : List Mh) : Prop :=
  ∃ (g : Addr) (a : Str) (Ng : List Str) (pa : Arguments) (sg : Scope) (dV kV doc pm cdv ct oc : Value) (an od : Option Addr) (osl : Array (Option Value)) (h₀ : ExceptHandler) (hds : List ExceptHandler) (p1 p2 p3 p4 : Pos),
    mg x = some (.ref g) ∧ PySem.W.keepIn K (.ref g) = true ∧ K.lookup g = some ⟨oc, od, .func (PySem.W.fnOf x x pa [.Try [.Return (some (.Call (.Name a p1) [] [] p2)) p3] (h₀ :: hds) [] [] p4] sg dV kV doc pm an cdv ct), osl⟩ ∧ PySem.W.codeIn K cdv x = true ∧
    L2.Binds K (PySem.W.fnOf x x pa [.Try [.Return (some (.Call (.Name a p1) [] [] p2)) p3] (h₀ :: hds) [] [] p4] sg dV kV doc pm an cdv ct) [a] [] ∧ L2.FnScope Ng [a] sg ∧ Ng[0]? = some a ∧ L2.Vis sg a ∧ okName a = true ∧ MetHs G K mg Ng sg (h₀ :: hds) hs ∧
    ∀ k fs C, pg.xfs k = some fs → G.ca k = some C → ∀ m ∈ hs, ∃ C', G.ca m.c = some C' ∧ PySem.W.exmOne K (.ref C) (.ref C') = some (Nat.beq k m.c || pg.xsub k m.c)
/-- what a global name stands for -/
def GrOk (G : Gx) (X : L2.Cx) (pg : Pg) (F j : Nat) (x : Str) : Gr → Prop
  | .fn g => ∃ f, G.fa g = some f ∧ X.mg x = some (.ref f) ∧ FOk G X pg F (j + 1) g f
  | .cls n => ∃ C f g, X.mg x = some (.ref C) ∧ pg.ini n = some g ∧ ClOk G X pg F j n C g f
  | .xcl n => ∃ C, X.mg x = some (.ref C) ∧ G.ca n = some C ∧ ∀ fs, pg.xfs n = some fs → XiOk G X C fs
  | .bf b => X.mg x = none ∧ bootBuiltins x = some (bv b)
  | .ty s => X.mg x = none ∧ bootBuiltins x = some (.type s)
  | .cst w => ∃ v u, X.mg x = some u ∧ L2.RelV v u ∧ ∀ ρ H, RV G ρ H w v
  | .rng => X.mg x = none
  | .enm => X.mg x = none
  | .met hs => MetOk G pg X.K X.mg x hs
structure Wd (G : Gx) (tc : Tc) (pg : Pg) (F j : Nat) (X : L2.Cx) : Prop where
  K : X.K = G.K
  N : X.N = tc.N
  nd : X.N.Nodup
  calm : X.calm = true
  room : L2.Room (j + 1) X.A
  gl : ∀ x g, tc.gl.lookup x = some g → GrOk G X pg F j x g
  mt : ∀ m, MOk G X pg F (j + 1) m
  bn : BnOk G
  at_ : ∀ x f, tc.at_.lookup x = some f → f < G.nn ∧ G.an f = x
  na : ∀ f k C, G.ca k = some C → pg.na k f = true → f < G.nn → L2.NoAttr G.K C (G.an f)
/-- what the bodies of lambdas lean on -/
def LamOk (G : Gx) (tc : Tc) (pg : Pg) (F j : Nat) (X : L2.Cx) (l : Lf) : Prop := ∃ i, j = i + 2 ∧ l = ⟨run pg F (i + 1), run pg F i⟩ ∧ (∀ x g, tc.gl.lookup x = some g → GrOk G X pg F i x g) ∧ (∀ m, MOk G X pg F (i + 1) m) ∧
  ∃ cA P, X.env.code = .ref cA ∧ LamX.TabB X.base X.mg cA P ∧ (P, X.env.qual ++ "<lambda>") ∈ G.tb ∧ ∀ p ∈ G.tb, p.1 = P → p.2 = X.env.qual ++ "<lambda>"
/-- what asks for repr -/
structure RepOk (G : Gx) (tc : Tc) (pg : Pg) (F j : Nat) (X : L2.Cx) : Prop where
  fn : ∀ x g, tc.rg.lookup x = some g → X.A.guards = some [] ∧ ∃ f, G.fa g = some f ∧ X.mg x = some (.ref f) ∧ FOkG G X pg F (j + 1) g f
  rr : tc.rr = true → X.A.guards = some [] ∧ X.mg "repr" = none
theorem RepOk.none {G : Gx} {tc : Tc} {pg : Pg} {F j : Nat} {X : L2.Cx} (h1 : tc.rg = []) (h2 : tc.rr = false) : RepOk G tc pg F j X := ⟨fun x g e => (by rw [h1] at e; cases e), fun e => (by rw [h2] at e; cases e)⟩
structure Ctx (G : Gx) (tc : Tc) (pg : Pg) (F j : Nat) (X : L2.Cx) (Y : L2.WX) (c : Cf) (sc : Scope) (fb : Str → Bool) : Prop where
  wd : Wd G tc pg F j X
  sc : X.env.scope = sc
  fn : ∀ x, fb x = true → X.fn x = true
  tk : L2.Takes X Y
  pge : c.pg = pg
  cf : c.cf = run pg F (j + 1)
  cg : c.cg = run pg F j
  hx : ∀ l, c.hx = some l → 2 ≤ j
  lam : tc.lm = true → ∀ l, c.hx = some l → LamOk G tc pg F j X l
  rep : RepOk G tc pg F j X
variable {tc : Tc} {pg : Pg} {F j : Nat} {sc : Scope} {fb : Str → Bool}
theorem FOk.blk {k g : Nat} {f : Addr} {s H scope cenv fp} (h : FOk G X pg F k g f) : FOk G (X.blk s H scope cenv fp) pg F k g f := ⟨h.kp, h.ok⟩
theorem GrOk.blk {x : Str} {s H scope cenv fp} : ∀ {g : Gr}, GrOk G X pg F j x g → GrOk G (X.blk s H scope cenv fp) pg F j x g
  | .fn _, ⟨f, a, b, c⟩ => ⟨f, a, b, c.blk⟩
  | .cls _, ⟨C, f, g, a, b, c⟩ => ⟨C, f, g, a, b, ⟨c.ca, c.mkk, c.cl, c.fn.blk⟩⟩
  | .xcl _, ⟨C, a, b, q⟩ => ⟨C, a, b, fun fs e => ⟨(q fs e).lt, (q fs e).nd, (q fs e).le, (q fs e).xc, (q fs e).ini⟩⟩
  | .bf _, h => h
  | .ty _, h => h
  | .cst _, h => h
  | .rng, h => h
  | .enm, h => h
  | .met _, h => h
theorem FOk.lam {k g : Nat} {f : Addr} {A outer s H E scope f' c'} (h : FOk G X pg F k g f) : FOk G (LamX.lamCx X A outer s H E scope f' c') pg F k g f := ⟨h.kp, h.ok⟩
theorem GrOk.lam {x : Str} {A outer s H E scope f' c'} : ∀ {g : Gr}, GrOk G X pg F j x g → GrOk G (LamX.lamCx X A outer s H E scope f' c') pg F j x g
  | .fn _, ⟨f, a, b, c⟩ => ⟨f, a, b, c.lam⟩
  | .cls _, ⟨C, f, g, a, b, c⟩ => ⟨C, f, g, a, b, ⟨c.ca, c.mkk, c.cl, c.fn.lam⟩⟩
  | .xcl _, ⟨C, a, b, q⟩ => ⟨C, a, b, fun fs e => ⟨(q fs e).lt, (q fs e).nd, (q fs e).le, (q fs e).xc, (q fs e).ini⟩⟩
  | .bf _, h => h
  | .ty _, h => h
  | .cst _, h => h
  | .rng, h => h
  | .enm, h => h
  | .met _, h => h
theorem Wd.blk {s H scope cenv fp} (h : Wd G tc pg F j X) : Wd G tc pg F j (X.blk s H scope cenv fp) :=
  ⟨h.K, h.N, h.nd, h.calm, h.room, fun x g e => (h.gl x g e).blk, fun m => ⟨fun c C g e e' => let ⟨f, a, b⟩ := (h.mt m).ok c C g e e'; ⟨f, a, b.blk⟩⟩, h.bn, h.at_, h.na⟩
theorem Ctx.blk {s H scope cl C fp} (h : Ctx G tc pg F j X Y c sc fb) : Ctx G tc.nl pg F j (X.blk s H scope (compEnvC scope cl C X.env) fp) Y0 c (L2.relS scope sc) (fbOf scope) :=
  ⟨⟨h.wd.K, h.wd.N, h.wd.nd, h.wd.calm, h.wd.room, h.wd.blk.gl, h.wd.blk.mt, h.wd.bn, h.wd.at_, h.wd.na⟩, by rw [← h.sc]; rfl, fun x e => e, takes0, h.pge, h.cf, h.cg, h.hx, (fun e => by cases e), .none rfl rfl⟩
theorem Ctx.hu (h : Ctx G tc pg F j X Y c sc fb) : X.A.units + 65 < cLine := by have := h.wd.room.un; omega
theorem slot_ok {N : List Str} {x : Str} {i : Nat} (e : slot? N x = some i) : N[i]? = some x := by
  unfold slot? at e
  rw [List.findIdx?_eq_some_iff_getElem] at e
  obtain ⟨h1, h2, _⟩ := e
  rw [List.getElem?_eq_getElem h1]
  simp only [beq_iff_eq] at h2
  rw [h2]
theorem visOk {x : Str} (hs : X.env.scope = sc) (e : visB sc x = true) : L2.Vis X.env.scope x := by
  unfold visB at e
  rw [← hs] at e
  split at e
  · exact .inl (by assumption)
  · exact .inr (.inl (by assumption))
  · exact .inr (.inr (by assumption))
  · cases e
theorem locOk {x : Str} (hs : X.env.scope = sc) (hf : ∀ x, fb x = true → X.fn x = true) (e : locB sc fb x = true) : L2.Loc X.env.scope x ∧ (X.fn x = true ∨ X.env.scope.names.lookup x = some .local) := by
  unfold locB at e
  rw [← hs] at e
  split at e
  · exact ⟨.inl (by assumption), .inr (by assumption)⟩
  · exact ⟨.inr (by assumption), .inl (hf _ e)⟩
  · cases e
theorem glOk {x : Str} {g : Gr} (hs : X.env.scope = sc) (e : gr? tc sc x = some g) : L2.Gl X x ∧ tc.gl.lookup x = some g := by
  unfold gr? at e
  cases q : glbB sc x with
  | false => rw [q] at e; cases e
  | true =>
    rw [q] at e
    refine ⟨?_, e⟩
    unfold glbB at q
    rw [← hs] at q
    split at q
    · assumption
    · cases q
theorem rgOk {x : Str} {g : Nat} (hs : X.env.scope = sc) (e : rg? tc sc x = some g) : L2.Gl X x ∧ tc.rg.lookup x = some g := by
  unfold rg? at e
  cases q : glbB sc x with
  | false => rw [q] at e; cases e
  | true =>
    rw [q] at e
    refine ⟨?_, e⟩
    unfold glbB at q
    rw [← hs] at q
    split at q
    · assumption
    · cases q
theorem rrOk {x : Str} (hs : X.env.scope = sc) (e : rr? tc sc x = true) : L2.Gl X x ∧ tc.rr = true ∧ x = ("repr" : Str) := by
  unfold rr? at e
  rw [Bool.and_eq_true, Bool.and_eq_true] at e
  obtain ⟨⟨q, h1⟩, h2⟩ := e
  refine ⟨?_, h1, beq_iff_eq.mp h2⟩
  unfold glbB at q
  rw [← hs] at q
  split at q
  · assumption
  · cases q
theorem okName_ok {x : Str} (e : okName x = true) : (x == ("__debug__" : Str)) = false ∧ (x == ("__classdict__" : Str)) = false ∧ x ≠ "__name__" := by
  unfold okName at e
  simp only [Bool.and_eq_true, bne_iff_ne, ne_eq] at e
  exact ⟨by simpa using e.1.1, by simpa using e.1.2, e.2⟩
theorem pe_bad {e : Expr} : L2.PE X e (tev G Y c .bad) := by
  refine ⟨fun pins s σ H Q I hh => ?_⟩
  obtain ⟨ρ, h, τ, R, S, p⟩ := hh
  simp only [evE] at p; exact p.elim
theorem pt_bad {e : Expr} : L2.PT X e (tet G Y c .bad) := by
  refine ⟨fun pins s σ H Q I hh => ?_⟩
  obtain ⟨ρ, h, τ, R, S, p⟩ := hh
  simp only [evE] at p; exact p.elim
theorem pg_bad {e : Expr} {V : Nat → Bool} : L2.PG X e (ttg G Y c V .bad) := by
  refine ⟨fun pins s σ H v u K I r hh => ?_⟩
  obtain ⟨ρ, h, τ, w, R, S, rv, p⟩ := hh
  simp only [evT] at p; exact p.elim
theorem pi_bad {t e : Expr} : L2.PI X t e (tin G Y c .bad) := by
  refine ⟨fun pins s σ H K I hh => ?_⟩
  obtain ⟨ρ, h, τ, R, S, p⟩ := hh
  simp only [evI] at p; exact p.elim
structure Hyp (G : Gx) (pg : Pg) (F n : Nat) : Prop where
  pe : ∀ {tc j X Y c sc fb} (e : Expr), Ctx G tc pg F j X Y c sc fb → L2.PE X e (tev G Y c (trE tc n sc fb e))
  pt : ∀ {tc j X Y c sc fb} (e : Expr), Ctx G tc pg F j X Y c sc fb → L2.PT X e (tet G Y c (trE tc n sc fb e))
  pw : ∀ {tc j X Y c sc fb} (o : BoolOp) (es : List Expr) (p : Pos), Ctx G tc pg F j X Y c sc fb → L2.PW X (.BoolOp o es p) (tet G Y c (trE tc n sc fb (.BoolOp o es p)))
  tg : ∀ {tc j X Y c sc fb} (V : Nat → Bool) (e : Expr), Ctx G tc pg F j X Y c sc fb → L2.PG X e (ttg G Y c V (trT tc V n sc fb e))
  pi : ∀ {tc j X Y c sc fb} (t e : Expr), Ctx G tc pg F j X Y c sc fb → L2.PI X t e (tin G Y c (trI tc n sc fb t e))
theorem pa_all {f : Expr → E} (hf : ∀ e, L2.PE X e (tev G Y c (f e))) : ∀ es : List Expr, es.all nsE = true → L2.PA X es (tes G Y c (trEs f es))
  | [], _ => pa_nil
  | e :: es, hs => by
    rw [List.all_cons, Bool.and_eq_true] at hs
    exact pa_cons hs.1 (hf e) (pa_all hf es hs.2)
theorem trEs_nil {f : Expr → E} {es : List Expr} (h : es = []) : trEs f es = .nil := by subst h; rfl
theorem trEs_cons {f : Expr → E} {es : List Expr} (h : es ≠ []) : trEs f es ≠ .nil := by cases es <;> simp [trEs] at *
theorem trEs_len {f : Expr → E} : ∀ (es : List Expr) τ h ws h1, evEs c (trEs f es) τ h = .ok ws h1 → ws.length = es.length
  | [], τ, h, ws, h1, e => by simp only [trEs, evEs] at e; cases e; rfl
  | x :: es, τ, h, ws, h1, e => by
    simp only [trEs, evEs] at e
    cases e1 : evE c (f x) τ h with
    | no => rw [e1] at e; cases e
    | ex _ _ => rw [e1] at e; cases e
    | ok w h2 =>
      rw [e1] at e
      change ((evEs c (trEs f es) τ h2).b fun xs h => R.ok (w :: xs) h) = _ at e
      cases e2 : evEs c (trEs f es) τ h2 with
      | no => rw [e2] at e; cases e
      | ex _ _ => rw [e2] at e; cases e
      | ok ws2 h3 =>
        rw [e2] at e
        cases e
        rw [List.length_cons, List.length_cons, trEs_len es _ _ _ _ e2]
theorem pps_all {f : Expr → E} (hf : ∀ e, L2.PE X e (tev G Y c (f e))) {pos : Pos} : ∀ {ks : List (Option Expr)} {vs : List Expr} {r : List (E × E)}, trPs f ks vs = some r → L2.PPs X pos ks vs (trsOf G Y c r)
  | [], [], r, e => by simp only [trPs, Option.some.injEq] at e; subst e; exact L2.pps_nil
  | some k :: ks, v :: vs, r, e => by
    unfold trPs at e
    split at e
    · rename_i q e1
      cases e
      exact L2.pps_cons (hf k) (hf v) (pps_all hf e1)
    · cases e
  | [], _ :: _, r, e => by simp [trPs] at e
  | some _ :: _, [], r, e => by simp [trPs] at e
  | none :: _, _, r, e => by simp [trPs] at e
theorem own_snd : ∀ (own : List (Str × Nat)) (j : Nat), inL (own.map (·.2)) j = true → j ∈ own.map (·.2) := fun own j e => by
  unfold inL at e
  rw [List.any_eq_true] at e
  obtain ⟨x, hx, q⟩ := e
  have := Nat.eq_of_beq_eq_true q
  subst this; exact hx
theorem pe_name (C : Ctx G tc pg F j X Y c sc fb) {n : Nat} {x : Str} {pos : Pos} : L2.PE X (.Name x pos) (tev G Y c (trE tc (n + 1) sc fb (.Name x pos))) := by
  simp only [trE]
  cases h1 : okName x with
  | false => exact pe_bad
  | true =>
    obtain ⟨d1, d2, d3⟩ := okName_ok h1
    cases h2 : visB sc x with
    | true =>
      simp only [cond_true]
      split
      · rename_i i e
        exact pe_slot (by rw [C.wd.N]; exact slot_ok e) (visOk C.sc h2) d1 d2
      · exact pe_bad
    | false =>
      simp only [cond_true, cond_false]
      split
      · rename_i g e
        obtain ⟨hg, l⟩ := glOk C.sc e
        obtain ⟨f, a, b, _⟩ := C.wd.gl x _ l
        exact pe_cst (v := .ref f) (fun ρ H => by simp only [RV]; exact ⟨f, rfl, a⟩) (L2.pe_glob hg b rfl d1)
      · rename_i g e
        obtain ⟨hg, l⟩ := glOk C.sc e
        obtain ⟨K, f, g, a, b, q⟩ := C.wd.gl x _ l
        exact pe_cst (v := .ref K) (fun ρ H => by simp only [RV]; exact ⟨K, rfl, q.ca⟩) (L2.pe_glob hg a rfl d1)
      · rename_i s e
        obtain ⟨hg, l⟩ := glOk C.sc e
        obtain ⟨a, b⟩ := C.wd.gl x _ l
        exact pe_cst (v := .ty s) (fun ρ H => by simp only [RV]) (L2.pe_bltn hg a b rfl d3 d1)
      · rename_i w e
        obtain ⟨hg, l⟩ := glOk C.sc e
        obtain ⟨v, u, a, b, q⟩ := C.wd.gl x _ l
        exact pe_cst (v := v) q (L2.pe_glob hg a b d1)
      · exact pe_bad
theorem pe_const {n : Nat} {k : Const} {j' : Nat} {pos : Pos} : L2.PE X (.Constant k j' pos) (tev G Y c (trE tc (n + 1) sc fb (.Constant k j' pos))) := by
  simp only [trE]
  split
  · exact pe_cst (fun ρ H => by simp only [RV]) L2.pe_non
  · exact pe_cst (fun ρ H => by simp only [RV]) L2.pe_bl
  · exact pe_cst (fun ρ H => by simp only [RV]) L2.pe_int
  · rename_i s
    exact pe_cst (v := .str s) (fun ρ H => by simp only [RV]) L2.pe_str
  · exact pe_bad
theorem bf_ty {s : String} {b : Bf} (e : bfTy s = some b) : (Value.type s) = bv b ∧ (match b with | .sorted | .repr => False | _ => True) := by
  unfold bfTy at e
  split at e
  · rename_i q; subst q; cases e; exact ⟨rfl, trivial⟩
  · split at e
    · rename_i q; subst q; cases e; exact ⟨rfl, trivial⟩
    · split at e
      · rename_i q; subst q; cases e; exact ⟨rfl, trivial⟩
      · split at e
        · rename_i q; subst q; cases e; exact ⟨rfl, trivial⟩
        · split at e
          · rename_i q; subst q; cases e; exact ⟨rfl, trivial⟩
          · cases e
theorem pe_bfAll (C : Ctx G tc pg F j X Y c sc fb) {b : Bf} (hb : b ≠ .repr) {x : Str} {p pos : Pos} {e : Expr} {es : List Expr} {as : Es} (hg : L2.Gl X x) (hm : X.mg x = none) (hv : bootBuiltins x = some (bv b)) (ha : L2.PA X (e :: es) (tes G Y c as))
    (hn : x ≠ "__name__") (hd : (x == ("__debug__" : Str)) = false) (hs : (e :: es).all nsE = true) : L2.PE X (.Call (.Name x p) (e :: es) [] pos) (tev G Y c (.bfn b as)) := by
  by_cases h : b = .sorted
  · subst h
    exact pe_sorted C.wd.K C.wd.calm hg hm hv ha hn hd hs
  · exact pe_bfn C.wd.K C.wd.calm (by cases b <;> first | exact absurd rfl h | exact absurd rfl hb | exact trivial) hg hm hv ha hn hd hs
theorem metF_ok {fs : List (Nat × W)} {ys : List (Str × LV)} (hf : ∀ f w, getF f fs = some w → f < G.nn ∧ ∃ x, ys.lookup (G.an f) = some x ∧ RV G ρ H w x) : ∀ {ms : List MF} {ws : List W}, metF fs ms = some ws → ∃ vs, mfVs G ys ms = some vs ∧ RVs G ρ H ws vs
  | [], ws, e => by cases e; exact ⟨[], rfl, .nil⟩
  | m :: ms, ws, e => by
    unfold metF at e
    split at e
    · rename_i w ws' e1 e2
      cases e
      obtain ⟨vs, e3, r⟩ := metF_ok hf e2
      have : ∃ v, mfV G ys m = some v ∧ RV G ρ H w v := by
        cases m with
        | cst u =>
          cases u with
          | str s => cases e1; exact ⟨_, rfl, by simp only [RV]⟩
          | _ => cases e1
        | fld f => obtain ⟨_, x, q1, q2⟩ := hf f w e1; exact ⟨x, q1, q2⟩
      obtain ⟨v, e4, rv⟩ := this
      exact ⟨v :: vs, by unfold mfVs; rw [e4, e3], .cons rv r⟩
    · cases e
theorem metH_ok {K : PySem.W.Frag} {k : Nat} {fs : List (Nat × W)} {C dd : Addr} {ys : List (Str × LV)} (hca : G.ca k = some C) (hd : H dd = some (.xd ys)) (hf : ∀ f w, getF f fs = some w → f < G.nn ∧ ∃ x, ys.lookup (G.an f) = some x ∧ RV G ρ H w x) (R : Rep G ρ h H) :
    ∀ {hs : List Mh}, (∀ m ∈ hs, ∃ C', G.ca m.c = some C' ∧ PySem.W.exmOne K (.ref C) (.ref C') = some (Nat.beq k m.c || pg.xsub k m.c)) → Post G Y σ ρ H (Wants Q G) (metH pg k fs h hs) → wMet G K Q hs (.ref C) (some dd) H
  | [], _, p => p.elim
  | m :: ms, sub, p => by
    obtain ⟨C', e1, e2⟩ := sub m List.mem_cons_self
    unfold metH at p
    refine ⟨C', _, e1, e2, fun hb => ?_, fun hb => ?_⟩
    · cases hk : Nat.beq k m.c with
      | true =>
        have := Nat.eq_of_beq_eq_true hk
        subst this
        rw [hca] at e1; cases e1
        rw [hk] at p
        simp only [cond_true] at p
        split at p
        · rename_i ws ew
          obtain ⟨vs, e3, r⟩ := metF_ok hf ew
          refine ⟨rfl, dd, ys, vs, rfl, hd, e3, fun q nq => ?_⟩
          obtain ⟨R2, t2⟩ := R.aside (o := .tup vs) nq
          exact p ρ _ t2 R2 (.ref q) (by simp only [RV]; exact ⟨q, vs, rfl, L2.upd_same, r.to t2 R⟩)
        · exact p.elim
      | false =>
        rw [hk, Bool.false_or] at hb
        rw [hk, hb] at p
        exact p.elim
    · rw [Bool.or_eq_false_iff] at hb
      rw [hb.1, hb.2] at p
      exact metH_ok hca hd hf R (fun m hm => sub m (List.mem_cons_of_mem _ hm)) p
theorem pe_metE (C : Ctx G tc pg F j X Y c sc fb) {n : Nat} (hyp : Hyp G pg F n) {x : Str} {px lp pos : Pos} {params : Arguments} {body : Expr} {scope : Scope} : L2.PE X (.Call (.Name x px) [.Lambda params body scope lp] [] pos) (tev G Y c (bif okName x && tc.lm && noPar params && LamX.lamSB sc scope then (match gr? tc sc x with
          | some (.met hs) => .met hs (trE tc.nl n scope (fun _ => false) body)
          | _ => .bad) else .bad)) := by
  cases hb : okName x && tc.lm && noPar params && LamX.lamSB sc scope with
  | false => exact pe_bad
  | true =>
    rw [Bool.and_eq_true, Bool.and_eq_true, Bool.and_eq_true] at hb
    obtain ⟨⟨⟨hx, hlm⟩, hpar⟩, hL⟩ := hb
    simp only [cond_true]
    split
    · rename_i hs e
      obtain ⟨hg, l⟩ := glOk C.sc e
      obtain ⟨g, a, Ng, pa, sg, dV, kV, doc, pm, cdv, ct, oc, an, od, osl, h₀, hds, p1, p2, p3, p4, m1, m2, m3, m4, m5, m6, m7, m8, m9, m10, m11⟩ := C.wd.gl x _ l
      refine ⟨fun pins s σ H Q I hh => ?_⟩
      obtain ⟨ρ, h, τ, R, S, p⟩ := hh
      simp only [evE] at p
      cases hc : c.hx with
      | none => rw [hc] at p; exact p.elim
      | some lf =>
        rw [hc] at p
        obtain ⟨i, rfl, rfl, gl', mt', cA, P, hcode, TB, hmT, hu⟩ := C.lam hlm lf hc
        have L : LamX.LamS X.env.scope scope := by rw [C.sc]; exact LamX.lamS_by hL
        have nd := m6.nd
        have start0 : ∀ f : Addr, (L2.start Ng [L2.V.ref f])[0]? = some (some (L2.V.ref f)) := fun f => by
          cases Ng with
          | nil => simp at m7
          | cons y ys => rfl
        obtain ⟨pA, pB, pC, pD, pE, pF, pG⟩ := params
        have hpar' : (⟨pA, pB, pC, pD, pE, pF, pG⟩ : Arguments) = ⟨[], [], none, [], [], none, []⟩ := by
          unfold noPar at hpar
          split at hpar
          · assumption
          · cases hpar
        rw [hpar']
        refine (LamX.pe_lamcall (T := G.tb) (TT := TMet G X.K hs) (k := i + 1) (t := fun E => tev G (fun cls d _ H => E cls d H) (c.lam ⟨run pg F (i + 1), run pg F i⟩) (trE tc.nl n scope (fun _ => false) body)) hg m1 m2 m3 m4 m5 m6 m7 m8 (met_gives nd m10 start0) TB hcode hmT hu C.wd.room L rfl (fun q cl pm cv ctv => rfl) (fun A outer s H E f c' hr => ?_) (okName_ok hx).1 (okName_ok m9).1 (okName_ok m9).2.1).run pins s σ H Q I ⟨R.tabs, fun H1 eN T1 => ?_⟩
        · refine hyp.pe (tc := tc.nl) (j := i) body ⟨⟨C.wd.K, C.wd.N, C.wd.nd, rfl, hr, fun x g e => (gl' x g e).lam, fun m => ⟨fun c C g e e' => let ⟨f, a, b⟩ := (mt' m).ok c C g e e'; ⟨f, a, b.lam⟩⟩, C.wd.bn, C.wd.at_, C.wd.na⟩, rfl, fun _ z => (by cases z), L2.takes_of rfl rfl rfl rfl, C.pge, rfl, rfl, fun l z => (by cases z), (fun z => (by cases z)), .none rfl rfl⟩
        · have tH : To ρ H ρ H1 := ⟨List.prefix_refl _, fun b o e _ z => eN b o e (fun ps q => by subst q; cases z), fun b hb n => absurd hb n⟩
          have R1 : Rep G ρ h H1 := ⟨R.len, R.nd, fun i b e => (by
            obtain ⟨o, g1, ro⟩ := R.ob i b e
            refine ⟨o, g1, ro.mono (List.prefix_refl _) (tH.tk R) fun u q => eN b u q fun ps z => ?_⟩
            subst z
            exact absurd (List.mem_of_getElem? e) (R.not_ot q rfl)), T1⟩
          have p1 := p.shift tH
          refine ⟨ρ, h, τ, R1, S.to tH R, ?_⟩
          revert p1
          show Post G Y σ ρ H1 (Wants Q G) (metR c.pg hs (evE (c.lam ⟨run pg F (i + 1), run pg F i⟩) (trE tc.nl n scope (fun _ => false) body) τ h)) → _
          generalize evE (c.lam ⟨run pg F (i + 1), run pg F i⟩) (trE tc.nl n scope (fun _ => false) body) τ h = r
          cases r with
          | no => exact fun p => p.elim
          | ok w h1 => exact fun p => p
          | ex xn h1 =>
            intro p ρ2 H2 cl d t2 R2 rx
            have p2 : Post G Y σ ρ2 H2 (Wants Q G) (metX c.pg hs h1 xn) := Post.shift (x := metX c.pg hs h1 xn) p t2
            obtain ⟨k, fs⟩ := xn
            simp only [metX] at p2
            split at p2
            · rename_i f0 fs0 ex
              obtain ⟨C0, e1, rfl, q⟩ := rx
              rcases q with q | ⟨dd, ys, rfl, e2, hf⟩
              · cases q
              · rw [C.pge] at p2 ex
                exact metH_ok e1 e2 hf R2 (fun m hm => m11 k _ _ ex e1 m hm) p2
            · exact p2.elim
    · exact pe_bad
theorem pe_call (C : Ctx G tc pg F j X Y c sc fb) {n : Nat} (hyp : Hyp G pg F n) {f : Expr} {es : List Expr} {kw : List Keyword} {pos : Pos} : L2.PE X (.Call f es kw pos) (tev G Y c (trE tc (n + 1) sc fb (.Call f es kw pos))) := by
  simp only [trE]
  split
  · split
    · rename_i x px params body scope lp
      exact pe_metE C hyp
    · cases hs : es.all nsE with
      | false => exact pe_bad
      | true =>
        have pa := pa_all (fun e => hyp.pe e C) es hs
        simp only [cond_true]
        split
        · rename_i x p hno
          cases h1 : okName x with
          | false => exact pe_bad
          | true =>
            obtain ⟨d1, d2, d3⟩ := okName_ok h1
            simp only [cond_true]
            split
            · rename_i g e
              obtain ⟨hg, l⟩ := rgOk C.sc e
              obtain ⟨hgu, f, a, b, F0⟩ := C.rep.fn x _ l
              exact pe_calG F0 hgu C.wd.room C.tk (by rw [C.cf]) hg b pa d1 hs trEs_nil
            cases hrr : rr? tc sc x with
            | true =>
              simp only [cond_true]
              split
              · obtain ⟨hg, q1, q2⟩ := rrOk C.sc hrr
                subst q2
                obtain ⟨hgu, hm⟩ := C.rep.rr q1
                exact pe_repr C.wd.K hgu (by have := C.wd.room.un; omega) hg hm rfl pa d3 d1 hs
              · exact pe_bad
            | false =>
            simp only [cond_false]
            split
            · rename_i g e
              obtain ⟨hg, l⟩ := glOk C.sc e
              obtain ⟨f, a, b, F0⟩ := C.wd.gl x _ l
              exact pe_cal F0 C.wd.room C.tk (by rw [C.cf]) hg b pa d1 hs trEs_nil
            · rename_i k e
              obtain ⟨hg, l⟩ := glOk C.sc e
              obtain ⟨K, f, g, a, b, M⟩ := C.wd.gl x _ l
              exact pe_new M C.wd.room C.tk (by rw [C.pge]; exact b) (by rw [C.cg]) hg a pa d1 hs trEs_nil
            · rename_i b e
              obtain ⟨hg, l⟩ := glOk C.sc e
              obtain ⟨a, b'⟩ := C.wd.gl x _ l
              split
              · exact pe_bad
              · rename_i hb
                split
                · exact pe_bad
                · cases es with
                  | nil => rename_i hne; exact absurd rfl hne
                  | cons e0 es => exact pe_bfAll C (fun z => hb z) hg a b' pa d3 d1 hs
            · rename_i s e
              obtain ⟨hg, l⟩ := glOk C.sc e
              obtain ⟨a, b'⟩ := C.wd.gl x _ l
              split
              · rename_i b eb
                obtain ⟨q1, q2⟩ := bf_ty eb
                split
                · exact pe_bad
                · cases es with
                  | nil => rename_i hne; exact absurd rfl hne
                  | cons e0 es => exact pe_bfAll C (fun z => by subst z; exact q2) hg a (by rw [b', q1]) pa d3 d1 hs
              · exact pe_bad
            · exact pe_bad
        · rename_i a f ap hno
          cases hb : okBase a && (ap.endLine == pos.line) && sizeOk es.length with
          | false => exact pe_bad
          | true =>
            simp only [cond_true]
            rw [Bool.and_eq_true, Bool.and_eq_true] at hb
            split
            · rename_i m e
              obtain ⟨q1, rfl⟩ := C.wd.at_ f m e
              refine pe_mth C.wd.K C.wd.bn (C.wd.mt m) C.wd.room C.tk C.pge C.cf hb.1.1 hb.1.2 hs ?_ trEs_nil trEs_cons (hyp.pe a C) pa
              have := hb.2
              unfold sizeOk at this
              have : es.length ≤ 19 := by simpa [Nat.blt] using this
              omega
            · exact pe_bad
        · exact pe_bad
  · exact pe_bad
theorem folded_pure {e : Expr} {env : Env} (h : setE e = true) (x : Value) : foldedSetIterable e env x = pure x := by
  cases e <;> first | rfl | cases h
theorem trI_set {n : Nat} {t e : Expr} (h : setE e = false) : trI tc n sc fb t e = .bad := by
  cases n with
  | zero => simp only [trI]
  | succ n => cases e <;> first | (simp only [trI]; done) | (simp [setE] at h)
theorem post_bad {α : Type} {P : α → Hp → List Addr → LH → Prop} {t : E} {f : Sq → Hp → TX.R α} : ¬ Post G Y σ ρ H P ((evI c .bad τ h).b f) := by
  simp only [evI]; exact fun p => p
theorem pe_listcomp (C : Ctx G tc pg F j X Y c sc fb) {n : Nat} (hyp : Hyp G pg F n) {e : Expr} {gs : List Comprehension} {scope : Scope} {pos : Pos} : L2.PE X (.ListComp e gs scope pos) (tev G Y c (trE tc (n + 1) sc fb (.ListComp e gs scope pos))) := by
  simp only [trE]
  split
  · rename_i t i ifs as
    by_cases h0 : as = 0
    · subst h0
      simp only [decide_true, cond_true]
      split
      · rename_i own e1
        cases hb : L2.blkC tc.N sc scope own with
        | false => exact pe_bad
        | true =>
          simp only [cond_true]
          by_cases hset : setE i = true
          · have ok : L2.BlkOk X.N X.env.scope scope own := by rw [C.wd.N, C.sc]; exact L2.blkOk_by hb
            refine pe_lc (V := inL (own.map (·.2))) (fun j e => own_snd own j e) C.wd.calm C.wd.nd (hyp.pi t i C) ok (fun s H K cl fp => hyp.tg _ t C.blk) (fun s H K cl fp => ?_) (fun s H K cl fp => hyp.pe e C.blk) (folded_pure hset)
            split
            · exact pcs_nil
            · exact pcs_one (hyp.pt _ C.blk)
            · refine ⟨fun pins s σ H Q I hh => ?_⟩
              obtain ⟨ρ, h, τ, R, S, p⟩ := hh
              simp only [evC, evE] at p; exact p.elim
          · refine ⟨fun pins s σ H Q I hh => ?_⟩
            obtain ⟨ρ, h, τ, R, S, p⟩ := hh
            rw [trI_set (by simpa using hset)] at p
            simp only [evE] at p
            exact (post_bad (t := .bad) p).elim
      · exact pe_bad
    · rw [decide_eq_false h0]; exact pe_bad
  · exact pe_bad
theorem pe_dictcomp (C : Ctx G tc pg F j X Y c sc fb) {n : Nat} (hyp : Hyp G pg F n) {k v : Expr} {gs : List Comprehension} {scope : Scope} {pos : Pos} : L2.PE X (.DictComp k v gs scope pos) (tev G Y c (trE tc (n + 1) sc fb (.DictComp k v gs scope pos))) := by
  simp only [trE]
  split
  · rename_i t i as
    by_cases h0 : as = 0
    · subst h0
      simp only [decide_true, cond_true]
      split
      · rename_i own e1
        cases hb : L2.blkC tc.N sc scope own with
        | false => exact pe_bad
        | true =>
          simp only [cond_true]
          by_cases hset : setE i = true
          · have ok : L2.BlkOk X.N X.env.scope scope own := by rw [C.wd.N, C.sc]; exact L2.blkOk_by hb
            exact pe_dc (V := inL (own.map (·.2))) (fun j e => own_snd own j e) C.wd.calm C.wd.nd (hyp.pi t i C) ok (fun s H K cl fp => hyp.tg _ t C.blk) (fun s H K cl fp => hyp.pe k C.blk) (fun s H K cl fp => hyp.pe v C.blk) (folded_pure hset)
          · refine ⟨fun pins s σ H Q I hh => ?_⟩
            obtain ⟨ρ, h, τ, R, S, p⟩ := hh
            rw [trI_set (by simpa using hset)] at p
            simp only [evE] at p
            exact (post_bad (t := .bad) p).elim
      · exact pe_bad
    · rw [decide_eq_false h0]; exact pe_bad
  · exact pe_bad
theorem pe_subscript (C : Ctx G tc pg F j X Y c sc fb) {n : Nat} (hyp : Hyp G pg F n) {a i : Expr} {pos : Pos} : L2.PE X (.Subscript a i pos) (tev G Y c (trE tc (n + 1) sc fb (.Subscript a i pos))) := by
  have ho : ∀ o : Option Expr, L2.PO X o (tpo G Y c (match o with
          | none => .non
          | some e => .som (trE tc n sc fb e))) := fun o => by
    cases o with
    | none => exact po_non
    | some e => exact po_som (hyp.pe e C)
  simp only [trE]
  split
  · rename_i lo hi st p
    split
    · exact pe_sl C.wd.K (hyp.pe a C) (ho lo) (ho hi)
    · split
      · exact pe_rev C.wd.K (hyp.pe a C)
      · exact pe_bad
    · exact pe_bad
  · cases hp : plainE i with
    | false => exact pe_bad
    | true => exact pe_ix C.wd.K C.hu hp (hyp.pe a C) (hyp.pe i C)
theorem pe_compare (C : Ctx G tc pg F j X Y c sc fb) {n : Nat} (hyp : Hyp G pg F n) {a : Expr} {os : List CmpOp} {bs : List Expr} {pos : Pos} : L2.PE X (.Compare a os bs pos) (tev G Y c (trE tc (n + 1) sc fb (.Compare a os bs pos))) ∧ L2.PT X (.Compare a os bs pos) (tet G Y c (trE tc (n + 1) sc fb (.Compare a os bs pos))) := by
  simp only [trE]
  split
  · rename_i o b
    cases hm : behindInMarks o b with
    | true => exact ⟨pe_bad, pt_bad⟩
    | false =>
      have hm' : behindInMarks (co (co? o)) b = false := by rw [co_co]; exact hm
      have e1 := pe_cmpE (pos := pos) C.wd.K C.hu hm' (hyp.pe a C) (hyp.pe b C)
      have e2 := pt_cmpE (pos := pos) C.wd.K C.hu hm' (hyp.pe a C) (hyp.pe b C)
      rw [co_co] at e1 e2
      exact ⟨e1, e2⟩
  · rename_i o o' b d
    cases hm : lastMarks [o, o'] [b, d] with
    | true => exact ⟨pe_bad, pt_bad⟩
    | false =>
      have hm' : lastMarks [co (co? o), co (co? o')] [b, d] = false := by rw [co_co, co_co]; exact hm
      have e1 := pe_chn (pos := pos) C.wd.K C.hu hm' (hyp.pe a C) (hyp.pe b C) (hyp.pe d C)
      have e2 := pt_chn (pos := pos) C.wd.K C.hu hm' (hyp.pe a C) (hyp.pe b C) (hyp.pe d C)
      rw [co_co, co_co] at e1 e2
      exact ⟨e1, e2⟩
  · exact ⟨pe_bad, pt_bad⟩
theorem pe_boolop (C : Ctx G tc pg F j X Y c sc fb) {n : Nat} (hyp : Hyp G pg F n) {o : BoolOp} {es : List Expr} {pos : Pos} : L2.PE X (.BoolOp o es pos) (tev G Y c (trE tc (n + 1) sc fb (.BoolOp o es pos))) := by
  simp only [trE]
  split
  · exact pe_bad
  · exact L2.pe_one (hyp.pe _ C)
  · split
    · exact pe_and C.wd.K (hyp.pe _ C) (hyp.pe _ C)
    · exact pe_or C.wd.K (hyp.pe _ C) (hyp.pe _ C)
theorem pw_bad {e : Expr} : L2.PW X e (tet G Y c .bad) := by
  refine ⟨fun wh pins s σ H Q I hh => ?_⟩
  obtain ⟨ρ, h, τ, R, S, p⟩ := hh
  simp only [evE] at p; exact p.elim
theorem pw_boolop (C : Ctx G tc pg F j X Y c sc fb) {n : Nat} (hyp : Hyp G pg F n) {o : BoolOp} {es : List Expr} {pos : Pos} : L2.PW X (.BoolOp o es pos) (tet G Y c (trE tc (n + 1) sc fb (.BoolOp o es pos))) := by
  simp only [trE]
  split
  · exact pw_bad
  · cases o with
    | And => exact L2.pw_and1 (hyp.pt _ C)
    | Or => exact L2.pw_or1 (hyp.pt _ C)
  · split
    · exact pw_and (hyp.pt _ C) (hyp.pw _ _ _ C)
    · exact pw_or (hyp.pt _ C) (hyp.pw _ _ _ C)
theorem pe_all (C : Ctx G tc pg F j X Y c sc fb) {n : Nat} (hyp : Hyp G pg F n) (e : Expr) : L2.PE X e (tev G Y c (trE tc (n + 1) sc fb e)) := by
  cases e with
  | Name x pos => exact pe_name C
  | Constant k j' pos => exact pe_const
  | BoolOp o es pos => exact pe_boolop C hyp
  | Compare a os bs pos => exact (pe_compare C hyp).1
  | Call f es kw pos => exact pe_call C hyp
  | Subscript a i pos => exact pe_subscript C hyp
  | ListComp e gs scope pos => exact pe_listcomp C hyp
  | DictComp k v gs scope pos => exact pe_dictcomp C hyp
  | BinOp a o b pos =>
    simp only [trE]
    split
    · rename_i o' e
      rw [← bo_bo e]
      exact pe_bin C.wd.K (hyp.pe a C) (hyp.pe b C)
    · exact pe_bad
  | UnaryOp o a pos =>
    simp only [trE]
    split
    · exact pe_nt C.wd.K (hyp.pe a C)
    · exact pe_neg (hyp.pe a C)
    · exact pe_bad
  | IfExp d a b pos =>
    simp only [trE]
    exact pe_ite (hyp.pt d C) (hyp.pe a C) (hyp.pe b C)
  | Tuple es k pos =>
    simp only [trE]
    cases hs : es.all nsE with
    | false => exact pe_bad
    | true => exact pe_tup (pa_all (fun e => hyp.pe e C) es hs)
  | List es pos =>
    simp only [trE]
    cases hs : es.all nsE with
    | false => exact pe_bad
    | true => exact pe_lst (pa_all (fun e => hyp.pe e C) es hs)
  | Dict ks vs pos =>
    simp only [trE]
    split
    · split
      · cases tc.dt with
        | true => exact pe_dct0T
        | false => exact pe_dct0K
      · exact pe_bad
    · rename_i k ks
      cases hb : (k :: ks).all (·.isSome) && Nat.beq (k :: ks).length vs.length && Nat.ble (k :: ks).length 15 with
      | false => exact pe_bad
      | true =>
        rw [Bool.and_eq_true, Bool.and_eq_true] at hb
        simp only [cond_true]
        split
        · rename_i r e
          exact pe_dct (pps_all (fun e => hyp.pe e C) e) hb.1.1 (Nat.eq_of_beq_eq_true hb.1.2) (by simp) (Nat.le_of_ble_eq_true hb.2)
        · exact pe_bad
  | Attribute a f pos =>
    simp only [trE]
    cases hb : okBase a with
    | false => exact pe_bad
    | true =>
      simp only [cond_true]
      split
      · rename_i m e
        obtain ⟨q1, rfl⟩ := C.wd.at_ f m e
        exact pe_att q1 C.wd.K hb (hyp.pe a C)
      · exact pe_bad
  | _ => exact pe_bad
theorem pt_all (C : Ctx G tc pg F j X Y c sc fb) {n : Nat} (hyp : Hyp G pg F n) (e : Expr) : L2.PT X e (tet G Y c (trE tc (n + 1) sc fb e)) := by
  have gen := pe_all C hyp e
  cases e with
  | BoolOp o es pos => exact (pw_boolop C hyp).pt
  | Compare a os bs pos => exact (pe_compare C hyp).2
  | UnaryOp o a pos =>
    cases o with
    | Not =>
      simp only [trE]
      exact pt_nt (hyp.pt a C)
    | _ => exact pt_gen C.wd.K gen fun _ => rfl
  | IfExp d a b pos =>
    simp only [trE]
    exact pt_ite (hyp.pt d C) (hyp.pt a C) (hyp.pt b C)
  | _ => exact pt_gen C.wd.K gen fun _ => rfl
/-! ### targets -/
theorem quietE_ok {a : E} (h : quietE a = true) : ∀ τ h e h', evE c a τ h ≠ .ex e h' := by
  intro τ h' e h2 z
  cases a <;> simp [quietE] at h
  · simp only [evE] at z
    split at z <;> cases z
  · simp only [evE] at z; cases z
mutual
theorem quietT_ok : ∀ (t : T), quietT t = true → ∀ w τ h e h', evT c t w τ h ≠ .ex e h'
  | .bad, _, w, τ, h, e, h', z => by simp only [evT] at z; cases z
  | .nm i, _, w, τ, h, e, h', z => by simp only [evT] at z; cases z
  | .tp ts, q, w, τ, h, e, h', z => by
    simp only [evT] at z
    split at z
    · exact quietTs_ok ts q _ _ _ _ _ z
    · cases z
  | .sb a i, q, w, τ, h, e, h', z => by
    simp only [quietT, Bool.and_eq_true] at q
    simp only [evT] at z
    cases e1 : evE c a τ h with
    | no => rw [e1] at z; cases z
    | ex _ _ => exact quietE_ok q.1 _ _ _ _ e1
    | ok x h1 =>
      rw [e1] at z
      change ((evE c i τ h1).b fun y h => _) = _ at z
      cases e2 : evE c i τ h1 with
      | no => rw [e2] at z; cases z
      | ex _ _ => exact quietE_ok q.2 _ _ _ _ e2
      | ok y h2 =>
        rw [e2] at z
        dsimp only [TX.R.b] at z
        split at z <;> cases z
  | .at a f, q, w, τ, h, e, h', z => by
    simp only [quietT] at q
    simp only [evT] at z
    cases e1 : evE c a τ h with
    | no => rw [e1] at z; cases z
    | ex _ _ => exact quietE_ok q _ _ _ _ e1
    | ok x h1 =>
      rw [e1] at z
      dsimp only [TX.R.b] at z
      split at z <;> cases z
theorem quietTs_ok : ∀ (t : Ts), quietTs t = true → ∀ w τ h e h', evTs c t w τ h ≠ .ex e h'
  | .nil, _, w, τ, h, e, h', z => by
    simp only [evTs] at z
    split at z <;> cases z
  | .cons t ts, q, w, τ, h, e, h', z => by
    simp only [quietTs, Bool.and_eq_true] at q
    simp only [evTs] at z
    split at z
    · rename_i w ws
      cases e1 : evT c t w τ h with
      | no => rw [e1] at z; cases z
      | ex _ _ => exact quietT_ok t q.1 _ _ _ _ _ e1
      | ok τ1 h1 =>
        rw [e1] at z
        exact quietTs_ok ts q.2 _ _ _ _ _ z
    · cases z
end
theorem trTs_len {f : Expr → T} : ∀ (es : List Expr) ws τ h τ' h', evTs c (trTs f es) ws τ h = .ok τ' h' → ws.length = es.length
  | [], ws, τ, h, τ', h', e => by
    simp only [trTs, evTs] at e
    split at e
    · rfl
    · cases e
  | x :: es, ws, τ, h, τ', h', e => by
    simp only [trTs, evTs] at e
    split at e
    · rename_i w ws
      cases e1 : evT c (f x) w τ h with
      | no => rw [e1] at e; cases e
      | ex _ _ => rw [e1] at e; cases e
      | ok τ1 h1 =>
        rw [e1] at e
        rw [List.length_cons, List.length_cons, trTs_len es _ _ _ _ _ e]
    · cases e
theorem pgs_all {V : Nat → Bool} {f : Expr → T} (hf : ∀ e, L2.PG X e (ttg G Y c V (f e))) : ∀ (es : List Expr), es.all nsE = true → quietTs (trTs f es) = true → L2.PGs X es (tgs G Y c V (trTs f es))
  | [], _, _ => pgs_nil
  | e :: es, hs, hq => by
    rw [List.all_cons, Bool.and_eq_true] at hs
    simp only [trTs, quietTs, Bool.and_eq_true] at hq
    exact pgs_cons hs.1 (hf e) (pgs_all hf es hs.2 hq.2) (quietTs_ok _ hq.2)
theorem assignEach_len {env : Env} : ∀ (es : List Expr), es.all nsE = true → (assignEach es env).length = es.length ∧ (assignEach es env).findIdx? (·.1) = none
  | [], _ => ⟨rfl, rfl⟩
  | e :: es, hs => by
    rw [List.all_cons, Bool.and_eq_true] at hs
    obtain ⟨a, b⟩ := assignEach_len (env := env) es hs.2
    have : ∃ p, assignEach (e :: es) env = (false, p) :: assignEach es env := by
      cases e <;> first | exact ⟨_, rfl⟩ | (exact absurd hs.1 (by simp [nsE]))
    obtain ⟨p, q⟩ := this
    rw [q]
    refine ⟨by rw [List.length_cons, a, List.length_cons], ?_⟩
    rw [List.findIdx?_cons, b]
    rfl
theorem pg_all (C : Ctx G tc pg F j X Y c sc fb) {n : Nat} (hyp : Hyp G pg F n) (V : Nat → Bool) (e : Expr) : L2.PG X e (ttg G Y c V (trT tc V (n + 1) sc fb e)) := by
  cases e with
  | Name x pos =>
    simp only [trT]
    cases h1 : locB sc fb x with
    | false => exact pg_bad
    | true =>
      obtain ⟨l1, l2⟩ := locOk C.sc C.fn h1
      simp only [cond_true]
      split
      · rename_i i e
        cases hv : V i with
        | false => exact pg_bad
        | true => exact pg_nm hv C.wd.nd (by rw [C.wd.N]; exact slot_ok e) l1 l2
      · exact pg_bad
  | Tuple es k pos =>
    simp only [trT]
    cases hb : es.all nsE && quietTs (trTs (trT tc V n sc fb) es) with
    | false => exact pg_bad
    | true =>
      rw [Bool.and_eq_true] at hb
      obtain ⟨a, b⟩ := assignEach_len (env := X.env) es hb.1
      exact pg_tp C.wd.K C.wd.calm (pgs_all (fun e => hyp.tg V e C) es hb.1 hb.2) (trTs_len es) (quietTs_ok _ hb.2) a b
  | Subscript a i pos =>
    simp only [trT]
    cases hp : plainE i with
    | false => exact pg_bad
    | true => exact pg_sb C.wd.K C.hu hp (hyp.pe a C) (hyp.pe i C)
  | Attribute a f pos =>
    simp only [trT]
    split
    · rename_i m e
      obtain ⟨q1, rfl⟩ := C.wd.at_ f m e
      exact pg_at C.wd.K (na := c.pg.na) q1 (fun k C' e1 e2 => C.wd.na m k C' e1 (by rw [← C.pge]; exact e2) q1) (hyp.pe a C)
    · exact pg_bad
  | _ => exact pg_bad
theorem pi_all (C : Ctx G tc pg F j X Y c sc fb) {n : Nat} (hyp : Hyp G pg F n) (t e : Expr) : L2.PI X t e (tin G Y c (trI tc (n + 1) sc fb t e)) := by
  simp only [trI]
  split
  · rename_i x p es kw pos
    split
    · split
      · rename_i e
        obtain ⟨hg, l⟩ := glOk C.sc e
        have hm : X.mg x = none := C.wd.gl x _ l
        cases hb : es.all nsE && Nat.blt 0 es.length && Nat.ble es.length 3 && (x == ("range" : Str)) with
        | false => exact pi_bad
        | true =>
          rw [Bool.and_eq_true, Bool.and_eq_true, Bool.and_eq_true] at hb
          obtain ⟨⟨⟨h1, h2⟩, h3⟩, h4⟩ := hb
          have hx : x = "range" := by simpa using h4
          subst hx
          have h2' : 0 < es.length := by
            have : 1 ≤ es.length := by simpa [Nat.blt] using h2
            omega
          have h3' : es.length ≤ 3 := Nat.le_of_ble_eq_true h3
          exact pi_rng hg hm h1 (pa_all (fun e => hyp.pe e C) es h1) (by omega) (trEs_len es)
      · rename_i e
        obtain ⟨hg, l⟩ := glOk C.sc e
        have hm : X.mg x = none := C.wd.gl x _ l
        split
        · rename_i elts kk tpos a
          cases hb : nsE a && (x == ("enumerate" : Str)) with
          | false => exact pi_bad
          | true =>
            rw [Bool.and_eq_true] at hb
            have hx : x = "enumerate" := by simpa using hb.2
            subst hx
            exact pi_enm C.wd.K hg hm hb.1 (hyp.pe a C)
        · exact pi_bad
      · exact pi_ex C.wd.K (hyp.pe _ C)
    · exact pi_bad
  · exact pi_bad
  · exact pi_ex C.wd.K (hyp.pe _ C)
theorem hyp_all : ∀ n, Hyp G pg F n
  | 0 => ⟨fun e C => by simp only [trE]; exact pe_bad, fun e C => by simp only [trE]; exact pt_bad, fun o es p C => by simp only [trE]; exact pw_bad, fun V e C => by simp only [trT]; exact pg_bad, fun t e C => by simp only [trI]; exact pi_bad⟩
  | n + 1 => by
    have h := hyp_all n
    exact ⟨fun e C => pe_all C h e, fun e C => pt_all C h e, fun o es p C => pw_boolop C h, fun V e C => pg_all C h V e, fun t e C => pi_all C h t e⟩
end TX
end
section
set_option maxRecDepth 100000
set_option linter.unusedVariables false
/-! EvSt2: every translated statement is read as the reckoner reads it. -/
namespace TX
open PySem PySem.Spec PyProof.Rows
def compE : Expr → Bool
  | .ListComp .. | .SetComp .. | .DictComp .. => true
  | _ => false
def nameE : Expr → Bool
  | .Name .. => true
  | _ => false
def tupE : Expr → Bool
  | .Tuple .. => true
  | _ => false
def locN (sc : Scope) (x : Str) : Bool := match sc.names.lookup x with
  | some .local => true
  | _ => false
def lnE (sc : Scope) : Expr → Bool
  | .Name x _ => locN sc x
  | _ => false
def parN (sc : Scope) (ts vs : List Expr) : Bool := !(ts.length == 2 || ts.length == 3) || vs.length != ts.length || vs.all (foldedForSure 8) || !ts.all (lnE sc)
def par2 (tc : Tc) (sc : Scope) : List Expr → List Expr → Bool
  | [.Name x px, .Name y py], [a, b] => nsE a && nsE b && locN sc x && locN sc y && (py.line == px.line) && (x != y) && !([a, b].all (foldedForSure 8)) && !([a, b].all (constantsAlone 8)) && (slot? tc.N x).isSome && (slot? tc.N y).isSome
  | _, _ => false
def par3 (tc : Tc) (sc : Scope) : List Expr → List Expr → Bool
  | [.Name x px, .Name y py, .Name z pz], [a, b, d] => nsE a && nsE b && nsE d && locN sc x && locN sc y && locN sc z && (py.line == px.line) && (pz.line == px.line) && (x != y) && (x != z) && (y != z) && !([a, b, d].all (foldedForSure 8)) && !([a, b, d].all (constantsAlone 8)) && (slot? tc.N x).isSome && (slot? tc.N y).isSome && (slot? tc.N z).isSome
  | _, _ => false
/-- which stores are read -/
def asgB (tc : Tc) (sc : Scope) (tg e : Expr) : Bool := match tg with
  | .Name x _ => (slot? tc.N x).isSome && (match e with
    | .SetComp .. | .DictComp .. => false
    | _ => true)
  | .Tuple ts _ _ => match e with
    | .Tuple vs _ _ => parN sc ts vs || par2 tc sc ts vs || par3 tc sc ts vs
    | _ => true
  | .Attribute .. => true
  | .Subscript .. => true
  | _ => false
def anyV : Nat → Bool := fun _ => true
def docS : Stmt → Bool
  | .Expr (.Constant (.str _) _ _) _ => true
  | _ => false
def ntT : T → Bool
  | .nm _ => true
  | _ => false
mutual
def trS (tc : Tc) (ne : Nat) : Nat → Scope → (Str → Bool) → Stmt → S
  | 0, _, _, _ => .bad
  | n + 1, sc, fb, s => match s with
    | .Expr e _ => bif !compE e then .exp (trE tc ne sc fb e) else .bad
    | .Assign ts e _ => match ts with
      | [tg] => bif asgB tc sc tg e then .asg (trT tc anyV (ne + 2) sc fb tg) (trE tc (ne + 1) sc fb e) else .bad
      | _ => .bad
    | .AugAssign tg o e _ => match bo? o with
      | some o => match tg with
        | .Name x _ => bif locB sc fb x then (match slot? tc.N x with
          | some i => .aug i o (trE tc ne sc fb e)
          | none => .bad) else .bad
        | .Attribute a f _ => match tc.at_.lookup f with
          | some f => .agf (trE tc ne sc fb a) f o (trE tc ne sc fb e)
          | none => .bad
        | _ => .bad
      | none => .bad
    | .Return e _ => match e with
      | some e => .ret (trE tc ne sc fb e)
      | none => .retN
    | .If d a b _ => .iff (trE tc ne sc fb d) (trSs tc ne n sc fb a) (trSs tc ne n sc fb b)
    | .While d a b _ => match b with
      | [] => .whl (trE tc ne sc fb d) (trSs tc ne n sc fb a)
      | _ => .bad
    | .For t i a b _ => match b with
      | [] => bif setE i then .for (trT tc anyV ne sc fb t) (trI tc ne sc fb t i) (trSs tc ne n sc fb a) else .bad
      | _ => .bad
    | .Break _ => .brk
    | .Continue _ => .cnt
    | .Pass _ => .pas
    | .Raise e f _ => match e, f with
      | some (.Call (.Name x _) es [] _), none => match es with
        | [] => .bad
        | e :: es => bif okName x && (e :: es).all nsE then (match gr? tc sc x with
          | some (.xcl k) => .rai k (trEs (trE tc ne sc fb) (e :: es))
          | _ => .bad) else .bad
      | _, _ => .bad
    | _ => .bad
def trSs (tc : Tc) (ne : Nat) : Nat → Scope → (Str → Bool) → List Stmt → Ss
  | 0, _, _, _ => .cons .bad .nil
  | n + 1, sc, fb, ss => match ss with
    | [] => .nil
    | s :: ss => bif docS s then trSs tc ne n sc fb ss else .cons (trS tc ne n sc fb s) (trSs tc ne n sc fb ss)
end
variable {G : Gx} {ρ ρ' ρ'' : List Addr} {H H' H'' : LH} {h h' : Hp} {a : Addr}
variable {Y : L2.WX} {σ : L2.St} {c : Cf} {Q : L2.VK} {τ : Sl} {X : L2.Cx}
variable {tc : Tc} {pg : Pg} {F j : Nat} {sc : Scope} {fb : Str → Bool}
structure CtxS (G : Gx) (tc : Tc) (pg : Pg) (F j : Nat) (X : L2.Cx) (Y : L2.WX) (c : Cf) (sc : Scope) (fb : Str → Bool) : Prop where
  cx : Ctx G tc pg F j X Y c sc fb
  po : PassesOwn (model X.prog X.w) X.A X.env X.xe
  kd : sc.kind = .function
theorem ps_bad {s : Stmt} : L2.PS X s (tst G Y c .bad) := by
  refine ⟨fun pins s σ H D I hh => ?_⟩
  obtain ⟨ρ, h, τ, R, S, p⟩ := hh
  simp only [evS] at p; exact p.elim
theorem swN {e : Expr} {env : Env} {l : Nat} (h : compE e = false) : swapsWith e none l env = pure false := by
  cases e <;> first | rfl | cases h
theorem swS {tg e : Expr} {env : Env} {l : Nat} (h : compE e = false) : swapsWithSole [tg] e l env = pure false := by
  cases e <;> first | rfl | cases h
theorem swT {tg e : Expr} {env : Env} {l : Nat} (h : nameE tg = false) : swapsWithSole [tg] e l env = pure false := by
  cases tg <;> first | (cases h; done) | (cases e <;> rfl)
theorem stN {tg e : Expr} {env : Env} (h : (tupE tg && tupE e) = false) (hl : (match tg with | .List .. => false | _ => true) = true) : swappedStores [tg] e env = pure none := by
  cases tg <;> first | rfl | (cases e <;> first | rfl | (cases h; done)) | (cases hl; done)
theorem filt_len {α β : Type} {f : α → Option β} : ∀ {l : List α}, (∃ x ∈ l, f x = none) → (l.filterMap f).length ≠ l.length := by
  intro l ⟨x, hx, e⟩ q
  have h1 : ∀ l : List α, (l.filterMap f).length ≤ l.length := fun l => List.length_filterMap_le f l
  induction l with
  | nil => cases hx
  | cons y ys ih =>
    rcases List.mem_cons.mp hx with rfl | hx
    · rw [List.filterMap_cons_none e] at q
      have := h1 ys
      rw [List.length_cons] at q
      omega
    · cases fy : f y with
      | none =>
        rw [List.filterMap_cons_none fy] at q
        have := h1 ys
        rw [List.length_cons] at q
        omega
      | some b =>
        rw [List.filterMap_cons_some fy, List.length_cons, List.length_cons] at q
        exact ih hx (by omega)
theorem stPar {ts vs : List Expr} {k k2 : Nat} {p p2 : Pos} {env : Env} (h : parN env.scope ts vs = true) : swappedStores [.Tuple ts k p] (.Tuple vs k2 p2) env = pure none := by
  unfold parN at h
  unfold swappedStores
  simp only [Bool.or_eq_true] at h
  simp only
  split
  · rfl
  · rename_i h1
    split
    · rfl
    · split
      · rfl
      · rename_i h3
        split
        · rfl
        · rename_i h4
          exfalso
          rcases h with ((h | h) | h) | h
          · exact h1 (by simp only [Bool.or_eq_true]; exact .inl (.inl h))
          · exact h1 (by simp only [Bool.or_eq_true]; exact .inl (.inr h))
          · exact h4 h
          · refine h3 ?_
            simp only [Bool.or_eq_true, bne_iff_ne, ne_eq]
            refine .inl (filt_len ?_)
            rw [Bool.not_eq_true', ← Bool.not_eq_true, List.all_eq_true] at h
            have : ∃ t ∈ ts, lnE env.scope t = false := by
              apply Classical.byContradiction
              intro q
              refine h fun t ht => ?_
              cases z : lnE env.scope t with
              | true => rfl
              | false => exact absurd ⟨t, ht, z⟩ q
            obtain ⟨t, ht, z⟩ := this
            refine ⟨t, ht, ?_⟩
            cases t with
            | Name x p =>
              have z' : (env.kindOf x == some .local) = false := by
                show (env.scope.names.lookup x == some .local) = false
                simp only [lnE, locN] at z
                cases q : env.scope.names.lookup x with
                | none => rfl
                | some k => cases k <;> first | rfl | (rw [q] at z; cases z)
              simp only [z', Bool.false_and]
              rfl
            | _ => rfl
theorem locN_ok {x : Str} (e : locN sc x = true) : sc.names.lookup x = some .local := by
  unfold locN at e
  split at e
  · assumption
  · cases e
theorem blk_fn {env : Env} (h : env.scope.kind = .function) : env.blockKind = .function := by
  unfold Env.blockKind; rw [h]; rfl
theorem sw2 {x y : Str} {px py pt pt2 : Pos} {k k2 : Nat} {a b : Expr} {env : Env} (hk : env.scope.kind = .function) (hx : env.scope.names.lookup x = some .local) (hy : env.scope.names.lookup y = some .local) (hl : (py.line == px.line) = true) (hxy : x ≠ y)
    (ha : nsE a = true) (hb : nsE b = true) (h1 : [a, b].all (foldedForSure 8) = false) (h2 : [a, b].all (constantsAlone 8) = false) : swappedStores [.Tuple [.Name x px, .Name y py] k pt] (.Tuple [a, b] k2 pt2) env = pure (some [x, y]) := by
  have kx : env.kindOf x = some .local := hx
  have ky : env.kindOf y = some .local := hy
  have e1 : (py.line == (([Expr.Name x px, Expr.Name y py].head?.map (·.pos.line)).getD 0)) = true := hl
  have e2 : (px.line == (([Expr.Name x px, Expr.Name y py].head?.map (·.pos.line)).getD 0)) = true := beq_self_eq_true px.line
  have hd : [x, y].eraseDups = [x, y] := by
    have : (y == x) = false := by simpa using fun q => hxy q.symm
    simp [List.eraseDups_cons, this]
  unfold swappedStores
  simp only [blk_fn hk, List.filterMap_cons, List.filterMap_nil, kx, ky, e1, e2, beq_self_eq_true, Bool.and_self, if_true, h1, h2, hd]
  split
  · rename_i h; simp at h
  · split
    · rename_i h
      exfalso
      rw [List.any_cons, List.any_cons, List.any_nil] at h
      cases a <;> first | (cases ha; done) | (cases b <;> first | (cases hb; done) | (simp at h; done))
    · simp

theorem ns_any : ∀ {es : List Expr}, es.all nsE = true → (es.any fun x => match x with | .Starred .. => true | _ => false) = false
  | [], _ => rfl
  | e :: es, h => by
    rw [List.all_cons, Bool.and_eq_true] at h
    rw [List.any_cons, ns_any h.2]
    cases e <;> first | rfl | (cases h.1; done)
theorem sw3 {x y z : Str} {px py pz pt pt2 : Pos} {k k2 : Nat} {a b d : Expr} {env : Env} (hk : env.scope.kind = .function) (hx : env.scope.names.lookup x = some .local) (hy : env.scope.names.lookup y = some .local) (hz : env.scope.names.lookup z = some .local) (hl : (py.line == px.line) = true) (hl2 : (pz.line == px.line) = true) (hxy : x ≠ y) (hxz : x ≠ z) (hyz : y ≠ z)
    (ha : nsE a = true) (hb : nsE b = true) (hd' : nsE d = true) (h1 : [a, b, d].all (foldedForSure 8) = false) (h2 : [a, b, d].all (constantsAlone 8) = false) : swappedStores [.Tuple [.Name x px, .Name y py, .Name z pz] k pt] (.Tuple [a, b, d] k2 pt2) env = pure (some [x, y, z]) := by
  have kx : env.kindOf x = some .local := hx
  have ky : env.kindOf y = some .local := hy
  have kz : env.kindOf z = some .local := hz
  have e1 : (py.line == (([Expr.Name x px, Expr.Name y py, Expr.Name z pz].head?.map (·.pos.line)).getD 0)) = true := hl
  have e3 : (pz.line == (([Expr.Name x px, Expr.Name y py, Expr.Name z pz].head?.map (·.pos.line)).getD 0)) = true := hl2
  have e2 : (px.line == (([Expr.Name x px, Expr.Name y py, Expr.Name z pz].head?.map (·.pos.line)).getD 0)) = true := beq_self_eq_true px.line
  have hd : [x, y, z].eraseDups = [x, y, z] := by
    have q1 : (y == x) = false := by simpa using fun q => hxy q.symm
    have q2 : (z == x) = false := by simpa using fun q => hxz q.symm
    have q3 : (z == y) = false := by simpa using fun q => hyz q.symm
    simp [List.eraseDups_cons, q1, q2, q3]
  unfold swappedStores
  simp only [blk_fn hk, List.filterMap_cons, List.filterMap_nil, kx, ky, kz, e1, e2, e3, beq_self_eq_true, Bool.and_self, if_true, h1, h2, hd]
  split
  · rename_i h; simp at h
  · split
    · rename_i h
      exfalso
      exact absurd ((ns_any (es := [a, b, d]) (by simp [ha, hb, hd'])).symm.trans h) (by decide)
    · simp
theorem assign1 {tg : Expr} {env : Env} (h : nsE tg = true) : (assignEach [tg] env).map (·.2) = [assign tg env] := by
  cases tg <;> first | rfl | (cases h; done)
theorem slot_some {N : List Str} {x : Str} (h : (slot? N x).isSome = true) : ∃ i, slot? N x = some i ∧ N[i]? = some x := by
  cases e : slot? N x with
  | none => rw [e] at h; cases h
  | some i => exact ⟨i, rfl, slot_ok e⟩
theorem nodup_ne {N : List Str} {x y : Str} {i k : Nat} (h1 : N[i]? = some x) (h2 : N[k]? = some y) (h : x ≠ y) : i ≠ k := fun e => by
  subst e; rw [h1] at h2; exact h (Option.some.inj h2)
theorem trE_lc {n : Nat} {elt : Expr} {gs : List Comprehension} {scope : Scope} {pos : Pos} : (trE tc (n + 1) sc fb (.ListComp elt gs scope pos) = .bad) ∨ ∃ t i ifs own, gs = [⟨t, i, ifs, 0⟩] ∧ ownOf tc.N scope.names = some own ∧ L2.blkC tc.N sc scope own = true ∧
    trE tc (n + 1) sc fb (.ListComp elt gs scope pos) = .lc (trE tc.nl n (L2.relS scope sc) (fbOf scope) elt) (trT tc.nl (inL (own.map (·.2))) n (L2.relS scope sc) (fbOf scope) t) (trI tc n sc fb t i) (match ifs with
          | [] => .nil
          | [c] => .one (trE tc.nl n (L2.relS scope sc) (fbOf scope) c)
          | _ => .one .bad) (own.map (·.2)) := by
  simp only [trE]
  split
  · rename_i t i ifs as
    by_cases h0 : as = 0
    · subst h0
      simp only [decide_true, cond_true]
      split
      · rename_i own e1
        cases hb : L2.blkC tc.N sc scope own with
        | false => exact .inl rfl
        | true => exact .inr ⟨t, i, ifs, own, rfl, e1, hb, rfl⟩
      · exact .inl rfl
    · rw [decide_eq_false h0]; exact .inl rfl
  · exact .inl rfl
theorem asg_bad {tg e : Expr} {t : T} {pos : Pos} : L2.PS X (.Assign [tg] e pos) (tst G Y c (.asg t .bad)) := by
  refine ⟨fun pins s σ H D I hh => ?_⟩
  obtain ⟨ρ, h, τ, R, S, p⟩ := hh
  simp only [evS, evE] at p; exact p.elim
theorem ps_nameLc (C : CtxS G tc pg F j X Y c sc fb) {n : Nat} {x : Str} (hsl : (slot? tc.N x).isSome = true) {px pos p : Pos} {elt : Expr} {gs : List Comprehension} {scope : Scope} : L2.PS X (.Assign [.Name x px] (.ListComp elt gs scope p) pos) (tst G Y c (.asg (trT tc anyV (n + 2) sc fb (.Name x px)) (trE tc (n + 1) sc fb (.ListComp elt gs scope p)))) := by
  have hyp : Hyp G pg F n := hyp_all n
  have hk : X.env.scope.kind = .function := by rw [C.cx.sc]; exact C.kd
  have gen (h : swapsWith (.ListComp elt gs scope p) (some (.Name x px)) pos.line X.env = pure false) : L2.PS X (.Assign [.Name x px] (.ListComp elt gs scope p) pos) (tst G Y c (.asg (trT tc anyV (n + 2) sc fb (.Name x px)) (trE tc (n + 1) sc fb (.ListComp elt gs scope p)))) :=
    ps_asg (pe_all C.cx hyp _) ((hyp_all (n + 2)).tg anyV _ C.cx) h (stN (by rfl) rfl) rfl
  have sw : swapsWith (.ListComp elt gs scope p) (some (.Name x px)) pos.line X.env = pure (X.env.blockKind == .function && X.env.kindOf x == some .local && px.line == p.line && !(scope.names.any fun (n, k) => n == x && (k == .local || k == .cell))) := rfl
  cases hb : (X.env.blockKind == .function && X.env.kindOf x == some .local && px.line == p.line && !(scope.names.any fun (n, k) => n == x && (k == .local || k == .cell))) with
  | false => exact gen (by rw [sw, hb])
  | true =>
    rcases trE_lc (tc := tc) (sc := sc) (fb := fb) (n := n) (elt := elt) (gs := gs) (scope := scope) (pos := p) with e | ⟨t, i, ifs, own, rfl, e1, e2, e3⟩
    · rw [e]; exact asg_bad
    · rw [e3]
      simp only [Bool.and_eq_true, beq_iff_eq] at hb
      have hyl : X.env.scope.names.lookup x = some .local := hb.1.1.2
      have hloc : locB sc fb x = true := by
        unfold locB
        rw [← C.cx.sc, hyl]
      simp only [trT, hloc, cond_true]
      split
      · rename_i q es
        by_cases hset : setE i = true
        · have ok : L2.BlkOk X.N X.env.scope scope own := by rw [C.cx.wd.N, C.cx.sc]; exact L2.blkOk_by e2
          refine ps_setLc (V := inL (own.map (·.2))) (fun j e => own_snd own j e) C.cx.wd.calm C.cx.wd.nd (by rw [C.cx.wd.N]; exact slot_ok es) hyl ?_ (hyp.pi t i C.cx) ok (fun s H K cl fp => hyp.tg _ t C.cx.blk) (fun s H K cl fp => ?_) (fun s H K cl fp => hyp.pe elt C.cx.blk) (folded_pure hset)
          · rw [sw]
            congr 1
            simp only [Bool.and_eq_true, beq_iff_eq]
            exact hb
          · split
            · exact pcs_nil
            · exact pcs_one (hyp.pt _ C.cx.blk)
            · refine ⟨fun pins s σ H Q I hh => ?_⟩
              obtain ⟨ρ, h, τ, R, S, p⟩ := hh
              simp only [evC, evE] at p; exact p.elim
        · refine ⟨fun pins s σ H D I hh => ?_⟩
          obtain ⟨ρ, h, τ, R, S, p⟩ := hh
          rw [trI_set (by simpa using hset)] at p
          simp only [evS, evE, evI] at p
          exact p.elim
      · rename_i es
        rw [es] at hsl; cases hsl
theorem ps_assign (C : CtxS G tc pg F j X Y c sc fb) {n : Nat} {tg e : Expr} {pos : Pos} (hb : asgB tc sc tg e = true) : L2.PS X (.Assign [tg] e pos) (tst G Y c (.asg (trT tc anyV (n + 2) sc fb tg) (trE tc (n + 1) sc fb e))) := by
  have hyp : Hyp G pg F n := hyp_all n
  have hk : X.env.scope.kind = .function := by rw [C.cx.sc]; exact C.kd
  have he := pe_all C.cx hyp e
  have ht := (hyp_all (n + 2)).tg anyV tg C.cx
  cases tg with
  | Name x px =>
    cases hc : compE e with
    | false => exact ps_asg he ht (swS hc) (stN (by rfl) rfl) rfl
    | true =>
      simp only [asgB, Bool.and_eq_true] at hb
      cases e <;> first | (cases hc; done) | (cases hb.2; done) | exact ps_nameLc C hb.1
  | Attribute a f p => exact ps_asg he ht (swT rfl) (stN rfl rfl) rfl
  | Subscript a i p => exact ps_asg he ht (swT rfl) (stN rfl rfl) rfl
  | Tuple ts k p =>
    cases e with
    | Tuple vs k2 p2 =>
      simp only [asgB, Bool.or_eq_true] at hb
      rcases hb with (hb | hb) | hb
      · exact ps_asg he ht (swT rfl) (stPar (by rw [C.cx.sc]; exact hb)) rfl
      · unfold par2 at hb
        split at hb
        · rename_i x px y py a b
          simp only [Bool.and_eq_true, Bool.not_eq_true', bne_iff_ne, ne_eq] at hb
          obtain ⟨⟨⟨⟨⟨⟨⟨⟨⟨na, nb⟩, lx⟩, ly⟩, hl⟩, hxy⟩, h1⟩, h2⟩, sx⟩, sy⟩ := hb
          obtain ⟨i, ei, gi⟩ := slot_some sx
          obtain ⟨l, el, gl⟩ := slot_some sy
          have lx' := locN_ok lx
          have ly' := locN_ok ly
          have hns : [a, b].all nsE = true := by simp [na, nb]
          have e1 : trT tc anyV (n + 2) sc fb (.Tuple [.Name x px, .Name y py] k p) = .tp (.cons (.nm i) (.cons (.nm l) .nil)) := by
            simp [trT, trTs, nsE, locB, lx', ly', ei, el, anyV, quietTs, quietT]
          have e2 : trE tc (n + 1) sc fb (.Tuple [a, b] k2 p2) = .tup (.cons (trE tc n sc fb a) (.cons (trE tc n sc fb b) .nil)) := by
            simp only [trE, hns, cond_true, trEs]
          rw [e1, e2]
          refine ps_par C.cx.wd.calm C.cx.wd.nd (by rw [C.cx.wd.N]; exact gi) (by rw [C.cx.wd.N]; exact gl) (nodup_ne gi gl hxy) (by rw [C.cx.sc]; exact lx') (by rw [C.cx.sc]; exact ly') (pa_all (fun e => hyp.pe e C.cx) [a, b] hns) (sw2 hk (by rw [C.cx.sc]; exact lx') (by rw [C.cx.sc]; exact ly') hl hxy na nb h1 h2)
        · cases hb
      · unfold par3 at hb
        split at hb
        · rename_i x px y py z pz a b d
          simp only [Bool.and_eq_true, Bool.not_eq_true', bne_iff_ne, ne_eq] at hb
          obtain ⟨⟨⟨⟨⟨⟨⟨⟨⟨⟨⟨⟨⟨⟨⟨na, nb⟩, nd⟩, lx⟩, ly⟩, lz⟩, hl⟩, hl2⟩, hxy⟩, hxz⟩, hyz⟩, h1⟩, h2⟩, sx⟩, sy⟩, sz⟩ := hb
          obtain ⟨i, ei, gi⟩ := slot_some sx
          obtain ⟨l, el, gl⟩ := slot_some sy
          obtain ⟨m, em, gm⟩ := slot_some sz
          have lx' := locN_ok lx
          have ly' := locN_ok ly
          have lz' := locN_ok lz
          have hns : [a, b, d].all nsE = true := by simp [na, nb, nd]
          have e1 : trT tc anyV (n + 2) sc fb (.Tuple [.Name x px, .Name y py, .Name z pz] k p) = .tp (.cons (.nm i) (.cons (.nm l) (.cons (.nm m) .nil))) := by
            simp [trT, trTs, nsE, locB, lx', ly', lz', ei, el, em, anyV, quietTs, quietT]
          have e2 : trE tc (n + 1) sc fb (.Tuple [a, b, d] k2 p2) = .tup (.cons (trE tc n sc fb a) (.cons (trE tc n sc fb b) (.cons (trE tc n sc fb d) .nil))) := by
            simp only [trE, hns, cond_true, trEs]
          rw [e1, e2]
          refine ps_par3 C.cx.wd.calm C.cx.wd.nd (by rw [C.cx.wd.N]; exact gi) (by rw [C.cx.wd.N]; exact gl) (by rw [C.cx.wd.N]; exact gm) (nodup_ne gi gl hxy) (nodup_ne gi gm hxz) (nodup_ne gl gm hyz) (by rw [C.cx.sc]; exact lx') (by rw [C.cx.sc]; exact ly') (by rw [C.cx.sc]; exact lz') (pa_all (fun e => hyp.pe e C.cx) [a, b, d] hns) (sw3 hk (by rw [C.cx.sc]; exact lx') (by rw [C.cx.sc]; exact ly') (by rw [C.cx.sc]; exact lz') hl hl2 hxy hxz hyz na nb nd h1 h2)
        · cases hb
    | _ => exact ps_asg he ht (swT rfl) (stN rfl rfl) rfl
  | _ => cases hb
end TX
end
section
set_option maxRecDepth 100000
set_option linter.unusedVariables false
/-! EvSt3: all statements. -/
namespace TX
open PySem PySem.Spec PyProof.Rows
variable {G : Gx} {ρ ρ' ρ'' : List Addr} {H H' H'' : LH} {h h' : Hp} {a : Addr}
variable {Y : L2.WX} {σ : L2.St} {c : Cf} {Q : L2.VK} {τ : Sl} {X : L2.Cx}
variable {tc : Tc} {pg : Pg} {F j : Nat} {sc : Scope} {fb : Str → Bool}
structure HypS (G : Gx) (tc : Tc) (pg : Pg) (F j ne n : Nat) : Prop where
  ps : ∀ {X Y c sc fb} (s : Stmt), CtxS G tc pg F j X Y c sc fb → L2.PS X s (tst G Y c (trS tc ne n sc fb s))
  pss : ∀ {X Y c sc fb} (s : List Stmt), CtxS G tc pg F j X Y c sc fb → L2.PSs X s (tsts G Y c (trSs tc ne n sc fb s))
theorem pss_bad {s : List Stmt} {r : Ss} : L2.PSs X s (tsts G Y c (.cons .bad r)) := by
  refine ⟨fun pins s σ H D I hh => ?_⟩
  obtain ⟨ρ, h, τ, R, S, p⟩ := hh
  simp only [evSs, evS] at p; exact p.elim
theorem ps_all (C : CtxS G tc pg F j X Y c sc fb) {ne n : Nat} (hs : HypS G tc pg F j ne n) (s : Stmt) : L2.PS X s (tst G Y c (trS tc ne (n + 1) sc fb s)) := by
  have hyp : Hyp G pg F ne := hyp_all ne
  have C' := C.cx
  simp only [trS]
  split
  · rename_i e pos
    cases hc : compE e with
    | true => exact ps_bad
    | false => exact ps_exp (hyp.pe e C') (swN hc)
  · split
    · rename_i e pos _ tg
      cases hb : asgB tc sc tg e with
      | false => exact ps_bad
      | true => exact ps_assign C hb
    · exact ps_bad
  · split
    · rename_i tg o e pos _ o' eo
      rw [← bo_bo eo]
      split
      · rename_i x px
        cases h1 : locB sc fb x with
        | false => exact ps_bad
        | true =>
          obtain ⟨l1, l2⟩ := locOk C'.sc C'.fn h1
          simp only [cond_true]
          split
          · rename_i i es
            exact ps_aug C'.wd.nd (by rw [C'.wd.N]; exact slot_ok es) l1 l2 (hyp.pe e C')
          · exact ps_bad
      · rename_i a f px
        split
        · rename_i m em
          obtain ⟨q1, rfl⟩ := C'.wd.at_ f m em
          exact ps_agf C'.wd.K q1 (fun k K' e1 e2 => C'.wd.na m k K' e1 (by rw [← C'.pge]; exact e2) q1) (hyp.pe a C') (hyp.pe e C')
        · exact ps_bad
      · exact ps_bad
    · exact ps_bad
  · split
    · exact ps_ret (hyp.pe _ C')
    · exact ps_retN
  · exact ps_iff (hyp.pt _ C') (hs.pss _ C) (hs.pss _ C)
  · split
    · exact ps_whl C.po (hyp.pt _ C') (hs.pss _ C)
    · exact ps_bad
  · split
    · rename_i t i a pos _
      cases hset : setE i with
      | false => exact ps_bad
      | true => exact ps_for C.po C'.wd.calm (hyp.pi t i C') (hyp.tg anyV t C') (hs.pss _ C) (folded_pure hset)
    · exact ps_bad
  · exact ps_brk
  · exact ps_cnt
  · exact ps_pas
  · split
    · rename_i x px es pos
      split
      · exact ps_bad
      · rename_i e es
        cases hb : okName x && (e :: es).all nsE with
        | false => exact ps_bad
        | true =>
          rw [Bool.and_eq_true] at hb
          simp only [cond_true]
          split
          · rename_i k eg
            obtain ⟨hg, l⟩ := glOk C'.sc eg
            obtain ⟨K, a, b, q⟩ := C'.wd.gl x _ l
            cases hx : c.pg.xfs k with
            | none =>
              refine ⟨fun pins s σ H D I hh => ?_⟩
              obtain ⟨ρ, h, τ, R, S, p⟩ := hh
              simp only [evS] at p
              rw [hx] at p
              split at p
              · rename_i z; cases z
              · exact p.elim
            | some fs => exact ps_rai C'.wd.K b (q fs (by rw [← C'.pge]; exact hx)) hx C'.wd.calm C'.tk (fun l hl => C'.wd.room.mono (by have := C'.hx l hl; omega)) hg a (okName_ok hb.1).1 hb.2 (pa_all (fun e => hyp.pe e C') _ hb.2)
          · exact ps_bad
    · exact ps_bad
  · exact ps_bad
theorem pss_all (C : CtxS G tc pg F j X Y c sc fb) {ne n : Nat} (hs : HypS G tc pg F j ne n) (s : List Stmt) : L2.PSs X s (tsts G Y c (trSs tc ne (n + 1) sc fb s)) := by
  simp only [trSs]
  split
  · exact pss_nil
  · rename_i s ss
    cases hd : docS s with
    | false => exact pss_cons (hs.ps s C) (hs.pss ss C)
    | true =>
      simp only [cond_true]
      unfold docS at hd
      split at hd
      · exact pss_doc (hs.pss ss C)
      · cases hd
theorem hypS_all {ne : Nat} : ∀ n, HypS G tc pg F j ne n
  | 0 => ⟨fun s C => by simp only [trS]; exact ps_bad, fun s C => by simp only [trSs]; exact pss_bad⟩
  | n + 1 => by
    have h := hypS_all (ne := ne) n
    exact ⟨fun s C => ps_all C h s, fun s C => pss_all C h s⟩
end TX
end
section
set_option maxRecDepth 100000
set_option linter.unusedVariables false
/-! EvDef: every def of the program is called as the reckoner calls it. -/
namespace TX
open PySem PySem.Spec PyProof.Rows
/-- the name of a def's lambdas -/
def lamN (q : Str) : Str := q ++ ".<locals>." ++ "<lambda>"
/-- a def as it stands in memory, and its tree -/
structure DefOk (G : Gx) (pg : Pg) (gl : List (Str × Gr)) (at_ : List (Str × Nat)) (rg : List (Str × Nat)) (rr : Bool) (d : Fd) (f : Addr) : Prop where
  ok : ∃ (x qual : Str) (st : Stmt) (fd : FuncData) (N ps : List Str) (dt lm : Bool) (ne n : Nat), L2.Fun G.K x qual st f fd ∧ L2.FnScope N ps (L2.defScope st) ∧ L2.Binds G.K fd ps [] ∧ d.np = ps.length ∧ d.ns = N.length ∧
    (lm = true → ∃ cA P, fd.code = .ref cA ∧ (cA, P) ∈ G.cs ∧ (P, lamN qual) ∈ G.tb ∧ ∀ p ∈ G.tb, p.1 = P → p.2 = lamN qual) ∧
    d.body = trSs ⟨N, gl, at_, dt, lm, rg, rr⟩ ne n (L2.defScope st) (fun _ => true) (L2.defBody st)
/-- a class of exceptions with fields -/
structure XiT (G : Gx) (mg : Str → Option Value) (C : Addr) (fs : List Nat) : Prop where
  lt : ∀ f ∈ fs, f < G.nn
  nd : fs.Nodup
  le : fs.length ≤ 1000
  xc : XcC G.K C (fs.map G.an)
  ini : ∃ fI fd ps, PySem.W.findIn G.K (.ref C) "__init__" = some (some (.ref fI)) ∧ PySem.W.typeIn G.K (.ref fI) = some (.type "function") ∧ L2.Binds G.K fd ps [] ∧ ∀ (P : Program) (w : World) (base : Heap), L2.FnOk P w G.K mg base (L2.CX P w) 1 fI fd ps (spX G.K (fs.map G.an))
/-- the text in memory -/
structure Txt (G : Gx) (pg : Pg) (gl : List (Str × Gr)) (at_ : List (Str × Nat)) (mg : Str → Option Value) (rp : Nat → Bool) : Prop where
  df : ∀ g d, rp g = false → pg.fns.get (g + 1) = some d → ∃ f, G.fa g = some f ∧ DefOk G pg gl at_ [] false d f
  gl : ∀ x g, gl.lookup x = some g → match g with
    | .fn g => ∃ f d, G.fa g = some f ∧ mg x = some (.ref f) ∧ pg.fns.get (g + 1) = some d ∧ rp g = false
    | .cls n => ∃ C f g d, mg x = some (.ref C) ∧ pg.ini n = some g ∧ G.ca n = some C ∧ L2.Mk G.K C f ∧ L2.Cls G.K C ∧ G.fa g = some f ∧ pg.fns.get (g + 1) = some d ∧ rp g = false
    | .xcl n => ∃ C, mg x = some (.ref C) ∧ G.ca n = some C ∧ ∀ fs, pg.xfs n = some fs → XiT G mg C fs
    | .bf b => mg x = none ∧ bootBuiltins x = some (bv b)
    | .ty s => mg x = none ∧ bootBuiltins x = some (.type s)
    | .cst w => ∃ v u, mg x = some u ∧ L2.RelV v u ∧ ∀ ρ H, RV G ρ H w v
    | .rng => mg x = none
    | .enm => mg x = none
    | .met hs => MetOk G pg G.K mg x hs
  mt : ∀ m c C g, G.ca c = some C → pg.mth c m = some g → ∃ f d, L2.Meth G.K C (G.an m) f ∧ G.fa g = some f ∧ pg.fns.get (g + 1) = some d ∧ rp g = false
  bn : BnOk G
  at_ : ∀ x f, at_.lookup x = some f → f < G.nn ∧ G.an f = x
  na : ∀ f k C, G.ca k = some C → pg.na k f = true → f < G.nn → L2.NoAttr G.K C (G.an f)
  tc : ∀ p ∈ G.tb, ∃ q ∈ G.cs, q.2 = p.1
variable {G : Gx} {pg : Pg} {gl : List (Str × Gr)} {at_ : List (Str × Nat)} {mg : Str → Option Value} {P : Program} {w : World} {base : Heap} {rp : Nat → Bool}
def FnAt (G : Gx) (P : Program) (w : World) (mg : Str → Option Value) (base : Heap) (pg : Pg) (F k g : Nat) (f : Addr) : Prop :=
  PySem.W.keepIn G.K (.ref f) = true ∧ ∃ fd ps, L2.Binds G.K fd ps [] ∧ L2.FnOk P w G.K mg base (L2.CX P w) k f fd ps (spE G pg F k g)
theorem FnAt.ok {X : L2.Cx} {F k g : Nat} {f : Addr} (h : FnAt G X.prog X.w X.mg X.base pg F k g f) (hK : X.K = G.K) : FOk G X pg F k g f := by
  obtain ⟨kp, fd, ps, b, o⟩ := h
  exact ⟨hK ▸ kp, fd, ps, hK ▸ b, hK ▸ o⟩
theorem gr_of (T : Txt G pg gl at_ mg rp) {F j : Nat} (ih1 : ∀ g d f, rp g = false → pg.fns.get (g + 1) = some d → G.fa g = some f → FnAt G P w mg base pg F (j + 1) g f) (ih0 : ∀ g d f, rp g = false → pg.fns.get (g + 1) = some d → G.fa g = some f → FnAt G P w mg base pg F j g f)
    {X : L2.Cx} (hP : X.prog = P) (hw : X.w = w) (hm : X.mg = mg) (hb : X.base = base) (hK : X.K = G.K) : (∀ x g, gl.lookup x = some g → GrOk G X pg F j x g) ∧ ∀ m, MOk G X pg F (j + 1) m := by
  subst hP hw hm hb
  refine ⟨fun x g e => ?_, fun m => ⟨fun c C g e1 e2 => ?_⟩⟩
  · have t := T.gl x g e
    cases g with
    | fn g =>
      obtain ⟨f, d, a, b, c, r⟩ := t
      exact ⟨f, a, b, (ih1 g d f r c a).ok hK⟩
    | cls n =>
      obtain ⟨C, f, g, d, a1, a2, a3, a4, a5, a6, a7, r⟩ := t
      exact ⟨C, f, g, a1, a2, ⟨a3, hK ▸ a4, a5, (ih0 g d f r a7 a6).ok hK⟩⟩
    | xcl n =>
      obtain ⟨C, a, b, q⟩ := t
      refine ⟨C, a, b, fun fs e => ?_⟩
      obtain ⟨q1, q2, q3, q4, fI, fd, ps, q5, q6, q7, q8⟩ := q fs e
      exact ⟨q1, q2, q3, hK ▸ q4, fI, fd, ps, hK ▸ q5, hK ▸ q6, hK ▸ q7, hK ▸ q8 X.prog X.w X.base⟩
    | bf b => exact t
    | ty s => exact t
    | cst w => exact t
    | rng => exact t
    | enm => exact t
    | met hs => exact (show MetOk G pg X.K X.mg x hs from hK ▸ t)
  · obtain ⟨f, d, a, b, c, r⟩ := T.mt m c C g e1 e2
    exact ⟨f, hK ▸ a, (ih1 g d f r c b).ok hK⟩
/-- what the world of a body is -/
theorem wd_of (T : Txt G pg gl at_ mg rp) {F j : Nat} (ih1 : ∀ g d f, rp g = false → pg.fns.get (g + 1) = some d → G.fa g = some f → FnAt G P w mg base pg F (j + 1) g f) (ih0 : ∀ g d f, rp g = false → pg.fns.get (g + 1) = some d → G.fa g = some f → FnAt G P w mg base pg F j g f)
    {X : L2.Cx} (hP : X.prog = P) (hw : X.w = w) (hm : X.mg = mg) (hb : X.base = base) (hK : X.K = G.K) {tc : Tc} (hN : X.N = tc.N) (nd : X.N.Nodup) (hc : X.calm = true) (hr : L2.Room (j + 1) X.A) (hg : tc.gl = gl) (ha : tc.at_ = at_) : Wd G tc pg F j X := by
  have q := gr_of T ih1 ih0 hP hw hm hb hK
  exact ⟨hK, hN, nd, hc, hr, fun x g e => q.1 x g (hg ▸ e), q.2, T.bn, fun x f e => T.at_ x f (ha ▸ e), T.na⟩
theorem rsl_start {ρ : List Addr} {H : LH} {ws : List W} {vs : List LV} (r : RVs G ρ H ws vs) (N : List Str) {ns : Nat} (hn : ns = N.length) : RSl G ρ H (TX.start ns ws) (L2.start N vs) := by
  have hl := r.len
  refine ⟨by simp [TX.start, L2.start, hl, hn], fun i w e => ?_⟩
  unfold TX.start at e
  unfold L2.start
  rw [List.getElem?_append] at e
  split at e
  · rename_i hi
    rw [List.getElem?_map] at e
    cases q : ws[i]? with
    | none => rw [q] at e; cases e
    | some w' =>
      rw [q] at e
      have e2 : w' = w := by simpa using e
      subst e2
      obtain ⟨x, e3, rx⟩ := r.get q
      refine ⟨x, ?_, rx⟩
      have hi' : i < vs.length := by rw [hl]; simpa using hi
      rw [List.getElem?_append_left (by simpa using hi'), List.getElem?_map, e3]
      rfl
  · rw [List.getElem?_replicate] at e
    split at e <;> cases e
theorem post_fin {ρ : List Addr} {H : LH} {Q : L2.VK} {E : L2.XK} {r : RS} (p : CPost G ρ H Q E (fin r)) : PostS G (fun cls d _ H => E cls d H) ρ H { nx := fun _ H' => Q .non H', rt := Q } r := by
  cases r with
  | fl f h =>
    cases f with
    | nx τ => exact fun ρ' H' σ' t R S => p ρ' H' .non t R (by simp only [RV])
    | rt w => exact p
    | bk τ => exact p.elim
    | ct τ => exact p.elim
  | ex e τ h => exact fun ρ' H' σ' cl d t R _ rx => p ρ' H' cl d t R rx
  | no => exact p
/-- the facts of a def -/
structure Facts (G : Gx) (gl : List (Str × Gr)) (at_ : List (Str × Nat)) (rg : List (Str × Nat)) (rr : Bool) (d : Fd) (f : Addr) (x qual : Str) (st : Stmt) (fd : FuncData) (N ps : List Str) (dt lm : Bool) (ne n : Nat) : Prop where
  fu : L2.Fun G.K x qual st f fd
  sc : L2.FnScope N ps (L2.defScope st)
  np : d.np = ps.length
  ns : d.ns = N.length
  la : lm = true → ∃ cA P, fd.code = .ref cA ∧ (cA, P) ∈ G.cs ∧ (P, lamN qual) ∈ G.tb ∧ ∀ p ∈ G.tb, p.1 = P → p.2 = lamN qual
  body : d.body = trSs ⟨N, gl, at_, dt, lm, rg, rr⟩ ne n (L2.defScope st) (fun _ => true) (L2.defBody st)
theorem fn_none {f : Addr} {fd : FuncData} {ps : List Str} {F k g : Nat} (h : ∀ ws h, run pg F k g ws h = .no) : L2.FnOk P w G.K mg base (L2.CX P w) k f fd ps (spE G pg F k g) :=
  ⟨fun vs H Q E ⟨_, h', ws, _, _, z⟩ => by rw [h] at z; exact z.elim, fun A outer s H args us vs Q E _ _ _ _ ⟨_, h', ws, _, _, z⟩ => by rw [h] at z; exact z.elim⟩
def AllAt (rp : Nat → Bool) (G : Gx) (P : Program) (w : World) (mg : Str → Option Value) (base : Heap) (pg : Pg) (F k : Nat) : Prop := ∀ g d f, rp g = false → pg.fns.get (g + 1) = some d → G.fa g = some f → FnAt G P w mg base pg F k g f
theorem spE_len {F k g : Nat} {d : Fd} {ps : List Str} (e : pg.fns.get (g + 1) = some d) (h1 : d.np = ps.length) {vs : List LV} {H : LH} {Q : L2.VK} {E : L2.XK} (h : spE G pg F (k + 2) g vs H Q E) : vs.length = ps.length ∧ ∃ ρ h ws, Rep G ρ h H ∧ RVs G ρ H ws vs ∧ CPost G ρ H Q E (fin (evSs ⟨pg, F, run pg F (k + 1), run pg F k, lamOf pg F k⟩ d.body (TX.start d.ns ws) h)) := by
  obtain ⟨ρ, h, ws, R, r, p⟩ := h
  rw [run_ss] at p
  unfold call1 at p
  rw [e] at p
  simp only at p
  split at p
  · rename_i hl
    exact ⟨by rw [r.len, hl, h1], ρ, h, ws, R, r, p⟩
  · exact p.elim
/-- a def's body -/
theorem body_of (T : Txt G pg gl at_ mg rp) (TB : ∀ p ∈ G.cs, LamX.TabB base mg p.1 p.2) {F k g : Nat} {d : Fd} {f : Addr} {qual : Str} {st : Stmt} {N ps : List Str} {dt lm : Bool} {ne n : Nat} {rg : List (Str × Nat)} {rr : Bool} {cdv : Value} (e : pg.fns.get (g + 1) = some d) (S : L2.FnScope N ps (L2.defScope st)) (h1 : d.np = ps.length) (h2 : d.ns = N.length)
    (hla : lm = true → ∃ cA P, cdv = .ref cA ∧ (cA, P) ∈ G.cs ∧ (P, lamN qual) ∈ G.tb ∧ ∀ p ∈ G.tb, p.1 = P → p.2 = lamN qual) (h3 : d.body = trSs ⟨N, gl, at_, dt, lm, rg, rr⟩ ne n (L2.defScope st) (fun _ => true) (L2.defBody st))
    (ih : ∀ i, i < k + 2 → AllAt rp G P w mg base pg F i) {A : Around} {outer : List Env} {s : Shared} {H : LH} {vs : List LV} {Q : L2.VK} {E : L2.XK} (hr : L2.Room (k + 1) (A.deeper (envOfC qual (L2.defScope st) s.heap.objs.size f cdv))) (h : spE G pg F (k + 2) g vs H Q E)
    (hrep : RepOk G ⟨N, gl, at_, dt, lm, rg, rr⟩ pg F k (L2.cxOf (L2.CX P w) P w G.K mg base N qual (L2.defScope st) f cdv A outer s H E)) :
    ∃ t, L2.PSs (L2.cxOf (L2.CX P w) P w G.K mg base N qual (L2.defScope st) f cdv A outer s H E) (L2.defBody st) t ∧ t { nx := fun _ H' => Q .non H', rt := Q } (L2.start N vs) H := by
  obtain ⟨hl, ρ, h, ws, R, r, p⟩ := spE_len e h1 h
  have lamI : ∀ l, lamOf pg F k = some l → ∃ i, k = i + 2 ∧ l = ⟨run pg F (i + 1), run pg F i⟩ := fun l hl => by
    match k, hl with
    | i + 2, hl => exact ⟨i, rfl, (Option.some.inj hl).symm⟩
  have hlam : lm = true → ∀ l, lamOf pg F k = some l → LamOk G ⟨N, gl, at_, dt, lm, rg, rr⟩ pg F k (L2.cxOf (L2.CX P w) P w G.K mg base N qual (L2.defScope st) f cdv A outer s H E) l := fun hlm l hl => by
    obtain ⟨i, e1, e2⟩ := lamI l hl
    obtain ⟨cA, Pt, c1, c2, c3, c4⟩ := hla hlm
    have q := gr_of T (X := L2.cxOf (L2.CX P w) P w G.K mg base N qual (L2.defScope st) f cdv A outer s H E) (ih (i + 1) (by omega)) (ih i (by omega)) rfl rfl rfl rfl rfl
    have q1 : (L2.cxOf (L2.CX P w) P w G.K mg base N qual (L2.defScope st) f cdv A outer s H E).env.qual = qual ++ ".<locals>." := rfl
    have q2 : (L2.cxOf (L2.CX P w) P w G.K mg base N qual (L2.defScope st) f cdv A outer s H E).env.code = cdv := rfl
    have c1' : cdv = .ref cA := c1
    refine ⟨i, e1, e2, q.1, q.2, cA, Pt, q2.trans c1', TB _ c2, ?_, ?_⟩
    · rw [q1]; exact c3
    · rw [q1]; exact c4
  have cx : CtxS G ⟨N, gl, at_, dt, lm, rg, rr⟩ pg F k (L2.cxOf (L2.CX P w) P w G.K mg base N qual (L2.defScope st) f cdv A outer s H E) (fun cls d _ H => E cls d H) ⟨pg, F, run pg F (k + 1), run pg F k, lamOf pg F k⟩ (L2.defScope st) (fun _ => true) := by
    refine ⟨⟨wd_of T (ih (k + 1) (by omega)) (ih k (by omega)) rfl rfl rfl rfl rfl rfl S.nd rfl hr rfl rfl, rfl, fun _ _ => rfl, L2.takes_of rfl rfl rfl rfl, rfl, rfl, rfl, fun l hl => ?_, hlam, hrep⟩, L2.passes_of rfl, S.kind⟩
    obtain ⟨i, e1, _⟩ := lamI l hl
    omega
  refine ⟨_, (hypS_all (ne := ne) n).pss (L2.defBody st) cx, ρ, h, TX.start d.ns ws, R, rsl_start r N h2, ?_⟩
  rw [← h3]
  exact post_fin p
theorem fn_one (T : Txt G pg gl at_ mg rp) (TB : ∀ p ∈ G.cs, LamX.TabB base mg p.1 p.2) {F k g : Nat} {d : Fd} {f : Addr} {x qual : Str} {st : Stmt} {fd : FuncData} {N ps : List Str} {dt lm : Bool} {ne n : Nat} (e : pg.fns.get (g + 1) = some d) (D : Facts G gl at_ [] false d f x qual st fd N ps dt lm ne n)
    (ih : ∀ i, i < k + 2 → AllAt rp G P w mg base pg F i) : L2.FnOk P w G.K mg base (L2.CX P w) (k + 2) f fd ps (spE G pg F (k + 2) g) := by
  obtain ⟨Fu, S, h1, h2, hla, h3⟩ := D
  obtain ⟨oc, od, kV, doc, pm, an, cdv, ct, osl, rfl, lk, hcd⟩ := Fu.ex
  exact L2.fn_of lk hcd S (fun vs H Q E h => (spE_len e h1 h).1) fun A outer s H vs Q E hr h => body_of T TB e S h1 h2 hla h3 ih hr h (.none rfl rfl)
theorem fn_all (T : Txt G pg gl at_ mg rp) (TB : ∀ p ∈ G.cs, LamX.TabB base mg p.1 p.2) {F : Nat} (k : Nat) : AllAt rp G P w mg base pg F k := by
  induction k using Nat.strongRecOn with
  | _ k ih =>
    intro g d f hrp e a
    obtain ⟨f', a', x, qual, st, fd, N, ps, dt, lm, ne, n, Fu, S, B, h1, h2, hla, h3⟩ := T.df g d hrp e
    rw [a] at a'; cases a'
    match k, ih with
    | 0, ih => exact ⟨Fu.kp, fd, ps, B, fn_none fun _ _ => by rw [run]⟩
    | 1, ih => exact ⟨Fu.kp, fd, ps, B, fn_none fun _ _ => by rw [run]⟩
    | k + 2, ih => exact ⟨Fu.kp, fd, ps, B, fn_one T TB e ⟨Fu, S, h1, h2, hla, h3⟩ ih⟩
/-- law's promise -/
def spLaw (G : Gx) : L2.Sp := fun vs H Q _ => ∃ (a : Addr) (ns : List Int), vs = [.ref a] ∧ (∀ p ∈ G.cs, H p.2 = some (.tbl #[])) ∧ L2.SqL G.K H a (ns.map L2.V.int) ∧ ns.length ≤ 63 ∧ ∀ H', Q (.bl true) H'
/-- the script, one way or the other -/
def Script (ns : List Int) (w : W) (h : Hp) : Prop := (w = .lis (ns.map .int) ∧ h = ⟨0, .lf⟩) ∨ (w = .obj 0 ∧ h = (⟨0, .lf⟩ : Hp).new (.lst (ns.map .int)))
theorem law_ok (T : Txt G pg gl at_ mg rp) (TB : ∀ p ∈ G.cs, LamX.TabB base mg p.1 p.2) {F k g : Nat} {d : Fd} {f : Addr} {x qual : Str} {st : Stmt} {fd : FuncData} {N : List Str} {p : Str} {dt lm : Bool} {ne n : Nat} (e : pg.fns.get (g + 1) = some d) (a : G.fa g = some f) (D : Facts G gl at_ [] false d f x qual st fd N [p] dt lm ne n)
    (hrun : ∀ (ns : List Int) (v : W) (h0 : Hp), ns.length ≤ 63 → Script ns v h0 → ∃ h, run pg F (k + 2) g [v] h0 = .ok (.bl true) h) : L2.FnOk P w G.K mg base (L2.CX P w) (k + 2) f fd [p] (spLaw G) := by
  refine (fn_one T TB e D (fun i _ => fn_all T TB (F := F) i)).imp ?_
  rintro vs H Q E ⟨b, ns, rfl, hO, hS, hl, q⟩
  have tabs : LamX.Tabs G.tb H := fun p hp => by
    obtain ⟨q, hq, e⟩ := T.tc p hp
    exact LamX.TabS.nil (e ▸ hO q hq)
  have fin_ : ∀ (v : W) (h0 : Hp) (ρ : List Addr), Script ns v h0 → Rep G ρ h0 H → RV G ρ H v (.ref b) → spE G pg F (k + 2) g [.ref b] H Q E := fun v h0 ρ s R rv => by
    obtain ⟨h, hr⟩ := hrun ns v h0 hl s
    refine ⟨ρ, h0, [v], R, .cons rv .nil, ?_⟩
    rw [hr]
    intro ρ' H' x t R r
    simp only [RV] at r; subst r
    exact q H'
  have asLis : LisAt G H b (ns.map L2.V.int) → spE G pg F (k + 2) g [.ref b] H Q E := fun hL =>
    fin_ (.lis (ns.map .int)) ⟨0, .lf⟩ [] (.inl ⟨rfl, rfl⟩) ⟨rfl, List.nodup_nil, fun i a e => by simp at e, tabs⟩ (by simp only [RV]; exact ⟨b, _, rfl, hL, RVs.ofInts ns⟩)
  rcases hS with (hS | ⟨o, hS⟩) | hS
  · refine fin_ (.obj 0) _ [b] (.inr ⟨rfl, rfl⟩) ⟨rfl, by simp, fun i a e => ?_, tabs⟩ (by simp only [RV]; exact ⟨b, rfl, rfl⟩)
    match i, e with
    | 0, e =>
      cases e
      exact ⟨_, rfl, _, hS, RVs.ofInts ns⟩
  · exact asLis (.inl ⟨o, hS⟩)
  · exact asLis (.inr hS)
/-! ### defs that may ask for repr -/
/-- a def by its body, where no repr is under way -/
theorem fnG_of {CX : L2.CXT} {K : PySem.W.Frag} {k : Nat} {f : Addr} {name qual : Str} {params : Arguments} {body : List Stmt} {scope : Scope} {dV kV doc pm cdv ct oc : Value} {an od : Option Addr} {osl : Array (Option Value)} {N ps : List Str} {sp : L2.Sp}
    (lk : K.lookup f = some ⟨oc, od, .func (PySem.W.fnOf name qual params body scope dV kV doc pm an cdv ct), osl⟩) (hcd : PySem.W.codeIn K cdv qual = true) (S : L2.FnScope N ps scope) (len : ∀ vs H Q E, sp vs H Q E → vs.length = ps.length)
    (hbody : ∀ (A : Around) (outer : List Env) (s : Shared) (H : LH) (vs : List LV) (Q : L2.VK) (E : L2.XK), A.guards = some [] → L2.Room k (A.deeper (envOfC qual scope s.heap.objs.size f cdv)) → sp vs H Q E →
      ∃ t, L2.PSs (L2.cxOf CX P w K mg base N qual scope f cdv A outer s H E) body t ∧ t { nx := fun _ H' => Q .non H', rt := Q } (L2.start N vs) H) :
    FnG P w K mg base CX (k + 1) f (PySem.W.fnOf name qual params body scope dV kV doc pm an cdv ct) ps sp := by
  refine ⟨len, fun A outer s H args us vs Q E hg hr e0 hb r hsp => ?_⟩
  have kin : K.In s.heap := e0.mod.kin.keeps fun b o e => (e0.bs b o e).1
  refine codeAny_call_function hr.depth (kin _ _ lk) rfl S.co S.gen rfl (PySem.W.codeRec_of kin hcd) (hb _ _ _ _ ?_)
  refine wpAny_newFunctionEnv_cells S.kind (fun y hy => ?_) fun env he s1 x => ?_
  · rcases S.par y.1 (List.of_mem_zip hy).1 with q | q
    · exact .inl q
    · exact .inr ⟨q, PySem.W.cellsFrom_some _ _ _ (.inl q)⟩
  · subst he
    have lim : s.heap.NoLimit := e0.mod.nolimit.keeps fun b o e => (e0.bs b o e).1
    obtain ⟨t, ht, hq⟩ := hbody A outer s H vs Q E hg (hr.deeper _) hsp
    refine ⟨lim.keeps x.toInCall.keep, codeAny_func (wpAny_mono (ht.run [] s1 (L2.start N vs) H _ (L2.inv_start S hr.hd e0 (len _ _ _ _ hsp) r x) hq) (fun fl s' hs => ?_) fun e s' hs => hs)⟩
    cases fl with
    | ret u =>
      obtain ⟨v, σ', H', J, rv, q⟩ := hs
      exact ⟨v, H', J.os, J.bare, J.base, J.hok, rv, q⟩
    | next =>
      obtain ⟨σ', H', J, q⟩ := hs
      exact ⟨.non, H', J.os, J.bare, J.base, J.hok, rfl, q⟩
    | brk => obtain ⟨_, _, _, q⟩ := hs; exact False.elim q
    | cont => obtain ⟨_, _, _, q⟩ := hs; exact False.elim q
/-- the text in memory, the defs that may ask for repr -/
structure TxG (G : Gx) (pg : Pg) (gl : List (Str × Gr)) (at_ : List (Str × Nat)) (mg : Str → Option Value) (rp : Nat → Bool) (rg : List (Str × Nat)) : Prop where
  dg : ∀ g d, rp g = true → pg.fns.get (g + 1) = some d → ∃ f, G.fa g = some f ∧ DefOk G pg gl at_ rg true d f
  rgl : ∀ x g, rg.lookup x = some g → ∃ f d, G.fa g = some f ∧ mg x = some (.ref f) ∧ pg.fns.get (g + 1) = some d ∧ rp g = true
  rep : mg "repr" = none
variable {rg : List (Str × Nat)}
def FnAtG (G : Gx) (P : Program) (w : World) (mg : Str → Option Value) (base : Heap) (pg : Pg) (F k g : Nat) (f : Addr) : Prop :=
  PySem.W.keepIn G.K (.ref f) = true ∧ ∃ fd ps, L2.Binds G.K fd ps [] ∧ FnG P w G.K mg base (L2.CX P w) k f fd ps (spE G pg F k g)
theorem FnAtG.ok {X : L2.Cx} {F k g : Nat} {f : Addr} (h : FnAtG G X.prog X.w X.mg X.base pg F k g f) (hK : X.K = G.K) : FOkG G X pg F k g f := by
  obtain ⟨kp, fd, ps, b, o⟩ := h
  exact ⟨hK ▸ kp, fd, ps, hK ▸ b, hK ▸ o⟩
def AllG (rp : Nat → Bool) (G : Gx) (P : Program) (w : World) (mg : Str → Option Value) (base : Heap) (pg : Pg) (F k : Nat) : Prop := ∀ g d f, rp g = true → pg.fns.get (g + 1) = some d → G.fa g = some f → FnAtG G P w mg base pg F k g f
theorem fnG_none {f : Addr} {fd : FuncData} {ps : List Str} {F k g : Nat} (h : ∀ ws h, run pg F k g ws h = .no) : FnG P w G.K mg base (L2.CX P w) k f fd ps (spE G pg F k g) :=
  ⟨fun vs H Q E ⟨_, h', ws, _, _, z⟩ => by rw [h] at z; exact z.elim, fun A outer s H args us vs Q E _ _ _ _ _ ⟨_, h', ws, _, _, z⟩ => by rw [h] at z; exact z.elim⟩
theorem fnG_one (T : Txt G pg gl at_ mg rp) (TG : TxG G pg gl at_ mg rp rg) (TB : ∀ p ∈ G.cs, LamX.TabB base mg p.1 p.2) {F k g : Nat} {d : Fd} {f : Addr} {x qual : Str} {st : Stmt} {fd : FuncData} {N ps : List Str} {dt lm : Bool} {ne n : Nat} (e : pg.fns.get (g + 1) = some d) (D : Facts G gl at_ rg true d f x qual st fd N ps dt lm ne n)
    (ih : ∀ i, i < k + 2 → AllAt rp G P w mg base pg F i) (ihG : ∀ i, i < k + 2 → AllG rp G P w mg base pg F i) : FnG P w G.K mg base (L2.CX P w) (k + 2) f fd ps (spE G pg F (k + 2) g) := by
  obtain ⟨Fu, S, h1, h2, hla, h3⟩ := D
  obtain ⟨oc, od, kV, doc, pm, an, cdv, ct, osl, rfl, lk, hcd⟩ := Fu.ex
  exact fnG_of lk hcd S (fun vs H Q E h => (spE_len e h1 h).1) fun A outer s H vs Q E hg hr h => body_of T TB e S h1 h2 hla h3 ih hr h
    ⟨fun x g' e' => by
      obtain ⟨f', d', a1, a2, a3, a4⟩ := TG.rgl x g' e'
      exact ⟨hg, f', a1, a2, (ihG (k + 1) (by omega) g' d' f' a4 a3 a1).ok rfl⟩, fun _ => ⟨hg, TG.rep⟩⟩
theorem fnG_all (T : Txt G pg gl at_ mg rp) (TG : TxG G pg gl at_ mg rp rg) (TB : ∀ p ∈ G.cs, LamX.TabB base mg p.1 p.2) {F : Nat} (k : Nat) : AllG rp G P w mg base pg F k := by
  induction k using Nat.strongRecOn with
  | _ k ih =>
    intro g d f hrp e a
    obtain ⟨f', a', x, qual, st, fd, N, ps, dt, lm, ne, n, Fu, S, B, h1, h2, hla, h3⟩ := TG.dg g d hrp e
    rw [a] at a'; cases a'
    match k, ih with
    | 0, ih => exact ⟨Fu.kp, fd, ps, B, fnG_none fun _ _ => by rw [run]⟩
    | 1, ih => exact ⟨Fu.kp, fd, ps, B, fnG_none fun _ _ => by rw [run]⟩
    | k + 2, ih => exact ⟨Fu.kp, fd, ps, B, fnG_one T TG TB e ⟨Fu, S, h1, h2, hla, h3⟩ (fun i _ => fn_all T TB i) ih⟩
theorem law_okG (T : Txt G pg gl at_ mg rp) (TG : TxG G pg gl at_ mg rp rg) (TB : ∀ p ∈ G.cs, LamX.TabB base mg p.1 p.2) {F k g : Nat} {d : Fd} {f : Addr} {x qual : Str} {st : Stmt} {fd : FuncData} {N : List Str} {p : Str} {dt lm : Bool} {ne n : Nat} (e : pg.fns.get (g + 1) = some d) (a : G.fa g = some f) (D : Facts G gl at_ rg true d f x qual st fd N [p] dt lm ne n)
    (hrun : ∀ (ns : List Int) (v : W) (h0 : Hp), ns.length ≤ 63 → Script ns v h0 → ∃ h, run pg F (k + 2) g [v] h0 = .ok (.bl true) h) : FnG P w G.K mg base (L2.CX P w) (k + 2) f fd [p] (spLaw G) := by
  refine (fnG_one T TG TB e D (fun i _ => fn_all T TB (F := F) i) (fun i _ => fnG_all T TG TB (F := F) i)).imp ?_
  rintro vs H Q E ⟨b, ns, rfl, hO, hS, hl, q⟩
  have tabs : LamX.Tabs G.tb H := fun p hp => by
    obtain ⟨q, hq, e⟩ := T.tc p hp
    exact LamX.TabS.nil (e ▸ hO q hq)
  have fin_ : ∀ (v : W) (h0 : Hp) (ρ : List Addr), Script ns v h0 → Rep G ρ h0 H → RV G ρ H v (.ref b) → spE G pg F (k + 2) g [.ref b] H Q E := fun v h0 ρ s R rv => by
    obtain ⟨h, hr⟩ := hrun ns v h0 hl s
    refine ⟨ρ, h0, [v], R, .cons rv .nil, ?_⟩
    rw [hr]
    intro ρ' H' x t R r
    simp only [RV] at r; subst r
    exact q H'
  have asLis : LisAt G H b (ns.map L2.V.int) → spE G pg F (k + 2) g [.ref b] H Q E := fun hL =>
    fin_ (.lis (ns.map .int)) ⟨0, .lf⟩ [] (.inl ⟨rfl, rfl⟩) ⟨rfl, List.nodup_nil, fun i a e => by simp at e, tabs⟩ (by simp only [RV]; exact ⟨b, _, rfl, hL, RVs.ofInts ns⟩)
  rcases hS with (hS | ⟨o, hS⟩) | hS
  · refine fin_ (.obj 0) _ [b] (.inr ⟨rfl, rfl⟩) ⟨rfl, by simp, fun i a e => ?_, tabs⟩ (by simp only [RV]; exact ⟨b, rfl, rfl⟩)
    match i, e with
    | 0, e =>
      cases e
      exact ⟨_, rfl, _, hS, RVs.ofInts ns⟩
  · exact asLis (.inl ⟨o, hS⟩)
  · exact asLis (.inr hS)
end TX
end
section
set_option maxRecDepth 100000
set_option linter.unusedVariables false
/-! EvEnd: the end of a law whose defs may ask for repr. -/
namespace TX
open PySem PySem.Spec PyProof.Rows
/-- what is tracked at the entry: the tables of code objects, and the script where it is not of the frame -/
def H0 (K : PySem.W.Frag) (T : List Addr) (a : Addr) (ob : Obj) (ns : List Int) : LH := fun b => if b ∈ T then some (.tbl #[]) else if b = a ∧ K.lookup a = none then some (.frz ob (.lst (ns.map L2.V.int))) else none
theorem callG {P : Program} {w : World} {K : PySem.W.Frag} {mg mb : Str → Option Value} {k : Nat} {fa a : Addr} {cs : List (Addr × Addr)} {fd : FuncData} {x : Str} {sp : L2.Sp} {s₁ : Shared} {vs : List Value} {ns : List Int}
    (KX : K.In s₁.heap) (hns : s₁.heap.Ns mainGlobals mg) (hb : s₁.heap.Ns builtinsNs mb) (hbb : ∀ x : Str, x ≠ "__name__" → mb x = bootBuiltins x) (hlim : s₁.heap.NoLimit) (hg : s₁.gens = #[])
    (hT : ∀ p ∈ cs, s₁.heap.get? p.2 = some { cls := .none, data := .fields #[] }) (nT : ∀ p ∈ cs, K.lookup p.2 = none) (C : ∀ p ∈ cs, PySem.W.CodeHd s₁.heap p.1 p.2)
    (hbm : ∃ (bm : Addr) (ob : Obj), mg "__builtins__" = some (.ref bm) ∧ bm ≠ builtinsNs ∧ s₁.heap.get? bm = some ob ∧ ob.cls = .type "module" ∧ ob.dict = some builtinsNs ∧ ob.data = .plain)
    (ha : s₁.heap.get? a = some { cls := .type "list", data := .seq vs.toArray }) (hi : IntsAre vs ns) (hl : ns.length ≤ sizeLine) (hr : L2.Room k callerA)
    (F : ∀ base : Heap, K.In base → base.Ns mainGlobals mg → (∀ p ∈ cs, LamX.TabB base mg p.1 p.2) → FnG P w K mg base (L2.CX P w) k fa fd [x] sp) (hbind : ∀ (s : Shared) (u : Value), BindsTo s fd ⟨[u], []⟩ [(x, u)])
    (hsp : ∀ H : LH, (∀ p ∈ cs, H p.2 = some (.tbl #[])) → L2.SqL K H a (ns.map L2.V.int) → sp [.ref a] H (fun v _ => v = .bl true) fun _ _ _ => False)
    (hCX : ∀ H e s', L2.CX P w [] H s₁ (fun _ _ _ => False) e s' → False) :
    codeAny (model P w) callerA (.call (.ref fa) ⟨[.ref a], []⟩) (fun r s' => r = .ok (.ret (.bool true)) ∧ OldK s₁.heap s'.heap ∧ s'.os = s₁.os ∧ AllBare s'.gens) s₁ := by
  have rv := L2.vals_ints hi
  obtain ⟨T, eT⟩ : ∃ T, cs.map (·.2) = T := ⟨_, rfl⟩
  have inT : ∀ p ∈ cs, p.2 ∈ T := fun p hp => eT ▸ List.mem_map.mpr ⟨p, hp, rfl⟩
  have ofT : ∀ b ∈ T, ∃ p ∈ cs, p.2 = b := fun b q => List.mem_map.mp (eT ▸ q)
  have atT : ∀ b ∈ T, s₁.heap.get? b = some { cls := .none, data := .fields #[] } := fun b q => by
    obtain ⟨p, hp, rfl⟩ := ofT b q; exact hT p hp
  have aT : a ∉ T := fun q => by
    have := atT a q
    rw [ha] at this
    have z : Data.seq vs.toArray _ = Data.fields #[] := congrArg Obj.data (Option.some.inj this)
    cases z
  obtain ⟨H, eH⟩ : ∃ H, H0 K T a { cls := .type "list", data := .seq vs.toArray } ns = H := ⟨_, rfl⟩
  have onT : ∀ b ∈ T, H b = some (.tbl #[]) := fun b q => by rw [← eH]; exact if_pos q
  have offT : ∀ b, b ∉ T → b ≠ a → H b = none := fun b q z => by rw [← eH]; exact (if_neg q).trans (if_neg fun y => z y.1)
  have atA : H a = if K.lookup a = none then some (.frz { cls := .type "list", data := .seq vs.toArray } (.lst (ns.map L2.V.int))) else none := by
    rw [← eH]
    refine (if_neg aT).trans ?_
    by_cases q : K.lookup a = none
    · rw [if_pos q]; exact if_pos ⟨rfl, q⟩
    · rw [if_neg q]; exact if_neg fun y => q y.2
  have hS : L2.SqL K H a (ns.map L2.V.int) := by
    cases hk : K.lookup a with
    | none => rw [hk, if_pos rfl] at atA; exact .inl (.inr ⟨_, atA⟩)
    | some o =>
      have e := KX a o hk
      rw [ha] at e
      cases e
      exact .inr ⟨_, vs.toArray, _, hk, rfl, rfl, rfl, by rw [List.size_toArray, hi.length]; exact hl, by simpa using rv⟩
  have cases_ : ∀ b u, H b = some u → (b ∈ T ∧ u = .tbl #[]) ∨ (b = a ∧ K.lookup a = none ∧ u = .frz { cls := .type "list", data := .seq vs.toArray } (.lst (ns.map L2.V.int))) := fun b u z => by
    by_cases q : b ∈ T
    · rw [onT b q] at z; exact .inl ⟨q, (Option.some.inj z).symm⟩
    · by_cases y : b = a
      · subst y
        rw [atA] at z
        by_cases q2 : K.lookup b = none
        · rw [if_pos q2] at z; exact .inr ⟨rfl, q2, (Option.some.inj z).symm⟩
        · rw [if_neg q2] at z; cases z
      · rw [offT b q y] at z; cases z
  have hok : L2.HOk P w H s₁.heap := fun b u z => by
    rcases cases_ b u z with ⟨q, rfl⟩ | ⟨rfl, _, rfl⟩
    · exact atT b q
    · exact ⟨ha, by rw [List.length_map]; exact hl, vs, _, rv, ha⟩
  have free : ∀ {b : Addr} {o : Obj}, s₁.heap.get? b = some o → (∀ vs n, o.data ≠ .seq vs n) → o.data ≠ .fields #[] → H b = none := fun {b o} e n1 n2 => by
    cases z : H b with
    | none => rfl
    | some u =>
      rcases cases_ b u z with ⟨q, _⟩ | ⟨rfl, _, _⟩
      · rw [atT b q] at e; cases e; exact (n2 rfl).elim
      · rw [ha] at e; cases e; exact (n1 _ _ rfl).elim
  have base_ns : ∀ {b : Addr} {m : Str → Option Value}, s₁.heap.Ns b m → (L2.hidT s₁.heap H).Ns b m := fun {b m} ⟨o, es, ep, e, d, r⟩ => ⟨o, es, ep, L2.hidT_get e (free e (fun _ _ z => by rw [d] at z; cases z) fun z => by rw [d] at z; cases z), d, r⟩
  have base_in : K.In (L2.hidT s₁.heap H) := fun b o e => L2.hidT_get (KX b o e) (by
    cases z : H b with
    | none => rfl
    | some u =>
      rcases cases_ b u z with ⟨q, _⟩ | ⟨rfl, q, _⟩
      · obtain ⟨p, hp, rfl⟩ := ofT b q; rw [nT p hp] at e; cases e
      · rw [q] at e; cases e)
  have tabs : ∀ p ∈ cs, LamX.TabB (L2.hidT s₁.heap H) mg p.1 p.2 := fun p hp => by
    refine ⟨?_, ?_, fun z => ?_⟩
    · obtain ⟨o, us, file, tf, flags, tg, inF, text, tt, e1, r1, r2, r3, r⟩ := C p hp
      exact ⟨o, us, file, tf, flags, tg, inF, text, tt, L2.hidT_get e1 (free e1 (fun _ _ z => by rw [r2] at z; cases z) fun z => by rw [r2] at z; cases z; simp at r3), r1, r2, r3, r⟩
    · obtain ⟨bm, ob, b1, b2, b3, b4, b5, b6⟩ := hbm
      refine ⟨bm, ob, b1, b2, fun q => ?_, fun q => ?_, L2.hidT_get b3 (free b3 (fun _ _ z => by rw [b6] at z; cases z) fun z => by rw [b6] at z; cases z), b4, b5, b6⟩
      · obtain ⟨o, es, ep, e, hd, _⟩ := hns
        rw [q, e] at b3; cases b3; rw [hd] at b6; cases b6
      · rw [q, hT p hp] at b3; cases b3; cases b6
    · obtain ⟨o, es, ep, e, hd, _⟩ := hns
      rw [z, hT p hp] at e; cases e; cases hd
  have e0 : L2.Env0 P w K mg (L2.hidT s₁.heap H) callerA [] s₁ H := ⟨rfl, ⟨base_in, base_ns hns, ⟨mb, base_ns hb, hbb⟩, let ⟨mc, h1, h2⟩ := hlim; ⟨mc, base_ns h1, h2⟩⟩, fun b o e => L2.of_hidT e, Nat.le_of_eq (L2.hidT_size _ _), trivial, fun b hb => absurd (show b ∈ ([] : List Addr) from hb) (by simp), hok, .of_eq hg⟩
  refine codeAny_mono ((F _ base_in (base_ns hns) tabs).run callerA [] s₁ H ⟨[.ref a], []⟩ [.ref a] [.ref a] _ _ rfl hr e0 (hbind s₁ (.ref a)) (.cons rfl .nil) (hsp H (fun p hp => onT _ (inT p hp)) hS)) fun r s' h => ?_
  rcases r with e | fl
  · exact (hCX H e s' h).elim
  cases fl with
  | next => exact False.elim h
  | brk => exact False.elim h
  | cont => exact False.elim h
  | ret u =>
    obtain ⟨v, H', os, bare, un, hok', r', q⟩ := h
    have q' : v = .bl true := q
    subst q'
    obtain rfl : u = Value.bool true := r'
    have stays : ∀ b o, b ∉ T → s₁.heap.get? b = some o → s'.heap.get? b = some o := fun b o nb e => by
      cases z : H b with
      | none => exact un.keep b o e z (fun z => absurd (show b ∈ ([] : List Addr) from z) (by simp)) (by simp)
      | some u =>
        rcases cases_ b u z with ⟨q, _⟩ | ⟨_, _, rfl⟩
        · exact absurd q nb
        · obtain ⟨e1, _⟩ := hok b _ z
          obtain ⟨e2, _⟩ := hok' b _ (un.frzs b _ _ z)
          rw [e] at e1; cases e1
          exact e2
    have grown : ∀ p ∈ cs, ∃ more : Array Value, s'.heap.get? p.2 = some { cls := .none, data := .fields more } := fun p hp => by
      obtain ⟨more, z⟩ := un.tbls p.2 #[] (onT _ (inT p hp))
      exact ⟨_, hok' p.2 _ z⟩
    refine ⟨rfl, ⟨fun b o e => ?_, fun b o e => ?_⟩, os, bare⟩
    · by_cases hb : b ∈ T
      · obtain ⟨p, hp, rfl⟩ := ofT b hb
        obtain ⟨more, hm⟩ := grown p hp
        rw [hT p hp] at e
        cases e
        exact .inr (.inl ⟨((C p hp).tab (hT p hp)).isCodeTable, rfl, #[], more, rfl, by rw [Array.empty_append]; exact hm⟩)
      · exact .inl (stays b o hb e)
    · by_cases hb : b ∈ T
      · obtain ⟨p, hp, rfl⟩ := ofT b hb
        obtain ⟨more, hm⟩ := grown p hp
        exact ⟨_, hm⟩
      · exact ⟨o, stays b o hb e⟩
/-- what is known of the law's promise -/
def LawG (l : PySem.W.OpenLaw) (w : World) (K : PySem.W.Frag) (k n : Nat) (x : Str) (mg : Str → Option Value) (fa : Addr) (h : Heap) : Prop :=
  ∃ (fd : FuncData) (cs : List (Addr × Addr)) (sp : L2.Sp), (∀ p ∈ cs, h.get? p.2 = some { cls := .none, data := .fields #[] }) ∧ (∀ p ∈ cs, K.lookup p.2 = none) ∧ (∀ p ∈ cs, PySem.W.CodeHd h p.1 p.2) ∧ (∀ (s : Shared) (u : Value), BindsTo s fd ⟨[u], []⟩ [(x, u)]) ∧
    (∀ (H : LH) (a : Addr) (ns : List Int), ns.length ≤ n → (∀ p ∈ cs, H p.2 = some (.tbl #[])) → L2.SqL K H a (ns.map L2.V.int) → sp [.ref a] H (fun v _ => v = .bl true) fun _ _ _ => False) ∧
    ∀ base : Heap, K.In base → base.Ns mainGlobals mg → (∀ p ∈ cs, LamX.TabB base mg p.1 p.2) → FnG l.prog w K mg base (L2.CX l.prog w) k fa fd [x] sp
theorem walkG {l : PySem.W.OpenLaw} {n k : Nat} {q : Program} {loose : List Str} {XP : (Str → Option Value) → Heap → Prop} {YP : World → Heap → Prop} {d : DefRec} {x : Str}
    (hn : l.most = some n) (hn2 : n ≤ sizeLine) (hdf : d.params.defaults = []) (hr : L2.Room k callerA)
    (F : ∀ (w : World) (mg : Str → Option Value) (fa : Addr) (h : Heap), YP w h → h.Ns mainGlobals mg → mg d.name = some (.ref fa) → ∃ K : PySem.W.Frag, K.In h ∧ LawG l w K k n x mg fa h)
    (hCX : ∀ (w : World) (H : LH) (s : Shared) (e : Value) (s' : Shared), L2.CX l.prog w [] H s (fun _ _ _ => False) e s' → False) : PySem.W.WalkO q loose XP YP l.row.toRowW d [] (fun f vs => PySem.call f vs) := by
  refine Att.attach_callB hn hdf fun w s₀ s₁ mg mb fa o pm cd doc a vs ns G Y ho hd hcd hmg hobj hints hlen hbits hg => ?_
  obtain ⟨K, KX, fd, cs, sp, hT, nT, C, hb, hsp, hF⟩ := F w mg fa _ Y G.T.g hmg
  exact callG KX G.T.g G.T.b G.T.builtins G.T.nolimit hg hT nT C G.T.bmain hobj hints (Nat.le_trans hlen hn2) hr hF hb (fun H hH hS => hsp H a ns hlen hH hS) fun H e s' => hCX w H s₁ e s'
end TX
end
section
set_option maxRecDepth 100000
set_option linter.unusedVariables false
/-! EvGen: a program from lists. -/
namespace TX
open PySem PySem.Spec PyProof.Rows
/-- a name and what it is -/
def gp (x : Str) (g : Gr) : Str × Gr := (x, g)
def mkTr {α : Type} : List α → Nat → Tr α → Tr α
  | [], _, t => t
  | x :: xs, n, t => mkTr xs (n + 1) (Tr.setF (n + 1) t (n + 1) x)
theorem mkTr_get {α : Type} : ∀ (xs : List α) (n : Nat) (t : Tr α) (j : Nat), (mkTr xs n t).get (j + 1) = if j < n then t.get (j + 1) else match xs[j - n]? with
    | some x => some x
    | none => t.get (j + 1)
  | [], n, t, j => by simp [mkTr]
  | x :: xs, n, t, j => by
    rw [mkTr, mkTr_get xs (n + 1) _ j, Tr.get_setF _ _ _ _ _ (by omega) (by omega) (by omega)]
    by_cases h1 : j < n
    · rw [if_pos (by omega), if_neg (by omega), if_pos h1]
    · rw [if_neg h1]
      by_cases h2 : j = n
      · subst h2
        rw [if_pos (by omega), if_pos rfl, Nat.sub_self]
        rfl
      · rw [if_neg (by omega)]
        have e : j - n = (j - (n + 1)) + 1 := by omega
        rw [e, List.getElem?_cons_succ]
        cases xs[j - (n + 1)]? with
        | some y => rfl
        | none => simp only; rw [if_neg (by omega)]
def find3 (c m : Nat) : List (Nat × Nat × Nat) → Option Nat
  | [] => none
  | (c', m', g) :: r => bif Nat.beq c c' && Nat.beq m m' then some g else find3 c m r
theorem find3_mem {c m g : Nat} : ∀ {l : List (Nat × Nat × Nat)}, find3 c m l = some g → (c, m, g) ∈ l
  | [], h => by simp [find3] at h
  | (c', m', g') :: r, h => by
    unfold find3 at h
    cases e : Nat.beq c c' && Nat.beq m m' with
    | true =>
      rw [e] at h
      rw [Bool.and_eq_true] at e
      have h1 := Nat.eq_of_beq_eq_true e.1
      have h2 := Nat.eq_of_beq_eq_true e.2
      cases h
      subst h1 h2
      exact List.mem_cons_self
    | false => rw [e] at h; exact List.mem_cons_of_mem _ (find3_mem h)
def find2 (c : Nat) : List (Nat × Nat) → Option Nat
  | [] => none
  | (c', g) :: r => bif Nat.beq c c' then some g else find2 c r
theorem find2_mem {c g : Nat} : ∀ {l : List (Nat × Nat)}, find2 c l = some g → (c, g) ∈ l
  | [], h => by simp [find2] at h
  | (c', g') :: r, h => by
    unfold find2 at h
    cases e : Nat.beq c c' with
    | true =>
      rw [e] at h
      have h1 := Nat.eq_of_beq_eq_true e
      cases h; subst h1
      exact List.mem_cons_self
    | false => rw [e] at h; exact List.mem_cons_of_mem _ (find2_mem h)
def has2 (c f : Nat) (l : List (Nat × Nat)) : Bool := l.any fun p => Nat.beq p.1 c && Nat.beq p.2 f
theorem has2_mem {c f : Nat} {l : List (Nat × Nat)} (h : has2 c f l = true) : (c, f) ∈ l := by
  unfold has2 at h
  rw [List.any_eq_true] at h
  obtain ⟨p, hp, e⟩ := h
  rw [Bool.and_eq_true] at e
  have h1 := Nat.eq_of_beq_eq_true e.1
  have h2 := Nat.eq_of_beq_eq_true e.2
  cases p
  simp only at h1 h2
  subst h1 h2
  exact hp
/-- a program's lists -/
structure Src where
  defs : List Fd
  gl : List (Str × Gr)
  names : List Str
  mths : List (Nat × Nat × Nat)
  inis : List (Nat × Nat)
  flds : List (Nat × Nat)
  xfs : List (Nat × List Nat)
  subs : List (Nat × Nat)
def findL (c : Nat) : List (Nat × List Nat) → Option (List Nat)
  | [] => none
  | (c', g) :: r => bif Nat.beq c c' then some g else findL c r
theorem findL_mem {c : Nat} {g : List Nat} : ∀ {l : List (Nat × List Nat)}, findL c l = some g → (c, g) ∈ l
  | [], h => by simp [findL] at h
  | (c', g') :: r, h => by
    unfold findL at h
    cases e : Nat.beq c c' with
    | true =>
      rw [e] at h
      have h1 := Nat.eq_of_beq_eq_true e
      cases h; subst h1
      exact List.mem_cons_self
    | false => rw [e] at h; exact List.mem_cons_of_mem _ (findL_mem h)
def numb : List Str → Nat → List (Str × Nat)
  | [], _ => []
  | x :: xs, n => (x, n) :: numb xs (n + 1)
def Src.at_ (s : Src) : List (Str × Nat) := numb s.names 0
def Src.pg (s : Src) : Pg := ⟨mkTr s.defs 0 .lf, fun c m => find3 c m s.mths, fun c => find2 c s.inis, fun c f => has2 c f s.flds, fun c => findL c s.xfs, fun c d => has2 c d s.subs⟩
theorem Src.fns (s : Src) (g : Nat) : s.pg.fns.get (g + 1) = s.defs[g]? := by
  show (mkTr s.defs 0 .lf).get (g + 1) = _
  rw [mkTr_get, if_neg (by omega), Nat.sub_zero]
  cases s.defs[g]? <;> rfl
theorem numb_get : ∀ (l : List Str) (n : Nat) (x : Str) (f : Nat), (numb l n).lookup x = some f → ∃ i, f = n + i ∧ l[i]? = some x
  | [], n, x, f, h => by simp [numb] at h
  | y :: ys, n, x, f, h => by
    rw [numb, List.lookup_cons] at h
    cases e : x == y with
    | true =>
      rw [e] at h
      cases h
      have : x = y := by simpa using e
      subst this
      exact ⟨0, rfl, rfl⟩
    | false =>
      rw [e] at h
      obtain ⟨i, h1, h2⟩ := numb_get ys (n + 1) x f h
      exact ⟨i + 1, by omega, by simpa using h2⟩
def nameAt (l : List Str) (i : Nat) : Str := match l[i]? with
  | some x => x
  | none => Str.empty
def Src.gx (s : Src) (nd : s.names.Nodup) (K : PySem.W.Frag) (fs cs : List Addr) (tb : List (Addr × Str)) (tc : List (Addr × Addr)) : Gx := ⟨K, fun g => fs[g]?, fun c => cs[c]?, nameAt s.names, s.names.length, fun i j hi hj e => by
  unfold nameAt at e
  rw [List.getElem?_eq_getElem hi, List.getElem?_eq_getElem hj] at e
  exact (List.getElem_inj nd).mp e, tb, tc⟩
theorem lookup_mem {α : Type} : ∀ {l : List (Str × α)} {x : Str} {a : α}, l.lookup x = some a → (x, a) ∈ l
  | [], x, a, h => by simp at h
  | (y, b) :: r, x, a, h => by
    rw [List.lookup_cons] at h
    cases e : x == y with
    | true =>
      rw [e] at h
      have : x = y := by simpa using e
      subst this
      cases h
      exact List.mem_cons_self
    | false => rw [e] at h; exact List.mem_cons_of_mem _ (lookup_mem h)
/-- two rows side by side -/
inductive Al2 {α β : Type} (P : α → β → Prop) : List α → List β → Prop
  | nil : Al2 P [] []
  | cons {a b as bs} : P a b → Al2 P as bs → Al2 P (a :: as) (b :: bs)
theorem Al2.get {α β : Type} {P : α → β → Prop} : ∀ {as : List α} {bs : List β}, Al2 P as bs → ∀ (i : Nat) (a : α), as[i]? = some a → ∃ b, bs[i]? = some b ∧ P a b
  | _, _, .nil, i, a, h => by simp at h
  | _, _, .cons p q, 0, a, h => by
    simp only [List.getElem?_cons_zero, Option.some.injEq] at h
    subst h
    exact ⟨_, rfl, p⟩
  | _, _, .cons p q, i + 1, a, h => by
    rw [List.getElem?_cons_succ] at h ⊢
    exact q.get i a h
inductive Al {α : Type} (P : α → Prop) : List α → Prop
  | nil : Al P []
  | cons {a as} : P a → Al P as → Al P (a :: as)
theorem Al.mem {α : Type} {P : α → Prop} : ∀ {as : List α}, Al P as → ∀ a ∈ as, P a
  | _, .cons p q, a, h => by
    rcases List.mem_cons.mp h with rfl | h
    · exact p
    · exact q.mem a h
/-- the defs that may ask for repr -/
def rpB (l : List Nat) (g : Nat) : Bool := l.any (Nat.beq g)
inductive AlN {α β : Type} (P : Nat → α → β → Prop) : Nat → List α → List β → Prop where
  | nil {n : Nat} : AlN P n [] []
  | cons {n : Nat} {a : α} {b : β} {as : List α} {bs : List β} : P n a b → AlN P (n + 1) as bs → AlN P n (a :: as) (b :: bs)
theorem AlN.get {α β : Type} {P : Nat → α → β → Prop} : ∀ {n : Nat} {as : List α} {bs : List β}, AlN P n as bs → ∀ (i : Nat) (a : α), as[i]? = some a → ∃ b, bs[i]? = some b ∧ P (n + i) a b
  | _, _, _, .nil, i, a, e => by simp at e
  | n, _, _, .cons p r, 0, a, e => by cases e; exact ⟨_, rfl, p⟩
  | n, _, _, .cons p r, i + 1, a, e => by
    obtain ⟨b, e1, q⟩ := r.get i a e
    exact ⟨b, e1, by rw [show n + (i + 1) = n + 1 + i by omega]; exact q⟩
/-- what a global name needs -/
def GlFact (s : Src) (G : Gx) (K : PySem.W.Frag) (mg : Str → Option Value) (fs cs : List Addr) (rp : Nat → Bool) (p : Str × Gr) : Prop := match p.2 with
    | .fn g => ∃ f, fs[g]? = some f ∧ mg p.1 = some (.ref f) ∧ g < s.defs.length ∧ rp g = false
    | .cls n => ∃ C f g, mg p.1 = some (.ref C) ∧ find2 n s.inis = some g ∧ cs[n]? = some C ∧ L2.Mk K C f ∧ L2.Cls K C ∧ fs[g]? = some f ∧ g < s.defs.length ∧ rp g = false
    | .xcl n => ∃ C, mg p.1 = some (.ref C) ∧ cs[n]? = some C ∧ ∀ l, findL n s.xfs = some l → XiT G mg C l
    | .bf b => mg p.1 = none ∧ bootBuiltins p.1 = some (bv b)
    | .ty t => mg p.1 = none ∧ bootBuiltins p.1 = some (.type t)
    | .cst w => ∃ v u, mg p.1 = some u ∧ L2.RelV v u ∧ ∀ G ρ H, RV G ρ H w v
    | .rng => mg p.1 = none
    | .enm => mg p.1 = none
    | .met hs => MetOk G s.pg K mg p.1 hs
theorem txt_of {s : Src} {nd : s.names.Nodup} {K : PySem.W.Frag} {fs cs : List Addr} {tb : List (Addr × Str)} {tcs : List (Addr × Addr)} {mg : Str → Option Value} {rp : Nat → Bool} {rg : List (Str × Nat)} (bn : nameAt s.names 0 = "append" ∧ nameAt s.names 1 = "extend" ∧ nameAt s.names 2 = "join" ∧ nameAt s.names 3 = "pop")
    (df : AlN (fun g d f => (rp g = false → DefOk (s.gx nd K fs cs tb tcs) s.pg s.gl s.at_ [] false d f) ∧ (rp g = true → DefOk (s.gx nd K fs cs tb tcs) s.pg s.gl s.at_ rg true d f)) 0 s.defs fs) (gl : Al (GlFact s (s.gx nd K fs cs tb tcs) K mg fs cs rp) s.gl)
    (mt : Al (fun t : Nat × Nat × Nat => ∃ C f, cs[t.1]? = some C ∧ L2.Meth K C (nameAt s.names t.2.1) f ∧ fs[t.2.2]? = some f ∧ t.2.2 < s.defs.length ∧ rp t.2.2 = false) s.mths)
    (na : Al (fun t : Nat × Nat => ∃ C, cs[t.1]? = some C ∧ L2.NoAttr K C (nameAt s.names t.2)) s.flds) (htc : ∀ p ∈ tb, ∃ q ∈ tcs, q.2 = p.1) : Txt (s.gx nd K fs cs tb tcs) s.pg s.gl s.at_ mg rp := by
  have dg : ∀ g, g < s.defs.length → ∃ d, s.pg.fns.get (g + 1) = some d := fun g h => ⟨s.defs[g], by rw [s.fns]; exact List.getElem?_eq_getElem h⟩
  refine ⟨fun g d hrp e => ?_, fun x g e => ?_, fun m c C g e1 e2 => ?_, ⟨bn.1, bn.2.1, bn.2.2.1, bn.2.2.2⟩, fun x f e => ?_, fun f k C e1 e2 _ => ?_, htc⟩
  · rw [s.fns] at e
    obtain ⟨f, q1, q2, _⟩ := df.get g d e
    rw [Nat.zero_add] at q2
    exact ⟨f, q1, q2 hrp⟩
  · have q := gl.mem (x, g) (lookup_mem e)
    cases g with
    | fn g => obtain ⟨f, a, b, c, r⟩ := q; obtain ⟨d, hd⟩ := dg g c; exact ⟨f, d, a, b, hd, r⟩
    | cls n => obtain ⟨C, f, g, a1, a2, a3, a4, a5, a6, a7, r⟩ := q; obtain ⟨d, hd⟩ := dg g a7; exact ⟨C, f, g, d, a1, a2, a3, a4, a5, a6, hd, r⟩
    | xcl n => exact q
    | bf b => exact q
    | ty t => exact q
    | cst w => obtain ⟨v, u, a, b, c⟩ := q; exact ⟨v, u, a, b, fun ρ H => c _ ρ H⟩
    | rng => exact q
    | enm => exact q
    | met hs => exact q
  · obtain ⟨C', f, a1, a2, a3, a4, r⟩ := mt.mem (c, m, g) (find3_mem e2)
    have e1' : cs[c]? = some C := e1
    rw [a1] at e1'; cases e1'
    obtain ⟨d, hd⟩ := dg g a4
    exact ⟨f, d, a2, a3, hd, r⟩
  · obtain ⟨i, h1, h2⟩ := numb_get _ _ _ _ e
    have h1' : f = i := by omega
    subst h1'
    refine ⟨(List.getElem?_eq_some_iff.mp h2).1, ?_⟩
    show nameAt s.names f = x
    unfold nameAt
    rw [h2]
  · obtain ⟨C', a1, a2⟩ := na.mem (k, f) (has2_mem e2)
    have e1' : cs[k]? = some C := e1
    rw [a1] at e1'; cases e1'
    exact a2
/-- the defs that may ask for repr -/
theorem txG_of {s : Src} {nd : s.names.Nodup} {K : PySem.W.Frag} {fs cs : List Addr} {tb : List (Addr × Str)} {tcs : List (Addr × Addr)} {mg : Str → Option Value} {rp : Nat → Bool} {rg : List (Str × Nat)}
    (df : AlN (fun g d f => (rp g = false → DefOk (s.gx nd K fs cs tb tcs) s.pg s.gl s.at_ [] false d f) ∧ (rp g = true → DefOk (s.gx nd K fs cs tb tcs) s.pg s.gl s.at_ rg true d f)) 0 s.defs fs)
    (rgl : Al (fun p : Str × Nat => ∃ f, fs[p.2]? = some f ∧ mg p.1 = some (.ref f) ∧ p.2 < s.defs.length ∧ rp p.2 = true) rg) (hr : mg "repr" = none) : TxG (s.gx nd K fs cs tb tcs) s.pg s.gl s.at_ mg rp rg := by
  refine ⟨fun g d hrp e => ?_, fun x g e => ?_, hr⟩
  · rw [s.fns] at e
    obtain ⟨f, q1, _, q2⟩ := df.get g d e
    rw [Nat.zero_add] at q2
    exact ⟨f, q1, q2 hrp⟩
  · obtain ⟨f, a, b, c, r⟩ := rgl.mem (x, g) (lookup_mem e)
    exact ⟨f, s.defs[g], a, b, by rw [s.fns]; exact List.getElem?_eq_getElem c, r⟩
/-! ### facts by one kernel run -/
/-- an exception class with its own __init__, by a look -/
def oexB (K : PySem.W.Frag) (C : Addr) : Bool := match K.lookup C with
  | some ⟨.type "type", _, .cls cd, sl⟩ => (match cd.mro, sl.toList with
    | .ref C' :: bm, [_, _, _, _, some (.builtin n), _] => decide (C' = C) && decide (n = "ValueError.__new__") && !cd.hasDel && cd.hasDict && PySem.HandSPX.refsVE bm
    | _, _ => false)
  | _ => false
def oexF (K : PySem.W.Frag) (C : Addr) : Bool := oexB K C && decide (PySem.W.findIn K (.ref C) "__setattr__" = some (some (.builtin "object.__setattr__"))) && decide (PySem.W.subIn K (.ref C) (.type "BaseException") = some true) && decide (PySem.W.typeIn K (.ref C) = some (.type "type")) && PySem.W.keepIn K (.ref C)
theorem oexF_ok {K : PySem.W.Frag} {C : Addr} (h : oexF K C = true) : L2.OexC K C := by
  unfold oexF at h
  simp only [Bool.and_eq_true, decide_eq_true_eq] at h
  obtain ⟨⟨⟨⟨h1, h2⟩, h3⟩, h4⟩, h5⟩ := h
  refine ⟨?_, h2, h3, h4, h5⟩
  unfold oexB at h1
  split at h1
  · rename_i dd cd sl ho
    split at h1
    · rename_i C' bm k0 k1 k2 k3 n k5 hm hs
      simp only [Bool.and_eq_true, decide_eq_true_eq, Bool.not_eq_true'] at h1
      obtain ⟨⟨⟨⟨rfl, rfl⟩, e3⟩, e4⟩, e5⟩ := h1
      refine ⟨cd.name, cd.qualname, cd.ns, cd.bases, bm, cd.slotNames, cd.subclasses, cd.abstract, cd.collection, dd, k0, k1, k2, k3, k5, ?_, e5⟩
      rw [ho]
      obtain ⟨nm, bs, mro, ns, qn, hd, sn, sb, ab, col, del⟩ := cd
      dsimp only at hm e3 e4
      subst hm e3 e4
      have : sl = #[k0, k1, k2, k3, some (.builtin "ValueError.__new__"), k5] := by
        rw [← hs]
      rw [this]
    · cases h1
  · cases h1
/-- without defaults -/
theorem fun_ofD {K : PySem.W.Frag} {x qual : Str} {st : Stmt} {f : Addr} {fd : FuncData} {kws : List (Str × LV)} (F : L2.FunD K x qual (L2.defArgs st) (L2.defBody st) (L2.defScope st) [] kws f fd) : L2.Fun K x qual st f fd := by
  obtain ⟨oc, od, dV, kV, doc, pm, an, cdv, ct, osl, e, l, c, hd, _⟩ := F.ex
  rcases hd with ⟨_, e2⟩ | ⟨e2, _⟩
  · subst e2; exact ⟨⟨oc, od, kV, doc, pm, an, cdv, ct, osl, e, l, c⟩, F.kp⟩
  · exact absurd rfl e2
theorem code_of {K : PySem.W.Frag} {p : He.Defn} {x qual : Str} {st : Stmt} {fd : FuncData} (U : L2.Fun K x qual st (He.fAd K p) fd) : fd.code = .ref (He.codeOf K p) := by
  obtain ⟨oc, od, kV, doc, pm, an, cdv, ct, osl, rfl, l, c⟩ := U.ex
  obtain ⟨a, e⟩ := He.codeIn_ref c
  have e2 : (PySem.W.fnOf x qual (L2.defArgs st) (L2.defBody st) (L2.defScope st) .none kV doc pm an cdv ct).code = .ref a := e
  rw [He.codeOf_eq l e2]; exact e2
/-- defs with lambdas: their tables are apart -/
theorem la_of {K : PySem.W.Frag} {tq : List (He.Defn × Str)} (nd : (tq.map fun q => (He.cT K q.1).2).Nodup) {p : He.Defn} {qual : Str} (h : (p, qual) ∈ tq) {fd : FuncData} (e : fd.code = .ref (He.codeOf K p)) :
    ∃ cA P, fd.code = .ref cA ∧ (cA, P) ∈ tq.map (fun q => He.cT K q.1) ∧ (P, lamN qual) ∈ tq.map (fun q => ((He.cT K q.1).2, lamN q.2)) ∧ ∀ z ∈ tq.map (fun q => ((He.cT K q.1).2, lamN q.2)), z.1 = P → z.2 = lamN qual := by
  refine ⟨_, (He.cT K p).2, e, List.mem_map.mpr ⟨_, h, rfl⟩, List.mem_map.mpr ⟨_, h, rfl⟩, fun z hz q => ?_⟩
  obtain ⟨r, hr, rfl⟩ := List.mem_map.mp hz
  have key : ∀ {l : List (He.Defn × Str)}, (l.map fun q => (He.cT K q.1).2).Nodup → ∀ {a b}, a ∈ l → b ∈ l → (He.cT K a.1).2 = (He.cT K b.1).2 → a = b := fun {l} => by
    induction l with
    | nil => intro _ a b ha; cases ha
    | cons c l ih =>
      intro nd a b ha hb e
      rw [List.map_cons, List.nodup_cons] at nd
      rcases List.mem_cons.mp ha with ea | ha'
      · rcases List.mem_cons.mp hb with eb | hb'
        · exact ea.trans eb.symm
        · exact absurd (List.mem_map.mpr ⟨b, hb', by rw [← e, ea]⟩) nd.1
      · rcases List.mem_cons.mp hb with eb | hb'
        · exact absurd (List.mem_map.mpr ⟨a, ha', by rw [e, eb]⟩) nd.1
        · exact ih nd.2 ha' hb' e
  rw [key nd hr h q]
theorem sub_of {s : Src} {K : PySem.W.Frag} {cs : List Addr} {hs : List Mh} (f : Al (fun p : Nat × List Nat => Al (fun m : Mh => ∃ C C', cs[p.1]? = some C ∧ cs[m.c]? = some C' ∧ PySem.W.exmOne K (.ref C) (.ref C') = some (Nat.beq p.1 m.c || has2 p.1 m.c s.subs)) hs) s.xfs) :
    ∀ k fs C, s.pg.xfs k = some fs → cs[k]? = some C → ∀ m ∈ hs, ∃ C', cs[m.c]? = some C' ∧ PySem.W.exmOne K (.ref C) (.ref C') = some (Nat.beq k m.c || s.pg.xsub k m.c) := fun k fs C e1 e2 m hm => by
  obtain ⟨C1, C', q1, q2, q3⟩ := (f.mem (k, fs) (findL_mem e1)).mem m hm
  rw [e2] at q1; cases q1
  exact ⟨C', q2, q3⟩
/-- the clauses of a def whose body is a try -/
def hdsOf (st : Stmt) : List ExceptHandler := match L2.defBody st with
  | [.Try _ hs _ _ _] => hs
  | _ => []
end TX
end
section
set_option maxRecDepth 100000
set_option linter.unusedVariables false
open PySem
namespace K74
def top (i : Nat) : Stmt := PySem.Challenge.pw_textways_k74_whole_edits.main.body.getD i (.Pass ⟨0, 0, 0, 0⟩)
abbrev st0 : Stmt := top 8
abbrev st1 : Stmt := top 9
abbrev st2 : Stmt := top 10
abbrev st3 : Stmt := top 11
abbrev st4 : Stmt := top 14
abbrev st5 : Stmt := top 15
abbrev st6 : Stmt := top 16
abbrev st7 : Stmt := top 17
abbrev st8 : Stmt := top 18
abbrev st9 : Stmt := top 19
abbrev st10 : Stmt := top 20
abbrev st11 : Stmt := top 21
abbrev st12 : Stmt := top 22
abbrev st13 : Stmt := top 24
abbrev st14 : Stmt := top 25
abbrev st15 : Stmt := top 26
abbrev st16 : Stmt := top 27
abbrev st17 : Stmt := top 28
abbrev st18 : Stmt := top 29
abbrev st19 : Stmt := top 30
abbrev st20 : Stmt := top 31
abbrev st21 : Stmt := top 32
abbrev st22 : Stmt := top 33
abbrev st23 : Stmt := top 34
abbrev st24 : Stmt := top 35
abbrev st25 : Stmt := top 37
abbrev st26 : Stmt := top 38
abbrev st27 : Stmt := top 39
abbrev st28 : Stmt := top 41
abbrev st29 : Stmt := top 42
abbrev st30 : Stmt := top 43
abbrev st31 : Stmt := top 44
abbrev st32 : Stmt := top 45
abbrev st33 : Stmt := top 46
abbrev st34 : Stmt := top 47
abbrev st35 : Stmt := top 48
abbrev st36 : Stmt := top 49
abbrev st37 : Stmt := top 50
abbrev st38 : Stmt := L2.inClass (top 23) 0
abbrev st39 : Stmt := L2.inClass (top 23) 1
abbrev st40 : Stmt := L2.inClass (top 23) 2
abbrev st41 : Stmt := L2.inClass (top 23) 3
abbrev st42 : Stmt := L2.inClass (top 23) 4
abbrev st43 : Stmt := L2.inClass (top 23) 5
abbrev sm0 : Stmt := top 40
abbrev sx0 : Stmt := L2.inClass (top 2) 0
abbrev sx1 : Stmt := L2.inClass (top 3) 0
abbrev sx2 : Stmt := L2.inClass (top 4) 0
abbrev sx3 : Stmt := L2.inClass (top 5) 0
def names : List Str := ["append", "extend", "join", "pop", "told", "keep_signs", "drop_signs", "put_text", "told_words", "kept", "dropped", "fresh", "close_gap", "signs", "paper", "word", "promise", "witness"]
def hs__law_met : List TX.Mh := [⟨2, [.cst (.str [66, 97, 100, 83, 105, 103, 110, 115]), .fld 13]⟩, ⟨4, [.cst (.str [66, 97, 100, 80, 97, 112, 101, 114]), .fld 14]⟩, ⟨3, [.cst (.str [66, 97, 100, 87, 111, 114, 100]), .fld 15]⟩, ⟨5, [.cst (.str [78, 111, 116, 75, 101, 112, 116]), .fld 16, .fld 17]⟩]
def gl : List (Str × TX.Gr) := [TX.gp "are_signs" (.fn 0), TX.gp "need_signs" (.fn 1), TX.gp "is_text_in" (.fn 2), TX.gp "need_text" (.fn 3), TX.gp "is_edit_word" (.fn 4), TX.gp "is_edit_in" (.fn 5), TX.gp "pairs_in" (.fn 6), TX.gp "is_edit" (.fn 7), TX.gp "need_edit" (.fn 8), TX.gp "taken_by" (.fn 9), TX.gp "left_by" (.fn 10), TX.gp "edit_sizes" (.fn 11), TX.gp "edit_cost" (.fn 12), TX.gp "plain_in" (.fn 13), TX.gp "plain_edit" (.fn 14), TX.gp "applied_in" (.fn 15), TX.gp "need_taken" (.fn 16), TX.gp "applied" (.fn 17), TX.gp "behind_in" (.fn 18), TX.gp "passed_gone" (.fn 19), TX.gp "edit_behind" (.fn 20), TX.gp "turned_edit" (.fn 21), TX.gp "costs_of" (.fn 22), TX.gp "least_in" (.fn 23), TX.gp "least_edit" (.fn 24), TX.gp "_law_pen" (.fn 25), TX.gp "_law_draw" (.fn 26), TX.gp "_law_pick" (.fn 27), TX.gp "_law_pairs" (.fn 28), TX.gp "_law_items" (.fn 29), TX.gp "_law_plain_told" (.fn 30), TX.gp "_law_applied" (.fn 31), TX.gp "_law_some_edit" (.fn 32), TX.gp "_law_line" (.fn 33), TX.gp "_law_back" (.fn 34), TX.gp "_law_edit_right" (.fn 35), TX.gp "Plain" (.cls 0), TX.gp "WayError" (.xcl 1), TX.gp "BadSigns" (.xcl 2), TX.gp "BadWord" (.xcl 3), TX.gp "BadPaper" (.xcl 4), TX.gp "NotKept" (.xcl 5), TX.gp "_law_met" (.met hs__law_met), TX.gp "TEXT_SIGNS" (.cst (.str [97, 98, 99, 100, 101, 102, 103, 104, 105, 106, 107, 108, 109, 110, 111, 112, 113, 114, 115, 116, 117, 118, 119, 120, 121, 122, 48, 49, 50, 51, 52, 53, 54, 55, 56, 57, 58, 59, 44, 61, 43])), TX.gp "COUNT_SIGNS" (.cst (.str [48, 49, 50, 51, 52, 53, 54, 55, 56, 57])), TX.gp "all" (.bf .all), TX.gp "dict" (.ty "dict"), TX.gp "enumerate" (.enm), TX.gp "int" (.ty "int"), TX.gp "isinstance" (.bf .isi), TX.gp "len" (.bf .len), TX.gp "list" (.ty "list"), TX.gp "min" (.bf .min), TX.gp "range" (.rng), TX.gp "str" (.ty "str"), TX.gp "sum" (.bf .sum), TX.gp "tuple" (.ty "tuple")]
def at_ : List (Str × Nat) := TX.numb names 0
def rg : List (Str × Nat) := [("_law_near_right", 36), ("law", 37)]
abbrev tc0 : TX.Tc := ⟨["value", "sign"], gl, at_, false, false, [], false⟩
abbrev tr0 : TX.Ss := TX.trSs tc0 40 40 (L2.defScope st0) (fun _ => true) (L2.defBody st0)
abbrev tc1 : TX.Tc := ⟨["signs"], gl, at_, false, false, [], false⟩
abbrev tr1 : TX.Ss := TX.trSs tc1 40 40 (L2.defScope st1) (fun _ => true) (L2.defBody st1)
abbrev tc2 : TX.Tc := ⟨["signs", "value", "sign"], gl, at_, false, false, [], false⟩
abbrev tr2 : TX.Ss := TX.trSs tc2 40 40 (L2.defScope st2) (fun _ => true) (L2.defBody st2)
abbrev tc3 : TX.Tc := ⟨["signs", "text"], gl, at_, false, false, [], false⟩
abbrev tr3 : TX.Ss := TX.trSs tc3 40 40 (L2.defScope st3) (fun _ => true) (L2.defBody st3)
abbrev tc4 : TX.Tc := ⟨["signs", "value", "sign"], gl, at_, false, false, [], false⟩
abbrev tr4 : TX.Ss := TX.trSs tc4 40 40 (L2.defScope st4) (fun _ => true) (L2.defBody st4)
abbrev tc5 : TX.Tc := ⟨["signs", "value", "word"], gl, at_, false, false, [], false⟩
abbrev tr5 : TX.Ss := TX.trSs tc5 40 40 (L2.defScope st5) (fun _ => true) (L2.defBody st5)
abbrev tc6 : TX.Tc := ⟨["edit", "word"], gl, at_, false, false, [], false⟩
abbrev tr6 : TX.Ss := TX.trSs tc6 40 40 (L2.defScope st6) (fun _ => true) (L2.defBody st6)
abbrev tc7 : TX.Tc := ⟨["signs", "value"], gl, at_, false, false, [], false⟩
abbrev tr7 : TX.Ss := TX.trSs tc7 40 40 (L2.defScope st7) (fun _ => true) (L2.defBody st7)
abbrev tc8 : TX.Tc := ⟨["signs", "edit"], gl, at_, false, false, [], false⟩
abbrev tr8 : TX.Ss := TX.trSs tc8 40 40 (L2.defScope st8) (fun _ => true) (L2.defBody st8)
abbrev tc9 : TX.Tc := ⟨["edit", "word", "value"], gl, at_, false, false, [], false⟩
abbrev tr9 : TX.Ss := TX.trSs tc9 40 40 (L2.defScope st9) (fun _ => true) (L2.defBody st9)
abbrev tc10 : TX.Tc := ⟨["edit", "word", "value"], gl, at_, false, false, [], false⟩
abbrev tr10 : TX.Ss := TX.trSs tc10 40 40 (L2.defScope st10) (fun _ => true) (L2.defBody st10)
abbrev tc11 : TX.Tc := ⟨["signs", "edit"], gl, at_, false, false, [], false⟩
abbrev tr11 : TX.Ss := TX.trSs tc11 40 40 (L2.defScope st11) (fun _ => true) (L2.defBody st11)
abbrev tc12 : TX.Tc := ⟨["signs", "edit", "word", "value"], gl, at_, false, false, [], false⟩
abbrev tr12 : TX.Ss := TX.trSs tc12 40 40 (L2.defScope st12) (fun _ => true) (L2.defBody st12)
abbrev tc13 : TX.Tc := ⟨["edit", "plain", "word", "value"], gl, at_, false, false, [], false⟩
abbrev tr13 : TX.Ss := TX.trSs tc13 40 40 (L2.defScope st13) (fun _ => true) (L2.defBody st13)
abbrev tc14 : TX.Tc := ⟨["signs", "edit"], gl, at_, false, false, [], false⟩
abbrev tr14 : TX.Ss := TX.trSs tc14 40 40 (L2.defScope st14) (fun _ => true) (L2.defBody st14)
abbrev tc15 : TX.Tc := ⟨["edit", "text", "found", "at", "word", "value"], gl, at_, false, false, [], false⟩
abbrev tr15 : TX.Ss := TX.trSs tc15 40 40 (L2.defScope st15) (fun _ => true) (L2.defBody st15)
abbrev tc16 : TX.Tc := ⟨["edit", "many"], gl, at_, false, false, [], false⟩
abbrev tr16 : TX.Ss := TX.trSs tc16 40 40 (L2.defScope st16) (fun _ => true) (L2.defBody st16)
abbrev tc17 : TX.Tc := ⟨["signs", "edit", "text"], gl, at_, false, false, [], false⟩
abbrev tr17 : TX.Ss := TX.trSs tc17 40 40 (L2.defScope st17) (fun _ => true) (L2.defBody st17)
abbrev tc18 : TX.Tc := ⟨["one", "two", "at", "plain", "signs", "word", "value", "lap", "kind", "sign"], gl, at_, false, false, [], false⟩
abbrev tr18 : TX.Ss := TX.trSs tc18 40 40 (L2.defScope st18) (fun _ => true) (L2.defBody st18)
abbrev tc19 : TX.Tc := ⟨["plain", "signs", "at"], gl, at_, false, false, [], false⟩
abbrev tr19 : TX.Ss := TX.trSs tc19 40 40 (L2.defScope st19) (fun _ => true) (L2.defBody st19)
abbrev tc20 : TX.Tc := ⟨["signs", "one", "two"], gl, at_, false, false, [], false⟩
abbrev tr20 : TX.Ss := TX.trSs tc20 40 40 (L2.defScope st20) (fun _ => true) (L2.defBody st20)
abbrev tc21 : TX.Tc := ⟨["signs", "edit", "text", "plain", "at", "word", "value"], gl, at_, false, false, [], false⟩
abbrev tr21 : TX.Ss := TX.trSs tc21 40 40 (L2.defScope st21) (fun _ => true) (L2.defBody st21)
abbrev tc22 : TX.Tc := ⟨["first", "second", "row", "found", "i", "j", "below"], gl, at_, false, false, [], false⟩
abbrev tr22 : TX.Ss := TX.trSs tc22 40 40 (L2.defScope st22) (fun _ => true) (L2.defBody st22)
abbrev tc23 : TX.Tc := ⟨["first", "second", "costs", "plain", "i", "j"], gl, at_, false, false, [], false⟩
abbrev tr23 : TX.Ss := TX.trSs tc23 40 40 (L2.defScope st23) (fun _ => true) (L2.defBody st23)
abbrev tc24 : TX.Tc := ⟨["signs", "first", "second"], gl, at_, false, false, [], false⟩
abbrev tr24 : TX.Ss := TX.trSs tc24 40 40 (L2.defScope st24) (fun _ => true) (L2.defBody st24)
abbrev tc25 : TX.Tc := ⟨["script", "fold", "cell"], gl, at_, false, false, [], false⟩
abbrev tr25 : TX.Ss := TX.trSs tc25 40 40 (L2.defScope st25) (fun _ => true) (L2.defBody st25)
abbrev tc26 : TX.Tc := ⟨["pen", "many", "blend", "cell", "digit"], gl, at_, false, false, [], false⟩
abbrev tr26 : TX.Ss := TX.trSs tc26 40 40 (L2.defScope st26) (fun _ => true) (L2.defBody st26)
abbrev tc27 : TX.Tc := ⟨["pen", "some"], gl, at_, false, false, [], false⟩
abbrev tr27 : TX.Ss := TX.trSs tc27 40 40 (L2.defScope st27) (fun _ => true) (L2.defBody st27)
abbrev tc28 : TX.Tc := ⟨["edit", "word"], gl, at_, false, false, [], false⟩
abbrev tr28 : TX.Ss := TX.trSs tc28 40 40 (L2.defScope st28) (fun _ => true) (L2.defBody st28)
abbrev tc29 : TX.Tc := ⟨["edit", "found", "at", "kind", "value", "sign", "k"], gl, at_, false, false, [], false⟩
abbrev tr29 : TX.Ss := TX.trSs tc29 40 40 (L2.defScope st29) (fun _ => true) (L2.defBody st29)
abbrev tc30 : TX.Tc := ⟨["items", "many", "words", "at", "fresh", "kept", "kind", "value"], gl, at_, false, false, [], false⟩
abbrev tr30 : TX.Ss := TX.trSs tc30 40 40 (L2.defScope st30) (fun _ => true) (L2.defBody st30)
abbrev tc31 : TX.Tc := ⟨["items", "text", "kind", "value"], gl, at_, false, false, [], false⟩
abbrev tr31 : TX.Ss := TX.trSs tc31 40 40 (L2.defScope st31) (fun _ => true) (L2.defBody st31)
abbrev tc32 : TX.Tc := ⟨["pen", "signs", "many", "lap", "words", "at", "n", "k"], gl, at_, false, false, [], false⟩
abbrev tr32 : TX.Ss := TX.trSs tc32 40 40 (L2.defScope st32) (fun _ => true) (L2.defBody st32)
abbrev tc33 : TX.Tc := ⟨["pen", "signs", "most", "lap"], gl, at_, false, false, [], false⟩
abbrev tr33 : TX.Ss := TX.trSs tc33 40 40 (L2.defScope st33) (fun _ => true) (L2.defBody st33)
abbrev tc34 : TX.Tc := ⟨["items", "text", "places", "found", "k", "kind", "value"], gl, at_, false, false, [], false⟩
abbrev tr34 : TX.Ss := TX.trSs tc34 40 40 (L2.defScope st34) (fun _ => true) (L2.defBody st34)
abbrev tc35 : TX.Tc := ⟨["pen", "signs", "text", "edit", "left", "cost", "odd", "met", "items", "many", "plain", "back", "kind", "value"], gl, at_, false, true, [], false⟩
abbrev tr35 : TX.Ss := TX.trSs tc35 40 40 (L2.defScope st35) (fun _ => true) (L2.defBody st35)
abbrev tc36 : TX.Tc := ⟨["pen", "signs", "edit", "odds", "odd", "met"], gl, at_, false, true, rg, true⟩
abbrev tr36 : TX.Ss := TX.trSs tc36 40 40 (L2.defScope st36) (fun _ => true) (L2.defBody st36)
abbrev tc37 : TX.Tc := ⟨["script", "pen", "lap", "signs", "text", "edit"], gl, at_, false, false, rg, true⟩
abbrev tr37 : TX.Ss := TX.trSs tc37 40 40 (L2.defScope st37) (fun _ => true) (L2.defBody st37)
abbrev tc38 : TX.Tc := ⟨["self"], gl, at_, false, false, [], false⟩
abbrev tr38 : TX.Ss := TX.trSs tc38 40 40 (L2.defScope st38) (fun _ => true) (L2.defBody st38)
abbrev tc39 : TX.Tc := ⟨["self"], gl, at_, false, false, [], false⟩
abbrev tr39 : TX.Ss := TX.trSs tc39 40 40 (L2.defScope st39) (fun _ => true) (L2.defBody st39)
abbrev tc40 : TX.Tc := ⟨["self", "n"], gl, at_, false, false, [], false⟩
abbrev tr40 : TX.Ss := TX.trSs tc40 40 40 (L2.defScope st40) (fun _ => true) (L2.defBody st40)
abbrev tc41 : TX.Tc := ⟨["self", "n"], gl, at_, false, false, [], false⟩
abbrev tr41 : TX.Ss := TX.trSs tc41 40 40 (L2.defScope st41) (fun _ => true) (L2.defBody st41)
abbrev tc42 : TX.Tc := ⟨["self", "text"], gl, at_, false, false, [], false⟩
abbrev tr42 : TX.Ss := TX.trSs tc42 40 40 (L2.defScope st42) (fun _ => true) (L2.defBody st42)
abbrev tc43 : TX.Tc := ⟨["self"], gl, at_, false, false, [], false⟩
abbrev tr43 : TX.Ss := TX.trSs tc43 40 40 (L2.defScope st43) (fun _ => true) (L2.defBody st43)
def d0 : TX.Fd := ⟨1, 2, tr0⟩
def d1 : TX.Fd := ⟨1, 1, tr1⟩
def d2 : TX.Fd := ⟨2, 3, tr2⟩
def d3 : TX.Fd := ⟨2, 2, tr3⟩
def d4 : TX.Fd := ⟨2, 3, tr4⟩
def d5 : TX.Fd := ⟨2, 3, tr5⟩
def d6 : TX.Fd := ⟨1, 2, tr6⟩
def d7 : TX.Fd := ⟨2, 2, tr7⟩
def d8 : TX.Fd := ⟨2, 2, tr8⟩
def d9 : TX.Fd := ⟨1, 3, tr9⟩
def d10 : TX.Fd := ⟨1, 3, tr10⟩
def d11 : TX.Fd := ⟨2, 2, tr11⟩
def d12 : TX.Fd := ⟨2, 4, tr12⟩
def d13 : TX.Fd := ⟨1, 4, tr13⟩
def d14 : TX.Fd := ⟨2, 2, tr14⟩
def d15 : TX.Fd := ⟨2, 6, tr15⟩
def d16 : TX.Fd := ⟨2, 2, tr16⟩
def d17 : TX.Fd := ⟨3, 3, tr17⟩
def d18 : TX.Fd := ⟨2, 10, tr18⟩
def d19 : TX.Fd := ⟨3, 3, tr19⟩
def d20 : TX.Fd := ⟨3, 3, tr20⟩
def d21 : TX.Fd := ⟨3, 7, tr21⟩
def d22 : TX.Fd := ⟨2, 7, tr22⟩
def d23 : TX.Fd := ⟨2, 6, tr23⟩
def d24 : TX.Fd := ⟨3, 3, tr24⟩
def d25 : TX.Fd := ⟨1, 3, tr25⟩
def d26 : TX.Fd := ⟨2, 5, tr26⟩
def d27 : TX.Fd := ⟨2, 2, tr27⟩
def d28 : TX.Fd := ⟨1, 2, tr28⟩
def d29 : TX.Fd := ⟨1, 7, tr29⟩
def d30 : TX.Fd := ⟨2, 8, tr30⟩
def d31 : TX.Fd := ⟨2, 4, tr31⟩
def d32 : TX.Fd := ⟨3, 8, tr32⟩
def d33 : TX.Fd := ⟨3, 4, tr33⟩
def d34 : TX.Fd := ⟨2, 7, tr34⟩
def d35 : TX.Fd := ⟨4, 14, tr35⟩
def d36 : TX.Fd := ⟨3, 6, tr36⟩
def d37 : TX.Fd := ⟨1, 6, tr37⟩
def d38 : TX.Fd := ⟨1, 1, tr38⟩
def d39 : TX.Fd := ⟨1, 1, tr39⟩
def d40 : TX.Fd := ⟨2, 2, tr40⟩
def d41 : TX.Fd := ⟨2, 2, tr41⟩
def d42 : TX.Fd := ⟨2, 2, tr42⟩
def d43 : TX.Fd := ⟨1, 1, tr43⟩
def src : TX.Src := ⟨[d0, d1, d2, d3, d4, d5, d6, d7, d8, d9, d10, d11, d12, d13, d14, d15, d16, d17, d18, d19, d20, d21, d22, d23, d24, d25, d26, d27, d28, d29, d30, d31, d32, d33, d34, d35, d36, d37, d38, d39, d40, d41, d42, d43], gl, names, [(0, 12, 39), (0, 5, 40), (0, 6, 41), (0, 7, 42), (0, 4, 43)], [(0, 38)], [(0, 8), (0, 9), (0, 10), (0, 11)], [(2, [13]), (3, [15]), (4, [14]), (5, [16, 17])], []⟩
abbrev rp : Nat → Bool := TX.rpB [36, 37]
theorem nd : src.names.Nodup := by decide +kernel
theorem sc0 : L2.FnScope ["value", "sign"] ["value"] (L2.defScope st0) := ⟨rfl, rfl, rfl, by decide +kernel, rfl, by decide +kernel, by decide +kernel⟩
theorem sc1 : L2.FnScope ["signs"] ["signs"] (L2.defScope st1) := ⟨rfl, rfl, rfl, by decide +kernel, rfl, by decide +kernel, by decide +kernel⟩
theorem sc2 : L2.FnScope ["signs", "value", "sign"] ["signs", "value"] (L2.defScope st2) := ⟨rfl, rfl, rfl, by decide +kernel, rfl, by decide +kernel, by decide +kernel⟩
theorem sc3 : L2.FnScope ["signs", "text"] ["signs", "text"] (L2.defScope st3) := ⟨rfl, rfl, rfl, by decide +kernel, rfl, by decide +kernel, by decide +kernel⟩
theorem sc4 : L2.FnScope ["signs", "value", "sign"] ["signs", "value"] (L2.defScope st4) := ⟨rfl, rfl, rfl, by decide +kernel, rfl, by decide +kernel, by decide +kernel⟩
theorem sc5 : L2.FnScope ["signs", "value", "word"] ["signs", "value"] (L2.defScope st5) := ⟨rfl, rfl, rfl, by decide +kernel, rfl, by decide +kernel, by decide +kernel⟩
theorem sc6 : L2.FnScope ["edit", "word"] ["edit"] (L2.defScope st6) := ⟨rfl, rfl, rfl, by decide +kernel, rfl, by decide +kernel, by decide +kernel⟩
theorem sc7 : L2.FnScope ["signs", "value"] ["signs", "value"] (L2.defScope st7) := ⟨rfl, rfl, rfl, by decide +kernel, rfl, by decide +kernel, by decide +kernel⟩
theorem sc8 : L2.FnScope ["signs", "edit"] ["signs", "edit"] (L2.defScope st8) := ⟨rfl, rfl, rfl, by decide +kernel, rfl, by decide +kernel, by decide +kernel⟩
theorem sc9 : L2.FnScope ["edit", "word", "value"] ["edit"] (L2.defScope st9) := ⟨rfl, rfl, rfl, by decide +kernel, rfl, by decide +kernel, by decide +kernel⟩
theorem sc10 : L2.FnScope ["edit", "word", "value"] ["edit"] (L2.defScope st10) := ⟨rfl, rfl, rfl, by decide +kernel, rfl, by decide +kernel, by decide +kernel⟩
theorem sc11 : L2.FnScope ["signs", "edit"] ["signs", "edit"] (L2.defScope st11) := ⟨rfl, rfl, rfl, by decide +kernel, rfl, by decide +kernel, by decide +kernel⟩
theorem sc12 : L2.FnScope ["signs", "edit", "word", "value"] ["signs", "edit"] (L2.defScope st12) := ⟨rfl, rfl, rfl, by decide +kernel, rfl, by decide +kernel, by decide +kernel⟩
theorem sc13 : L2.FnScope ["edit", "plain", "word", "value"] ["edit"] (L2.defScope st13) := ⟨rfl, rfl, rfl, by decide +kernel, rfl, by decide +kernel, by decide +kernel⟩
theorem sc14 : L2.FnScope ["signs", "edit"] ["signs", "edit"] (L2.defScope st14) := ⟨rfl, rfl, rfl, by decide +kernel, rfl, by decide +kernel, by decide +kernel⟩
theorem sc15 : L2.FnScope ["edit", "text", "found", "at", "word", "value"] ["edit", "text"] (L2.defScope st15) := ⟨rfl, rfl, rfl, by decide +kernel, rfl, by decide +kernel, by decide +kernel⟩
theorem sc16 : L2.FnScope ["edit", "many"] ["edit", "many"] (L2.defScope st16) := ⟨rfl, rfl, rfl, by decide +kernel, rfl, by decide +kernel, by decide +kernel⟩
theorem sc17 : L2.FnScope ["signs", "edit", "text"] ["signs", "edit", "text"] (L2.defScope st17) := ⟨rfl, rfl, rfl, by decide +kernel, rfl, by decide +kernel, by decide +kernel⟩
theorem sc18 : L2.FnScope ["one", "two", "at", "plain", "signs", "word", "value", "lap", "kind", "sign"] ["one", "two"] (L2.defScope st18) := ⟨rfl, rfl, rfl, by decide +kernel, rfl, by decide +kernel, by decide +kernel⟩
theorem sc19 : L2.FnScope ["plain", "signs", "at"] ["plain", "signs", "at"] (L2.defScope st19) := ⟨rfl, rfl, rfl, by decide +kernel, rfl, by decide +kernel, by decide +kernel⟩
theorem sc20 : L2.FnScope ["signs", "one", "two"] ["signs", "one", "two"] (L2.defScope st20) := ⟨rfl, rfl, rfl, by decide +kernel, rfl, by decide +kernel, by decide +kernel⟩
theorem sc21 : L2.FnScope ["signs", "edit", "text", "plain", "at", "word", "value"] ["signs", "edit", "text"] (L2.defScope st21) := ⟨rfl, rfl, rfl, by decide +kernel, rfl, by decide +kernel, by decide +kernel⟩
theorem sc22 : L2.FnScope ["first", "second", "row", "found", "i", "j", "below"] ["first", "second"] (L2.defScope st22) := ⟨rfl, rfl, rfl, by decide +kernel, rfl, by decide +kernel, by decide +kernel⟩
theorem sc23 : L2.FnScope ["first", "second", "costs", "plain", "i", "j"] ["first", "second"] (L2.defScope st23) := ⟨rfl, rfl, rfl, by decide +kernel, rfl, by decide +kernel, by decide +kernel⟩
theorem sc24 : L2.FnScope ["signs", "first", "second"] ["signs", "first", "second"] (L2.defScope st24) := ⟨rfl, rfl, rfl, by decide +kernel, rfl, by decide +kernel, by decide +kernel⟩
theorem sc25 : L2.FnScope ["script", "fold", "cell"] ["script"] (L2.defScope st25) := ⟨rfl, rfl, rfl, by decide +kernel, rfl, by decide +kernel, by decide +kernel⟩
theorem sc26 : L2.FnScope ["pen", "many", "blend", "cell", "digit"] ["pen", "many"] (L2.defScope st26) := ⟨rfl, rfl, rfl, by decide +kernel, rfl, by decide +kernel, by decide +kernel⟩
theorem sc27 : L2.FnScope ["pen", "some"] ["pen", "some"] (L2.defScope st27) := ⟨rfl, rfl, rfl, by decide +kernel, rfl, by decide +kernel, by decide +kernel⟩
theorem sc28 : L2.FnScope ["edit", "word"] ["edit"] (L2.defScope st28) := ⟨rfl, rfl, rfl, by decide +kernel, rfl, by decide +kernel, by decide +kernel⟩
theorem sc29 : L2.FnScope ["edit", "found", "at", "kind", "value", "sign", "k"] ["edit"] (L2.defScope st29) := ⟨rfl, rfl, rfl, by decide +kernel, rfl, by decide +kernel, by decide +kernel⟩
theorem sc30 : L2.FnScope ["items", "many", "words", "at", "fresh", "kept", "kind", "value"] ["items", "many"] (L2.defScope st30) := ⟨rfl, rfl, rfl, by decide +kernel, rfl, by decide +kernel, by decide +kernel⟩
theorem sc31 : L2.FnScope ["items", "text", "kind", "value"] ["items", "text"] (L2.defScope st31) := ⟨rfl, rfl, rfl, by decide +kernel, rfl, by decide +kernel, by decide +kernel⟩
theorem sc32 : L2.FnScope ["pen", "signs", "many", "lap", "words", "at", "n", "k"] ["pen", "signs", "many"] (L2.defScope st32) := ⟨rfl, rfl, rfl, by decide +kernel, rfl, by decide +kernel, by decide +kernel⟩
theorem sc33 : L2.FnScope ["pen", "signs", "most", "lap"] ["pen", "signs", "most"] (L2.defScope st33) := ⟨rfl, rfl, rfl, by decide +kernel, rfl, by decide +kernel, by decide +kernel⟩
theorem sc34 : L2.FnScope ["items", "text", "places", "found", "k", "kind", "value"] ["items", "text"] (L2.defScope st34) := ⟨rfl, rfl, rfl, by decide +kernel, rfl, by decide +kernel, by decide +kernel⟩
theorem sc35 : L2.FnScope ["pen", "signs", "text", "edit", "left", "cost", "odd", "met", "items", "many", "plain", "back", "kind", "value"] ["pen", "signs", "text", "edit"] (L2.defScope st35) := ⟨rfl, rfl, rfl, by decide +kernel, rfl, by decide +kernel, by decide +kernel⟩
theorem sc36 : L2.FnScope ["pen", "signs", "edit", "odds", "odd", "met"] ["pen", "signs", "edit"] (L2.defScope st36) := ⟨rfl, rfl, rfl, by decide +kernel, rfl, by decide +kernel, by decide +kernel⟩
theorem sc37 : L2.FnScope ["script", "pen", "lap", "signs", "text", "edit"] ["script"] (L2.defScope st37) := ⟨rfl, rfl, rfl, by decide +kernel, rfl, by decide +kernel, by decide +kernel⟩
theorem sc38 : L2.FnScope ["self"] ["self"] (L2.defScope st38) := ⟨rfl, rfl, rfl, by decide +kernel, rfl, by decide +kernel, by decide +kernel⟩
theorem sc39 : L2.FnScope ["self"] ["self"] (L2.defScope st39) := ⟨rfl, rfl, rfl, by decide +kernel, rfl, by decide +kernel, by decide +kernel⟩
theorem sc40 : L2.FnScope ["self", "n"] ["self", "n"] (L2.defScope st40) := ⟨rfl, rfl, rfl, by decide +kernel, rfl, by decide +kernel, by decide +kernel⟩
theorem sc41 : L2.FnScope ["self", "n"] ["self", "n"] (L2.defScope st41) := ⟨rfl, rfl, rfl, by decide +kernel, rfl, by decide +kernel, by decide +kernel⟩
theorem sc42 : L2.FnScope ["self", "text"] ["self", "text"] (L2.defScope st42) := ⟨rfl, rfl, rfl, by decide +kernel, rfl, by decide +kernel, by decide +kernel⟩
theorem sc43 : L2.FnScope ["self"] ["self"] (L2.defScope st43) := ⟨rfl, rfl, rfl, by decide +kernel, rfl, by decide +kernel, by decide +kernel⟩
theorem scm0 : L2.FnScope ["call", "e"] ["call"] (L2.defScope sm0) := ⟨rfl, rfl, rfl, by decide +kernel, rfl, by decide +kernel, by decide +kernel⟩
theorem scx0 : L2.FnScope ["self", "signs"] ["self", "signs"] (L2.defScope sx0) := ⟨rfl, rfl, rfl, by decide +kernel, rfl, by decide +kernel, by decide +kernel⟩
theorem scx1 : L2.FnScope ["self", "word"] ["self", "word"] (L2.defScope sx1) := ⟨rfl, rfl, rfl, by decide +kernel, rfl, by decide +kernel, by decide +kernel⟩
theorem scx2 : L2.FnScope ["self", "paper"] ["self", "paper"] (L2.defScope sx2) := ⟨rfl, rfl, rfl, by decide +kernel, rfl, by decide +kernel, by decide +kernel⟩
theorem scx3 : L2.FnScope ["self", "promise", "witness"] ["self", "promise", "witness"] (L2.defScope sx3) := ⟨rfl, rfl, rfl, by decide +kernel, rfl, by decide +kernel, by decide +kernel⟩
def dd0 : He.DefD := ⟨("are_signs", none), "are_signs", "are_signs", L2.defArgs st0, L2.defBody st0, L2.defScope st0, [], []⟩
def dd1 : He.DefD := ⟨("need_signs", none), "need_signs", "need_signs", L2.defArgs st1, L2.defBody st1, L2.defScope st1, [], []⟩
def dd2 : He.DefD := ⟨("is_text_in", none), "is_text_in", "is_text_in", L2.defArgs st2, L2.defBody st2, L2.defScope st2, [], []⟩
def dd3 : He.DefD := ⟨("need_text", none), "need_text", "need_text", L2.defArgs st3, L2.defBody st3, L2.defScope st3, [], []⟩
def dd4 : He.DefD := ⟨("is_edit_word", none), "is_edit_word", "is_edit_word", L2.defArgs st4, L2.defBody st4, L2.defScope st4, [], []⟩
def dd5 : He.DefD := ⟨("is_edit_in", none), "is_edit_in", "is_edit_in", L2.defArgs st5, L2.defBody st5, L2.defScope st5, [], []⟩
def dd6 : He.DefD := ⟨("pairs_in", none), "pairs_in", "pairs_in", L2.defArgs st6, L2.defBody st6, L2.defScope st6, [], []⟩
def dd7 : He.DefD := ⟨("is_edit", none), "is_edit", "is_edit", L2.defArgs st7, L2.defBody st7, L2.defScope st7, [], []⟩
def dd8 : He.DefD := ⟨("need_edit", none), "need_edit", "need_edit", L2.defArgs st8, L2.defBody st8, L2.defScope st8, [], []⟩
def dd9 : He.DefD := ⟨("taken_by", none), "taken_by", "taken_by", L2.defArgs st9, L2.defBody st9, L2.defScope st9, [], []⟩
def dd10 : He.DefD := ⟨("left_by", none), "left_by", "left_by", L2.defArgs st10, L2.defBody st10, L2.defScope st10, [], []⟩
def dd11 : He.DefD := ⟨("edit_sizes", none), "edit_sizes", "edit_sizes", L2.defArgs st11, L2.defBody st11, L2.defScope st11, [], []⟩
def dd12 : He.DefD := ⟨("edit_cost", none), "edit_cost", "edit_cost", L2.defArgs st12, L2.defBody st12, L2.defScope st12, [], []⟩
def dd13 : He.DefD := ⟨("plain_in", none), "plain_in", "plain_in", L2.defArgs st13, L2.defBody st13, L2.defScope st13, [], []⟩
def dd14 : He.DefD := ⟨("plain_edit", none), "plain_edit", "plain_edit", L2.defArgs st14, L2.defBody st14, L2.defScope st14, [], []⟩
def dd15 : He.DefD := ⟨("applied_in", none), "applied_in", "applied_in", L2.defArgs st15, L2.defBody st15, L2.defScope st15, [], []⟩
def dd16 : He.DefD := ⟨("need_taken", none), "need_taken", "need_taken", L2.defArgs st16, L2.defBody st16, L2.defScope st16, [], []⟩
def dd17 : He.DefD := ⟨("applied", none), "applied", "applied", L2.defArgs st17, L2.defBody st17, L2.defScope st17, [], []⟩
def dd18 : He.DefD := ⟨("behind_in", none), "behind_in", "behind_in", L2.defArgs st18, L2.defBody st18, L2.defScope st18, [], []⟩
def dd19 : He.DefD := ⟨("passed_gone", none), "passed_gone", "passed_gone", L2.defArgs st19, L2.defBody st19, L2.defScope st19, [], []⟩
def dd20 : He.DefD := ⟨("edit_behind", none), "edit_behind", "edit_behind", L2.defArgs st20, L2.defBody st20, L2.defScope st20, [], []⟩
def dd21 : He.DefD := ⟨("turned_edit", none), "turned_edit", "turned_edit", L2.defArgs st21, L2.defBody st21, L2.defScope st21, [], []⟩
def dd22 : He.DefD := ⟨("costs_of", none), "costs_of", "costs_of", L2.defArgs st22, L2.defBody st22, L2.defScope st22, [], []⟩
def dd23 : He.DefD := ⟨("least_in", none), "least_in", "least_in", L2.defArgs st23, L2.defBody st23, L2.defScope st23, [], []⟩
def dd24 : He.DefD := ⟨("least_edit", none), "least_edit", "least_edit", L2.defArgs st24, L2.defBody st24, L2.defScope st24, [], []⟩
def dd25 : He.DefD := ⟨("_law_pen", none), "_law_pen", "_law_pen", L2.defArgs st25, L2.defBody st25, L2.defScope st25, [], []⟩
def dd26 : He.DefD := ⟨("_law_draw", none), "_law_draw", "_law_draw", L2.defArgs st26, L2.defBody st26, L2.defScope st26, [], []⟩
def dd27 : He.DefD := ⟨("_law_pick", none), "_law_pick", "_law_pick", L2.defArgs st27, L2.defBody st27, L2.defScope st27, [], []⟩
def dd28 : He.DefD := ⟨("_law_pairs", none), "_law_pairs", "_law_pairs", L2.defArgs st28, L2.defBody st28, L2.defScope st28, [], []⟩
def dd29 : He.DefD := ⟨("_law_items", none), "_law_items", "_law_items", L2.defArgs st29, L2.defBody st29, L2.defScope st29, [], []⟩
def dd30 : He.DefD := ⟨("_law_plain_told", none), "_law_plain_told", "_law_plain_told", L2.defArgs st30, L2.defBody st30, L2.defScope st30, [], []⟩
def dd31 : He.DefD := ⟨("_law_applied", none), "_law_applied", "_law_applied", L2.defArgs st31, L2.defBody st31, L2.defScope st31, [], []⟩
def dd32 : He.DefD := ⟨("_law_some_edit", none), "_law_some_edit", "_law_some_edit", L2.defArgs st32, L2.defBody st32, L2.defScope st32, [], []⟩
def dd33 : He.DefD := ⟨("_law_line", none), "_law_line", "_law_line", L2.defArgs st33, L2.defBody st33, L2.defScope st33, [], []⟩
def dd34 : He.DefD := ⟨("_law_back", none), "_law_back", "_law_back", L2.defArgs st34, L2.defBody st34, L2.defScope st34, [], []⟩
def dd35 : He.DefD := ⟨("_law_edit_right", none), "_law_edit_right", "_law_edit_right", L2.defArgs st35, L2.defBody st35, L2.defScope st35, [], []⟩
def dd36 : He.DefD := ⟨("_law_near_right", none), "_law_near_right", "_law_near_right", L2.defArgs st36, L2.defBody st36, L2.defScope st36, [], []⟩
def dd37 : He.DefD := ⟨("law", none), "law", "law", L2.defArgs st37, L2.defBody st37, L2.defScope st37, [], []⟩
def dd38 : He.DefD := ⟨("Plain", some "__init__"), "__init__", "Plain.__init__", L2.defArgs st38, L2.defBody st38, L2.defScope st38, [], []⟩
def dd39 : He.DefD := ⟨("Plain", some "close_gap"), "close_gap", "Plain.close_gap", L2.defArgs st39, L2.defBody st39, L2.defScope st39, [], []⟩
def dd40 : He.DefD := ⟨("Plain", some "keep_signs"), "keep_signs", "Plain.keep_signs", L2.defArgs st40, L2.defBody st40, L2.defScope st40, [], []⟩
def dd41 : He.DefD := ⟨("Plain", some "drop_signs"), "drop_signs", "Plain.drop_signs", L2.defArgs st41, L2.defBody st41, L2.defScope st41, [], []⟩
def dd42 : He.DefD := ⟨("Plain", some "put_text"), "put_text", "Plain.put_text", L2.defArgs st42, L2.defBody st42, L2.defScope st42, [], []⟩
def dd43 : He.DefD := ⟨("Plain", some "told"), "told", "Plain.told", L2.defArgs st43, L2.defBody st43, L2.defScope st43, [], []⟩
def dd44 : He.DefD := ⟨("_law_met", none), "_law_met", "_law_met", L2.defArgs sm0, L2.defBody sm0, L2.defScope sm0, [], []⟩
def dd45 : He.DefD := ⟨("BadSigns", some "__init__"), "__init__", "BadSigns.__init__", L2.defArgs sx0, L2.defBody sx0, L2.defScope sx0, [], []⟩
def dd46 : He.DefD := ⟨("BadWord", some "__init__"), "__init__", "BadWord.__init__", L2.defArgs sx1, L2.defBody sx1, L2.defScope sx1, [], []⟩
def dd47 : He.DefD := ⟨("BadPaper", some "__init__"), "__init__", "BadPaper.__init__", L2.defArgs sx2, L2.defBody sx2, L2.defScope sx2, [], []⟩
def dd48 : He.DefD := ⟨("NotKept", some "__init__"), "__init__", "NotKept.__init__", L2.defArgs sx3, L2.defBody sx3, L2.defScope sx3, [], []⟩
def fn_0 : List He.DefD := [dd0, dd1, dd2, dd3, dd4, dd5, dd6, dd7, dd8, dd9, dd10, dd11, dd12, dd13, dd14, dd15, dd16, dd17, dd18, dd19, dd20, dd21, dd22, dd23, dd24, dd25, dd26, dd27, dd28, dd29]
def fn_1 : List He.DefD := [dd30, dd31, dd32, dd33, dd34, dd35, dd36, dd37, dd38, dd39, dd40, dd41, dd42, dd43, dd44, dd45, dd46, dd47, dd48]
def fn : List He.DefD := fn_0 ++ fn_1
def fa_0 : List He.Fa := [.glo "are_signs", .glo "need_signs", .glo "is_text_in", .glo "need_text", .glo "is_edit_word", .glo "is_edit_in", .glo "pairs_in", .glo "is_edit", .glo "need_edit", .glo "taken_by", .glo "left_by", .glo "edit_sizes", .glo "edit_cost", .glo "plain_in", .glo "plain_edit", .glo "applied_in", .glo "need_taken", .glo "applied", .glo "behind_in", .glo "passed_gone", .glo "edit_behind", .glo "turned_edit", .glo "costs_of", .glo "least_in", .glo "least_edit", .glo "_law_pen", .glo "_law_draw", .glo "_law_pick", .glo "_law_pairs", .glo "_law_items"]
def fa_1 : List He.Fa := [.glo "_law_plain_told", .glo "_law_applied", .glo "_law_some_edit", .glo "_law_line", .glo "_law_back", .glo "_law_edit_right", .glo "_law_near_right", .glo "law", .glo "_law_met", .glo "Plain", .cls "Plain", .mkr "Plain", .noat "Plain" "told_words", .noat "Plain" "kept", .noat "Plain" "dropped", .noat "Plain" "fresh", .meth "Plain" "close_gap", .meth "Plain" "keep_signs", .meth "Plain" "drop_signs", .meth "Plain" "put_text", .meth "Plain" "told", .glo "WayError", .glo "BadSigns", .glo "BadWord", .glo "BadPaper", .glo "NotKept", .noat "BadSigns" "signs", .noat "BadWord" "word", .noat "BadPaper" "paper", .noat "NotKept" "promise"]
def fa_2 : List He.Fa := [.noat "NotKept" "witness", .exm "BadSigns" "BadSigns" true, .exm "BadSigns" "BadPaper" false, .exm "BadSigns" "BadWord" false, .exm "BadSigns" "NotKept" false, .exm "BadWord" "BadSigns" false, .exm "BadWord" "BadPaper" false, .exm "BadWord" "BadWord" true, .exm "BadWord" "NotKept" false, .exm "BadPaper" "BadSigns" false, .exm "BadPaper" "BadPaper" true, .exm "BadPaper" "BadWord" false, .exm "BadPaper" "NotKept" false, .exm "NotKept" "BadSigns" false, .exm "NotKept" "BadPaper" false, .exm "NotKept" "BadWord" false, .exm "NotKept" "NotKept" true, .str "TEXT_SIGNS" (TX.S' [97, 98, 99, 100, 101, 102, 103, 104, 105, 106, 107, 108, 109, 110, 111, 112, 113, 114, 115, 116, 117, 118, 119, 120, 121, 122, 48, 49, 50, 51, 52, 53, 54, 55, 56, 57, 58, 59, 44, 61, 43]), .str "COUNT_SIGNS" (TX.S' [48, 49, 50, 51, 52, 53, 54, 55, 56, 57]), .free "all", .free "dict", .free "enumerate", .free "int", .free "isinstance", .free "len", .free "list", .free "min", .free "range", .free "str", .free "sum"]
def fa_3 : List He.Fa := [.free "tuple", .free "repr"]
def fa : List He.Fa := fa_0 ++ fa_1 ++ fa_2 ++ fa_3
def tq : List (He.Defn × Str) := [(("_law_edit_right", none), "_law_edit_right"), (("_law_near_right", none), "_law_near_right")]
def tf : List He.Defn := tq.map (·.1)
def ex (K : PySem.W.Frag) : Bool := decide (tq.map fun q => (He.cT K q.1).2).Nodup && (TX.oexF K (He.ga K "BadSigns") && (L2.xfB K (He.ga K "BadSigns") && (He.eqO (PySem.W.findIn K (.ref (He.ga K "BadSigns")) "__init__") (some (some (.ref (He.ma K (He.ga K "BadSigns") "__init__")))) && (decide (PySem.W.typeIn K (.ref (He.ma K (He.ga K "BadSigns") "__init__")) = some (.type "function")) && (TX.oexF K (He.ga K "BadWord") && (L2.xfB K (He.ga K "BadWord") && (He.eqO (PySem.W.findIn K (.ref (He.ga K "BadWord")) "__init__") (some (some (.ref (He.ma K (He.ga K "BadWord") "__init__")))) && (decide (PySem.W.typeIn K (.ref (He.ma K (He.ga K "BadWord") "__init__")) = some (.type "function")) && (TX.oexF K (He.ga K "BadPaper") && (L2.xfB K (He.ga K "BadPaper") && (He.eqO (PySem.W.findIn K (.ref (He.ga K "BadPaper")) "__init__") (some (some (.ref (He.ma K (He.ga K "BadPaper") "__init__")))) && (decide (PySem.W.typeIn K (.ref (He.ma K (He.ga K "BadPaper") "__init__")) = some (.type "function")) && (TX.oexF K (He.ga K "NotKept") && (L2.xfB K (He.ga K "NotKept") && (He.eqO (PySem.W.findIn K (.ref (He.ga K "NotKept")) "__init__") (some (some (.ref (He.ma K (He.ga K "NotKept") "__init__")))) && (decide (PySem.W.typeIn K (.ref (He.ma K (He.ga K "NotKept") "__init__")) = some (.type "function"))))))))))))))))))
def fs (K : PySem.W.Frag) : List Addr := [He.fAd K ("are_signs", none), He.fAd K ("need_signs", none), He.fAd K ("is_text_in", none), He.fAd K ("need_text", none), He.fAd K ("is_edit_word", none), He.fAd K ("is_edit_in", none), He.fAd K ("pairs_in", none), He.fAd K ("is_edit", none), He.fAd K ("need_edit", none), He.fAd K ("taken_by", none), He.fAd K ("left_by", none), He.fAd K ("edit_sizes", none), He.fAd K ("edit_cost", none), He.fAd K ("plain_in", none), He.fAd K ("plain_edit", none), He.fAd K ("applied_in", none), He.fAd K ("need_taken", none), He.fAd K ("applied", none), He.fAd K ("behind_in", none), He.fAd K ("passed_gone", none), He.fAd K ("edit_behind", none), He.fAd K ("turned_edit", none), He.fAd K ("costs_of", none), He.fAd K ("least_in", none), He.fAd K ("least_edit", none), He.fAd K ("_law_pen", none), He.fAd K ("_law_draw", none), He.fAd K ("_law_pick", none), He.fAd K ("_law_pairs", none), He.fAd K ("_law_items", none), He.fAd K ("_law_plain_told", none), He.fAd K ("_law_applied", none), He.fAd K ("_law_some_edit", none), He.fAd K ("_law_line", none), He.fAd K ("_law_back", none), He.fAd K ("_law_edit_right", none), He.fAd K ("_law_near_right", none), He.fAd K ("law", none), He.fAd K ("Plain", some "__init__"), He.fAd K ("Plain", some "close_gap"), He.fAd K ("Plain", some "keep_signs"), He.fAd K ("Plain", some "drop_signs"), He.fAd K ("Plain", some "put_text"), He.fAd K ("Plain", some "told")]
def cs (K : PySem.W.Frag) : List Addr := [He.ga K "Plain", He.ga K "WayError", He.ga K "BadSigns", He.ga K "BadWord", He.ga K "BadPaper", He.ga K "NotKept"]
abbrev G (K : PySem.W.Frag) : TX.Gx := src.gx nd K (fs K) (cs K) (tq.map fun q => ((He.cT K q.1).2, TX.lamN q.2)) (tq.map fun q => He.cT K q.1)
section
open L2
set_option maxHeartbeats 0
variable {w : World} {h : Heap} {K : PySem.W.Frag} {mg : Str → Option Value} (X : K.In h) (N : h.Ns mainGlobals mg) (c : He.SaysX fa fn [] tf ex w h K)
include c in
theorem exs : decide (tq.map fun q => (He.cT K q.1).2).Nodup = true ∧ TX.oexF K (He.ga K "BadSigns") = true ∧ L2.xfB K (He.ga K "BadSigns") = true ∧ He.eqO (PySem.W.findIn K (.ref (He.ga K "BadSigns")) "__init__") (some (some (.ref (He.ma K (He.ga K "BadSigns") "__init__")))) = true ∧ decide (PySem.W.typeIn K (.ref (He.ma K (He.ga K "BadSigns") "__init__")) = some (.type "function")) = true ∧ TX.oexF K (He.ga K "BadWord") = true ∧ L2.xfB K (He.ga K "BadWord") = true ∧ He.eqO (PySem.W.findIn K (.ref (He.ga K "BadWord")) "__init__") (some (some (.ref (He.ma K (He.ga K "BadWord") "__init__")))) = true ∧ decide (PySem.W.typeIn K (.ref (He.ma K (He.ga K "BadWord") "__init__")) = some (.type "function")) = true ∧ TX.oexF K (He.ga K "BadPaper") = true ∧ L2.xfB K (He.ga K "BadPaper") = true ∧ He.eqO (PySem.W.findIn K (.ref (He.ga K "BadPaper")) "__init__") (some (some (.ref (He.ma K (He.ga K "BadPaper") "__init__")))) = true ∧ decide (PySem.W.typeIn K (.ref (He.ma K (He.ga K "BadPaper") "__init__")) = some (.type "function")) = true ∧ TX.oexF K (He.ga K "NotKept") = true ∧ L2.xfB K (He.ga K "NotKept") = true ∧ He.eqO (PySem.W.findIn K (.ref (He.ga K "NotKept")) "__init__") (some (some (.ref (He.ma K (He.ga K "NotKept") "__init__")))) = true ∧ decide (PySem.W.typeIn K (.ref (He.ma K (He.ga K "NotKept") "__init__")) = some (.type "function")) = true := by
  have e := c.more
  unfold ex at e
  simp only [Bool.and_eq_true] at e
  exact e
include c in
theorem fa_at0 : He.Fa.ok K (.glo "are_signs") = true := c.t.d.fact 0 rfl
include c in
theorem fa_at1 : He.Fa.ok K (.glo "need_signs") = true := c.t.d.fact 1 rfl
include c in
theorem fa_at2 : He.Fa.ok K (.glo "is_text_in") = true := c.t.d.fact 2 rfl
include c in
theorem fa_at3 : He.Fa.ok K (.glo "need_text") = true := c.t.d.fact 3 rfl
include c in
theorem fa_at4 : He.Fa.ok K (.glo "is_edit_word") = true := c.t.d.fact 4 rfl
include c in
theorem fa_at5 : He.Fa.ok K (.glo "is_edit_in") = true := c.t.d.fact 5 rfl
include c in
theorem fa_at6 : He.Fa.ok K (.glo "pairs_in") = true := c.t.d.fact 6 rfl
include c in
theorem fa_at7 : He.Fa.ok K (.glo "is_edit") = true := c.t.d.fact 7 rfl
include c in
theorem fa_at8 : He.Fa.ok K (.glo "need_edit") = true := c.t.d.fact 8 rfl
include c in
theorem fa_at9 : He.Fa.ok K (.glo "taken_by") = true := c.t.d.fact 9 rfl
include c in
theorem fa_at10 : He.Fa.ok K (.glo "left_by") = true := c.t.d.fact 10 rfl
include c in
theorem fa_at11 : He.Fa.ok K (.glo "edit_sizes") = true := c.t.d.fact 11 rfl
include c in
theorem fa_at12 : He.Fa.ok K (.glo "edit_cost") = true := c.t.d.fact 12 rfl
include c in
theorem fa_at13 : He.Fa.ok K (.glo "plain_in") = true := c.t.d.fact 13 rfl
include c in
theorem fa_at14 : He.Fa.ok K (.glo "plain_edit") = true := c.t.d.fact 14 rfl
include c in
theorem fa_at15 : He.Fa.ok K (.glo "applied_in") = true := c.t.d.fact 15 rfl
include c in
theorem fa_at16 : He.Fa.ok K (.glo "need_taken") = true := c.t.d.fact 16 rfl
include c in
theorem fa_at17 : He.Fa.ok K (.glo "applied") = true := c.t.d.fact 17 rfl
include c in
theorem fa_at18 : He.Fa.ok K (.glo "behind_in") = true := c.t.d.fact 18 rfl
include c in
theorem fa_at19 : He.Fa.ok K (.glo "passed_gone") = true := c.t.d.fact 19 rfl
include c in
theorem fa_at20 : He.Fa.ok K (.glo "edit_behind") = true := c.t.d.fact 20 rfl
include c in
theorem fa_at21 : He.Fa.ok K (.glo "turned_edit") = true := c.t.d.fact 21 rfl
include c in
theorem fa_at22 : He.Fa.ok K (.glo "costs_of") = true := c.t.d.fact 22 rfl
include c in
theorem fa_at23 : He.Fa.ok K (.glo "least_in") = true := c.t.d.fact 23 rfl
include c in
theorem fa_at24 : He.Fa.ok K (.glo "least_edit") = true := c.t.d.fact 24 rfl
include c in
theorem fa_at25 : He.Fa.ok K (.glo "_law_pen") = true := c.t.d.fact 25 rfl
include c in
theorem fa_at26 : He.Fa.ok K (.glo "_law_draw") = true := c.t.d.fact 26 rfl
include c in
theorem fa_at27 : He.Fa.ok K (.glo "_law_pick") = true := c.t.d.fact 27 rfl
include c in
theorem fa_at28 : He.Fa.ok K (.glo "_law_pairs") = true := c.t.d.fact 28 rfl
include c in
theorem fa_at29 : He.Fa.ok K (.glo "_law_items") = true := c.t.d.fact 29 rfl
include c in
theorem fa_at30 : He.Fa.ok K (.glo "_law_plain_told") = true := c.t.d.fact 30 rfl
include c in
theorem fa_at31 : He.Fa.ok K (.glo "_law_applied") = true := c.t.d.fact 31 rfl
include c in
theorem fa_at32 : He.Fa.ok K (.glo "_law_some_edit") = true := c.t.d.fact 32 rfl
include c in
theorem fa_at33 : He.Fa.ok K (.glo "_law_line") = true := c.t.d.fact 33 rfl
include c in
theorem fa_at34 : He.Fa.ok K (.glo "_law_back") = true := c.t.d.fact 34 rfl
include c in
theorem fa_at35 : He.Fa.ok K (.glo "_law_edit_right") = true := c.t.d.fact 35 rfl
include c in
theorem fa_at36 : He.Fa.ok K (.glo "_law_near_right") = true := c.t.d.fact 36 rfl
include c in
theorem fa_at37 : He.Fa.ok K (.glo "law") = true := c.t.d.fact 37 rfl
include c in
theorem fa_at38 : He.Fa.ok K (.glo "_law_met") = true := c.t.d.fact 38 rfl
include c in
theorem fa_at39 : He.Fa.ok K (.glo "Plain") = true := c.t.d.fact 39 rfl
include c in
theorem fa_at40 : He.Fa.ok K (.cls "Plain") = true := c.t.d.fact 40 rfl
include c in
theorem fa_at41 : He.Fa.ok K (.mkr "Plain") = true := c.t.d.fact 41 rfl
include c in
theorem fa_at42 : He.Fa.ok K (.noat "Plain" "told_words") = true := c.t.d.fact 42 rfl
include c in
theorem fa_at43 : He.Fa.ok K (.noat "Plain" "kept") = true := c.t.d.fact 43 rfl
include c in
theorem fa_at44 : He.Fa.ok K (.noat "Plain" "dropped") = true := c.t.d.fact 44 rfl
include c in
theorem fa_at45 : He.Fa.ok K (.noat "Plain" "fresh") = true := c.t.d.fact 45 rfl
include c in
theorem fa_at46 : He.Fa.ok K (.meth "Plain" "close_gap") = true := c.t.d.fact 46 rfl
include c in
theorem fa_at47 : He.Fa.ok K (.meth "Plain" "keep_signs") = true := c.t.d.fact 47 rfl
include c in
theorem fa_at48 : He.Fa.ok K (.meth "Plain" "drop_signs") = true := c.t.d.fact 48 rfl
include c in
theorem fa_at49 : He.Fa.ok K (.meth "Plain" "put_text") = true := c.t.d.fact 49 rfl
include c in
theorem fa_at50 : He.Fa.ok K (.meth "Plain" "told") = true := c.t.d.fact 50 rfl
include c in
theorem fa_at51 : He.Fa.ok K (.glo "WayError") = true := c.t.d.fact 51 rfl
include c in
theorem fa_at52 : He.Fa.ok K (.glo "BadSigns") = true := c.t.d.fact 52 rfl
include c in
theorem fa_at53 : He.Fa.ok K (.glo "BadWord") = true := c.t.d.fact 53 rfl
include c in
theorem fa_at54 : He.Fa.ok K (.glo "BadPaper") = true := c.t.d.fact 54 rfl
include c in
theorem fa_at55 : He.Fa.ok K (.glo "NotKept") = true := c.t.d.fact 55 rfl
include c in
theorem fa_at56 : He.Fa.ok K (.noat "BadSigns" "signs") = true := c.t.d.fact 56 rfl
include c in
theorem fa_at57 : He.Fa.ok K (.noat "BadWord" "word") = true := c.t.d.fact 57 rfl
include c in
theorem fa_at58 : He.Fa.ok K (.noat "BadPaper" "paper") = true := c.t.d.fact 58 rfl
include c in
theorem fa_at59 : He.Fa.ok K (.noat "NotKept" "promise") = true := c.t.d.fact 59 rfl
include c in
theorem fa_at60 : He.Fa.ok K (.noat "NotKept" "witness") = true := c.t.d.fact 60 rfl
include c in
theorem fa_at61 : He.Fa.ok K (.exm "BadSigns" "BadSigns" true) = true := c.t.d.fact 61 rfl
include c in
theorem fa_at62 : He.Fa.ok K (.exm "BadSigns" "BadPaper" false) = true := c.t.d.fact 62 rfl
include c in
theorem fa_at63 : He.Fa.ok K (.exm "BadSigns" "BadWord" false) = true := c.t.d.fact 63 rfl
include c in
theorem fa_at64 : He.Fa.ok K (.exm "BadSigns" "NotKept" false) = true := c.t.d.fact 64 rfl
include c in
theorem fa_at65 : He.Fa.ok K (.exm "BadWord" "BadSigns" false) = true := c.t.d.fact 65 rfl
include c in
theorem fa_at66 : He.Fa.ok K (.exm "BadWord" "BadPaper" false) = true := c.t.d.fact 66 rfl
include c in
theorem fa_at67 : He.Fa.ok K (.exm "BadWord" "BadWord" true) = true := c.t.d.fact 67 rfl
include c in
theorem fa_at68 : He.Fa.ok K (.exm "BadWord" "NotKept" false) = true := c.t.d.fact 68 rfl
include c in
theorem fa_at69 : He.Fa.ok K (.exm "BadPaper" "BadSigns" false) = true := c.t.d.fact 69 rfl
include c in
theorem fa_at70 : He.Fa.ok K (.exm "BadPaper" "BadPaper" true) = true := c.t.d.fact 70 rfl
include c in
theorem fa_at71 : He.Fa.ok K (.exm "BadPaper" "BadWord" false) = true := c.t.d.fact 71 rfl
include c in
theorem fa_at72 : He.Fa.ok K (.exm "BadPaper" "NotKept" false) = true := c.t.d.fact 72 rfl
include c in
theorem fa_at73 : He.Fa.ok K (.exm "NotKept" "BadSigns" false) = true := c.t.d.fact 73 rfl
include c in
theorem fa_at74 : He.Fa.ok K (.exm "NotKept" "BadPaper" false) = true := c.t.d.fact 74 rfl
include c in
theorem fa_at75 : He.Fa.ok K (.exm "NotKept" "BadWord" false) = true := c.t.d.fact 75 rfl
include c in
theorem fa_at76 : He.Fa.ok K (.exm "NotKept" "NotKept" true) = true := c.t.d.fact 76 rfl
include c in
theorem fa_at77 : He.Fa.ok K (.str "TEXT_SIGNS" (TX.S' [97, 98, 99, 100, 101, 102, 103, 104, 105, 106, 107, 108, 109, 110, 111, 112, 113, 114, 115, 116, 117, 118, 119, 120, 121, 122, 48, 49, 50, 51, 52, 53, 54, 55, 56, 57, 58, 59, 44, 61, 43])) = true := c.t.d.fact 77 rfl
include c in
theorem fa_at78 : He.Fa.ok K (.str "COUNT_SIGNS" (TX.S' [48, 49, 50, 51, 52, 53, 54, 55, 56, 57])) = true := c.t.d.fact 78 rfl
include c in
theorem fa_at79 : He.Fa.ok K (.free "all") = true := c.t.d.fact 79 rfl
include c in
theorem fa_at80 : He.Fa.ok K (.free "dict") = true := c.t.d.fact 80 rfl
include c in
theorem fa_at81 : He.Fa.ok K (.free "enumerate") = true := c.t.d.fact 81 rfl
include c in
theorem fa_at82 : He.Fa.ok K (.free "int") = true := c.t.d.fact 82 rfl
include c in
theorem fa_at83 : He.Fa.ok K (.free "isinstance") = true := c.t.d.fact 83 rfl
include c in
theorem fa_at84 : He.Fa.ok K (.free "len") = true := c.t.d.fact 84 rfl
include c in
theorem fa_at85 : He.Fa.ok K (.free "list") = true := c.t.d.fact 85 rfl
include c in
theorem fa_at86 : He.Fa.ok K (.free "min") = true := c.t.d.fact 86 rfl
include c in
theorem fa_at87 : He.Fa.ok K (.free "range") = true := c.t.d.fact 87 rfl
include c in
theorem fa_at88 : He.Fa.ok K (.free "str") = true := c.t.d.fact 88 rfl
include c in
theorem fa_at89 : He.Fa.ok K (.free "sum") = true := c.t.d.fact 89 rfl
include c in
theorem fa_at90 : He.Fa.ok K (.free "tuple") = true := c.t.d.fact 90 rfl
include c in
theorem fa_at91 : He.Fa.ok K (.free "repr") = true := c.t.d.fact 91 rfl
include c in
theorem F0 : ∃ fd, Fun K "are_signs" "are_signs" st0 (He.fAd K ("are_signs", none)) fd := let ⟨fd, F⟩ := c.t.d.def_ 0 (d := dd0) rfl; ⟨fd, TX.fun_ofD F⟩
include c in
theorem F1 : ∃ fd, Fun K "need_signs" "need_signs" st1 (He.fAd K ("need_signs", none)) fd := let ⟨fd, F⟩ := c.t.d.def_ 1 (d := dd1) rfl; ⟨fd, TX.fun_ofD F⟩
include c in
theorem F2 : ∃ fd, Fun K "is_text_in" "is_text_in" st2 (He.fAd K ("is_text_in", none)) fd := let ⟨fd, F⟩ := c.t.d.def_ 2 (d := dd2) rfl; ⟨fd, TX.fun_ofD F⟩
include c in
theorem F3 : ∃ fd, Fun K "need_text" "need_text" st3 (He.fAd K ("need_text", none)) fd := let ⟨fd, F⟩ := c.t.d.def_ 3 (d := dd3) rfl; ⟨fd, TX.fun_ofD F⟩
include c in
theorem F4 : ∃ fd, Fun K "is_edit_word" "is_edit_word" st4 (He.fAd K ("is_edit_word", none)) fd := let ⟨fd, F⟩ := c.t.d.def_ 4 (d := dd4) rfl; ⟨fd, TX.fun_ofD F⟩
include c in
theorem F5 : ∃ fd, Fun K "is_edit_in" "is_edit_in" st5 (He.fAd K ("is_edit_in", none)) fd := let ⟨fd, F⟩ := c.t.d.def_ 5 (d := dd5) rfl; ⟨fd, TX.fun_ofD F⟩
include c in
theorem F6 : ∃ fd, Fun K "pairs_in" "pairs_in" st6 (He.fAd K ("pairs_in", none)) fd := let ⟨fd, F⟩ := c.t.d.def_ 6 (d := dd6) rfl; ⟨fd, TX.fun_ofD F⟩
include c in
theorem F7 : ∃ fd, Fun K "is_edit" "is_edit" st7 (He.fAd K ("is_edit", none)) fd := let ⟨fd, F⟩ := c.t.d.def_ 7 (d := dd7) rfl; ⟨fd, TX.fun_ofD F⟩
include c in
theorem F8 : ∃ fd, Fun K "need_edit" "need_edit" st8 (He.fAd K ("need_edit", none)) fd := let ⟨fd, F⟩ := c.t.d.def_ 8 (d := dd8) rfl; ⟨fd, TX.fun_ofD F⟩
include c in
theorem F9 : ∃ fd, Fun K "taken_by" "taken_by" st9 (He.fAd K ("taken_by", none)) fd := let ⟨fd, F⟩ := c.t.d.def_ 9 (d := dd9) rfl; ⟨fd, TX.fun_ofD F⟩
include c in
theorem F10 : ∃ fd, Fun K "left_by" "left_by" st10 (He.fAd K ("left_by", none)) fd := let ⟨fd, F⟩ := c.t.d.def_ 10 (d := dd10) rfl; ⟨fd, TX.fun_ofD F⟩
include c in
theorem F11 : ∃ fd, Fun K "edit_sizes" "edit_sizes" st11 (He.fAd K ("edit_sizes", none)) fd := let ⟨fd, F⟩ := c.t.d.def_ 11 (d := dd11) rfl; ⟨fd, TX.fun_ofD F⟩
include c in
theorem F12 : ∃ fd, Fun K "edit_cost" "edit_cost" st12 (He.fAd K ("edit_cost", none)) fd := let ⟨fd, F⟩ := c.t.d.def_ 12 (d := dd12) rfl; ⟨fd, TX.fun_ofD F⟩
include c in
theorem F13 : ∃ fd, Fun K "plain_in" "plain_in" st13 (He.fAd K ("plain_in", none)) fd := let ⟨fd, F⟩ := c.t.d.def_ 13 (d := dd13) rfl; ⟨fd, TX.fun_ofD F⟩
include c in
theorem F14 : ∃ fd, Fun K "plain_edit" "plain_edit" st14 (He.fAd K ("plain_edit", none)) fd := let ⟨fd, F⟩ := c.t.d.def_ 14 (d := dd14) rfl; ⟨fd, TX.fun_ofD F⟩
include c in
theorem F15 : ∃ fd, Fun K "applied_in" "applied_in" st15 (He.fAd K ("applied_in", none)) fd := let ⟨fd, F⟩ := c.t.d.def_ 15 (d := dd15) rfl; ⟨fd, TX.fun_ofD F⟩
include c in
theorem F16 : ∃ fd, Fun K "need_taken" "need_taken" st16 (He.fAd K ("need_taken", none)) fd := let ⟨fd, F⟩ := c.t.d.def_ 16 (d := dd16) rfl; ⟨fd, TX.fun_ofD F⟩
include c in
theorem F17 : ∃ fd, Fun K "applied" "applied" st17 (He.fAd K ("applied", none)) fd := let ⟨fd, F⟩ := c.t.d.def_ 17 (d := dd17) rfl; ⟨fd, TX.fun_ofD F⟩
include c in
theorem F18 : ∃ fd, Fun K "behind_in" "behind_in" st18 (He.fAd K ("behind_in", none)) fd := let ⟨fd, F⟩ := c.t.d.def_ 18 (d := dd18) rfl; ⟨fd, TX.fun_ofD F⟩
include c in
theorem F19 : ∃ fd, Fun K "passed_gone" "passed_gone" st19 (He.fAd K ("passed_gone", none)) fd := let ⟨fd, F⟩ := c.t.d.def_ 19 (d := dd19) rfl; ⟨fd, TX.fun_ofD F⟩
include c in
theorem F20 : ∃ fd, Fun K "edit_behind" "edit_behind" st20 (He.fAd K ("edit_behind", none)) fd := let ⟨fd, F⟩ := c.t.d.def_ 20 (d := dd20) rfl; ⟨fd, TX.fun_ofD F⟩
include c in
theorem F21 : ∃ fd, Fun K "turned_edit" "turned_edit" st21 (He.fAd K ("turned_edit", none)) fd := let ⟨fd, F⟩ := c.t.d.def_ 21 (d := dd21) rfl; ⟨fd, TX.fun_ofD F⟩
include c in
theorem F22 : ∃ fd, Fun K "costs_of" "costs_of" st22 (He.fAd K ("costs_of", none)) fd := let ⟨fd, F⟩ := c.t.d.def_ 22 (d := dd22) rfl; ⟨fd, TX.fun_ofD F⟩
include c in
theorem F23 : ∃ fd, Fun K "least_in" "least_in" st23 (He.fAd K ("least_in", none)) fd := let ⟨fd, F⟩ := c.t.d.def_ 23 (d := dd23) rfl; ⟨fd, TX.fun_ofD F⟩
include c in
theorem F24 : ∃ fd, Fun K "least_edit" "least_edit" st24 (He.fAd K ("least_edit", none)) fd := let ⟨fd, F⟩ := c.t.d.def_ 24 (d := dd24) rfl; ⟨fd, TX.fun_ofD F⟩
include c in
theorem F25 : ∃ fd, Fun K "_law_pen" "_law_pen" st25 (He.fAd K ("_law_pen", none)) fd := let ⟨fd, F⟩ := c.t.d.def_ 25 (d := dd25) rfl; ⟨fd, TX.fun_ofD F⟩
include c in
theorem F26 : ∃ fd, Fun K "_law_draw" "_law_draw" st26 (He.fAd K ("_law_draw", none)) fd := let ⟨fd, F⟩ := c.t.d.def_ 26 (d := dd26) rfl; ⟨fd, TX.fun_ofD F⟩
include c in
theorem F27 : ∃ fd, Fun K "_law_pick" "_law_pick" st27 (He.fAd K ("_law_pick", none)) fd := let ⟨fd, F⟩ := c.t.d.def_ 27 (d := dd27) rfl; ⟨fd, TX.fun_ofD F⟩
include c in
theorem F28 : ∃ fd, Fun K "_law_pairs" "_law_pairs" st28 (He.fAd K ("_law_pairs", none)) fd := let ⟨fd, F⟩ := c.t.d.def_ 28 (d := dd28) rfl; ⟨fd, TX.fun_ofD F⟩
include c in
theorem F29 : ∃ fd, Fun K "_law_items" "_law_items" st29 (He.fAd K ("_law_items", none)) fd := let ⟨fd, F⟩ := c.t.d.def_ 29 (d := dd29) rfl; ⟨fd, TX.fun_ofD F⟩
include c in
theorem F30 : ∃ fd, Fun K "_law_plain_told" "_law_plain_told" st30 (He.fAd K ("_law_plain_told", none)) fd := let ⟨fd, F⟩ := c.t.d.def_ 30 (d := dd30) rfl; ⟨fd, TX.fun_ofD F⟩
include c in
theorem F31 : ∃ fd, Fun K "_law_applied" "_law_applied" st31 (He.fAd K ("_law_applied", none)) fd := let ⟨fd, F⟩ := c.t.d.def_ 31 (d := dd31) rfl; ⟨fd, TX.fun_ofD F⟩
include c in
theorem F32 : ∃ fd, Fun K "_law_some_edit" "_law_some_edit" st32 (He.fAd K ("_law_some_edit", none)) fd := let ⟨fd, F⟩ := c.t.d.def_ 32 (d := dd32) rfl; ⟨fd, TX.fun_ofD F⟩
include c in
theorem F33 : ∃ fd, Fun K "_law_line" "_law_line" st33 (He.fAd K ("_law_line", none)) fd := let ⟨fd, F⟩ := c.t.d.def_ 33 (d := dd33) rfl; ⟨fd, TX.fun_ofD F⟩
include c in
theorem F34 : ∃ fd, Fun K "_law_back" "_law_back" st34 (He.fAd K ("_law_back", none)) fd := let ⟨fd, F⟩ := c.t.d.def_ 34 (d := dd34) rfl; ⟨fd, TX.fun_ofD F⟩
include c in
theorem F35 : ∃ fd, Fun K "_law_edit_right" "_law_edit_right" st35 (He.fAd K ("_law_edit_right", none)) fd := let ⟨fd, F⟩ := c.t.d.def_ 35 (d := dd35) rfl; ⟨fd, TX.fun_ofD F⟩
include c in
theorem F36 : ∃ fd, Fun K "_law_near_right" "_law_near_right" st36 (He.fAd K ("_law_near_right", none)) fd := let ⟨fd, F⟩ := c.t.d.def_ 36 (d := dd36) rfl; ⟨fd, TX.fun_ofD F⟩
include c in
theorem F37 : ∃ fd, Fun K "law" "law" st37 (He.fAd K ("law", none)) fd := let ⟨fd, F⟩ := c.t.d.def_ 37 (d := dd37) rfl; ⟨fd, TX.fun_ofD F⟩
include c in
theorem F38 : ∃ fd, Fun K "__init__" "Plain.__init__" st38 (He.fAd K ("Plain", some "__init__")) fd := let ⟨fd, F⟩ := c.t.d.def_ 38 (d := dd38) rfl; ⟨fd, TX.fun_ofD F⟩
include c in
theorem F39 : ∃ fd, Fun K "close_gap" "Plain.close_gap" st39 (He.fAd K ("Plain", some "close_gap")) fd := let ⟨fd, F⟩ := c.t.d.def_ 39 (d := dd39) rfl; ⟨fd, TX.fun_ofD F⟩
include c in
theorem F40 : ∃ fd, Fun K "keep_signs" "Plain.keep_signs" st40 (He.fAd K ("Plain", some "keep_signs")) fd := let ⟨fd, F⟩ := c.t.d.def_ 40 (d := dd40) rfl; ⟨fd, TX.fun_ofD F⟩
include c in
theorem F41 : ∃ fd, Fun K "drop_signs" "Plain.drop_signs" st41 (He.fAd K ("Plain", some "drop_signs")) fd := let ⟨fd, F⟩ := c.t.d.def_ 41 (d := dd41) rfl; ⟨fd, TX.fun_ofD F⟩
include c in
theorem F42 : ∃ fd, Fun K "put_text" "Plain.put_text" st42 (He.fAd K ("Plain", some "put_text")) fd := let ⟨fd, F⟩ := c.t.d.def_ 42 (d := dd42) rfl; ⟨fd, TX.fun_ofD F⟩
include c in
theorem F43 : ∃ fd, Fun K "told" "Plain.told" st43 (He.fAd K ("Plain", some "told")) fd := let ⟨fd, F⟩ := c.t.d.def_ 43 (d := dd43) rfl; ⟨fd, TX.fun_ofD F⟩
include c in
theorem F44 : ∃ fd, Fun K "_law_met" "_law_met" sm0 (He.fAd K ("_law_met", none)) fd := let ⟨fd, F⟩ := c.t.d.def_ 44 (d := dd44) rfl; ⟨fd, TX.fun_ofD F⟩
include c in
theorem F45 : ∃ fd, Fun K "__init__" "BadSigns.__init__" sx0 (He.fAd K ("BadSigns", some "__init__")) fd := let ⟨fd, F⟩ := c.t.d.def_ 45 (d := dd45) rfl; ⟨fd, TX.fun_ofD F⟩
include c in
theorem F46 : ∃ fd, Fun K "__init__" "BadWord.__init__" sx1 (He.fAd K ("BadWord", some "__init__")) fd := let ⟨fd, F⟩ := c.t.d.def_ 46 (d := dd46) rfl; ⟨fd, TX.fun_ofD F⟩
include c in
theorem F47 : ∃ fd, Fun K "__init__" "BadPaper.__init__" sx2 (He.fAd K ("BadPaper", some "__init__")) fd := let ⟨fd, F⟩ := c.t.d.def_ 47 (d := dd47) rfl; ⟨fd, TX.fun_ofD F⟩
include c in
theorem F48 : ∃ fd, Fun K "__init__" "NotKept.__init__" sx3 (He.fAd K ("NotKept", some "__init__")) fd := let ⟨fd, F⟩ := c.t.d.def_ 48 (d := dd48) rfl; ⟨fd, TX.fun_ofD F⟩
include c in
theorem D0 : TX.DefOk (G K) src.pg src.gl src.at_ [] false d0 (He.fAd K ("are_signs", none)) := by
  obtain ⟨fd, F⟩ := F0 c
  have B := F.binds (ps := ["value"]) fun _ _ _ _ _ _ us hl => match us, hl with | [_], _ => rfl
  exact ⟨_, _, _, _, _, _, false, false, 40, 40, F, sc0, B, rfl, rfl, (fun z => by cases z), rfl⟩
include c in
theorem D1 : TX.DefOk (G K) src.pg src.gl src.at_ [] false d1 (He.fAd K ("need_signs", none)) := by
  obtain ⟨fd, F⟩ := F1 c
  have B := F.binds (ps := ["signs"]) fun _ _ _ _ _ _ us hl => match us, hl with | [_], _ => rfl
  exact ⟨_, _, _, _, _, _, false, false, 40, 40, F, sc1, B, rfl, rfl, (fun z => by cases z), rfl⟩
include c in
theorem D2 : TX.DefOk (G K) src.pg src.gl src.at_ [] false d2 (He.fAd K ("is_text_in", none)) := by
  obtain ⟨fd, F⟩ := F2 c
  have B := F.binds (ps := ["signs", "value"]) fun _ _ _ _ _ _ us hl => match us, hl with | [_, _], _ => rfl
  exact ⟨_, _, _, _, _, _, false, false, 40, 40, F, sc2, B, rfl, rfl, (fun z => by cases z), rfl⟩
include c in
theorem D3 : TX.DefOk (G K) src.pg src.gl src.at_ [] false d3 (He.fAd K ("need_text", none)) := by
  obtain ⟨fd, F⟩ := F3 c
  have B := F.binds (ps := ["signs", "text"]) fun _ _ _ _ _ _ us hl => match us, hl with | [_, _], _ => rfl
  exact ⟨_, _, _, _, _, _, false, false, 40, 40, F, sc3, B, rfl, rfl, (fun z => by cases z), rfl⟩
include c in
theorem D4 : TX.DefOk (G K) src.pg src.gl src.at_ [] false d4 (He.fAd K ("is_edit_word", none)) := by
  obtain ⟨fd, F⟩ := F4 c
  have B := F.binds (ps := ["signs", "value"]) fun _ _ _ _ _ _ us hl => match us, hl with | [_, _], _ => rfl
  exact ⟨_, _, _, _, _, _, false, false, 40, 40, F, sc4, B, rfl, rfl, (fun z => by cases z), rfl⟩
include c in
theorem D5 : TX.DefOk (G K) src.pg src.gl src.at_ [] false d5 (He.fAd K ("is_edit_in", none)) := by
  obtain ⟨fd, F⟩ := F5 c
  have B := F.binds (ps := ["signs", "value"]) fun _ _ _ _ _ _ us hl => match us, hl with | [_, _], _ => rfl
  exact ⟨_, _, _, _, _, _, false, false, 40, 40, F, sc5, B, rfl, rfl, (fun z => by cases z), rfl⟩
include c in
theorem D6 : TX.DefOk (G K) src.pg src.gl src.at_ [] false d6 (He.fAd K ("pairs_in", none)) := by
  obtain ⟨fd, F⟩ := F6 c
  have B := F.binds (ps := ["edit"]) fun _ _ _ _ _ _ us hl => match us, hl with | [_], _ => rfl
  exact ⟨_, _, _, _, _, _, false, false, 40, 40, F, sc6, B, rfl, rfl, (fun z => by cases z), rfl⟩
include c in
theorem D7 : TX.DefOk (G K) src.pg src.gl src.at_ [] false d7 (He.fAd K ("is_edit", none)) := by
  obtain ⟨fd, F⟩ := F7 c
  have B := F.binds (ps := ["signs", "value"]) fun _ _ _ _ _ _ us hl => match us, hl with | [_, _], _ => rfl
  exact ⟨_, _, _, _, _, _, false, false, 40, 40, F, sc7, B, rfl, rfl, (fun z => by cases z), rfl⟩
include c in
theorem D8 : TX.DefOk (G K) src.pg src.gl src.at_ [] false d8 (He.fAd K ("need_edit", none)) := by
  obtain ⟨fd, F⟩ := F8 c
  have B := F.binds (ps := ["signs", "edit"]) fun _ _ _ _ _ _ us hl => match us, hl with | [_, _], _ => rfl
  exact ⟨_, _, _, _, _, _, false, false, 40, 40, F, sc8, B, rfl, rfl, (fun z => by cases z), rfl⟩
include c in
theorem D9 : TX.DefOk (G K) src.pg src.gl src.at_ [] false d9 (He.fAd K ("taken_by", none)) := by
  obtain ⟨fd, F⟩ := F9 c
  have B := F.binds (ps := ["edit"]) fun _ _ _ _ _ _ us hl => match us, hl with | [_], _ => rfl
  exact ⟨_, _, _, _, _, _, false, false, 40, 40, F, sc9, B, rfl, rfl, (fun z => by cases z), rfl⟩
include c in
theorem D10 : TX.DefOk (G K) src.pg src.gl src.at_ [] false d10 (He.fAd K ("left_by", none)) := by
  obtain ⟨fd, F⟩ := F10 c
  have B := F.binds (ps := ["edit"]) fun _ _ _ _ _ _ us hl => match us, hl with | [_], _ => rfl
  exact ⟨_, _, _, _, _, _, false, false, 40, 40, F, sc10, B, rfl, rfl, (fun z => by cases z), rfl⟩
include c in
theorem D11 : TX.DefOk (G K) src.pg src.gl src.at_ [] false d11 (He.fAd K ("edit_sizes", none)) := by
  obtain ⟨fd, F⟩ := F11 c
  have B := F.binds (ps := ["signs", "edit"]) fun _ _ _ _ _ _ us hl => match us, hl with | [_, _], _ => rfl
  exact ⟨_, _, _, _, _, _, false, false, 40, 40, F, sc11, B, rfl, rfl, (fun z => by cases z), rfl⟩
include c in
theorem D12 : TX.DefOk (G K) src.pg src.gl src.at_ [] false d12 (He.fAd K ("edit_cost", none)) := by
  obtain ⟨fd, F⟩ := F12 c
  have B := F.binds (ps := ["signs", "edit"]) fun _ _ _ _ _ _ us hl => match us, hl with | [_, _], _ => rfl
  exact ⟨_, _, _, _, _, _, false, false, 40, 40, F, sc12, B, rfl, rfl, (fun z => by cases z), rfl⟩
include c in
theorem D13 : TX.DefOk (G K) src.pg src.gl src.at_ [] false d13 (He.fAd K ("plain_in", none)) := by
  obtain ⟨fd, F⟩ := F13 c
  have B := F.binds (ps := ["edit"]) fun _ _ _ _ _ _ us hl => match us, hl with | [_], _ => rfl
  exact ⟨_, _, _, _, _, _, false, false, 40, 40, F, sc13, B, rfl, rfl, (fun z => by cases z), rfl⟩
include c in
theorem D14 : TX.DefOk (G K) src.pg src.gl src.at_ [] false d14 (He.fAd K ("plain_edit", none)) := by
  obtain ⟨fd, F⟩ := F14 c
  have B := F.binds (ps := ["signs", "edit"]) fun _ _ _ _ _ _ us hl => match us, hl with | [_, _], _ => rfl
  exact ⟨_, _, _, _, _, _, false, false, 40, 40, F, sc14, B, rfl, rfl, (fun z => by cases z), rfl⟩
include c in
theorem D15 : TX.DefOk (G K) src.pg src.gl src.at_ [] false d15 (He.fAd K ("applied_in", none)) := by
  obtain ⟨fd, F⟩ := F15 c
  have B := F.binds (ps := ["edit", "text"]) fun _ _ _ _ _ _ us hl => match us, hl with | [_, _], _ => rfl
  exact ⟨_, _, _, _, _, _, false, false, 40, 40, F, sc15, B, rfl, rfl, (fun z => by cases z), rfl⟩
include c in
theorem D16 : TX.DefOk (G K) src.pg src.gl src.at_ [] false d16 (He.fAd K ("need_taken", none)) := by
  obtain ⟨fd, F⟩ := F16 c
  have B := F.binds (ps := ["edit", "many"]) fun _ _ _ _ _ _ us hl => match us, hl with | [_, _], _ => rfl
  exact ⟨_, _, _, _, _, _, false, false, 40, 40, F, sc16, B, rfl, rfl, (fun z => by cases z), rfl⟩
include c in
theorem D17 : TX.DefOk (G K) src.pg src.gl src.at_ [] false d17 (He.fAd K ("applied", none)) := by
  obtain ⟨fd, F⟩ := F17 c
  have B := F.binds (ps := ["signs", "edit", "text"]) fun _ _ _ _ _ _ us hl => match us, hl with | [_, _, _], _ => rfl
  exact ⟨_, _, _, _, _, _, false, false, 40, 40, F, sc17, B, rfl, rfl, (fun z => by cases z), rfl⟩
include c in
theorem D18 : TX.DefOk (G K) src.pg src.gl src.at_ [] false d18 (He.fAd K ("behind_in", none)) := by
  obtain ⟨fd, F⟩ := F18 c
  have B := F.binds (ps := ["one", "two"]) fun _ _ _ _ _ _ us hl => match us, hl with | [_, _], _ => rfl
  exact ⟨_, _, _, _, _, _, false, false, 40, 40, F, sc18, B, rfl, rfl, (fun z => by cases z), rfl⟩
include c in
theorem D19 : TX.DefOk (G K) src.pg src.gl src.at_ [] false d19 (He.fAd K ("passed_gone", none)) := by
  obtain ⟨fd, F⟩ := F19 c
  have B := F.binds (ps := ["plain", "signs", "at"]) fun _ _ _ _ _ _ us hl => match us, hl with | [_, _, _], _ => rfl
  exact ⟨_, _, _, _, _, _, false, false, 40, 40, F, sc19, B, rfl, rfl, (fun z => by cases z), rfl⟩
include c in
theorem D20 : TX.DefOk (G K) src.pg src.gl src.at_ [] false d20 (He.fAd K ("edit_behind", none)) := by
  obtain ⟨fd, F⟩ := F20 c
  have B := F.binds (ps := ["signs", "one", "two"]) fun _ _ _ _ _ _ us hl => match us, hl with | [_, _, _], _ => rfl
  exact ⟨_, _, _, _, _, _, false, false, 40, 40, F, sc20, B, rfl, rfl, (fun z => by cases z), rfl⟩
include c in
theorem D21 : TX.DefOk (G K) src.pg src.gl src.at_ [] false d21 (He.fAd K ("turned_edit", none)) := by
  obtain ⟨fd, F⟩ := F21 c
  have B := F.binds (ps := ["signs", "edit", "text"]) fun _ _ _ _ _ _ us hl => match us, hl with | [_, _, _], _ => rfl
  exact ⟨_, _, _, _, _, _, false, false, 40, 40, F, sc21, B, rfl, rfl, (fun z => by cases z), rfl⟩
include c in
theorem D22 : TX.DefOk (G K) src.pg src.gl src.at_ [] false d22 (He.fAd K ("costs_of", none)) := by
  obtain ⟨fd, F⟩ := F22 c
  have B := F.binds (ps := ["first", "second"]) fun _ _ _ _ _ _ us hl => match us, hl with | [_, _], _ => rfl
  exact ⟨_, _, _, _, _, _, false, false, 40, 40, F, sc22, B, rfl, rfl, (fun z => by cases z), rfl⟩
include c in
theorem D23 : TX.DefOk (G K) src.pg src.gl src.at_ [] false d23 (He.fAd K ("least_in", none)) := by
  obtain ⟨fd, F⟩ := F23 c
  have B := F.binds (ps := ["first", "second"]) fun _ _ _ _ _ _ us hl => match us, hl with | [_, _], _ => rfl
  exact ⟨_, _, _, _, _, _, false, false, 40, 40, F, sc23, B, rfl, rfl, (fun z => by cases z), rfl⟩
include c in
theorem D24 : TX.DefOk (G K) src.pg src.gl src.at_ [] false d24 (He.fAd K ("least_edit", none)) := by
  obtain ⟨fd, F⟩ := F24 c
  have B := F.binds (ps := ["signs", "first", "second"]) fun _ _ _ _ _ _ us hl => match us, hl with | [_, _, _], _ => rfl
  exact ⟨_, _, _, _, _, _, false, false, 40, 40, F, sc24, B, rfl, rfl, (fun z => by cases z), rfl⟩
include c in
theorem D25 : TX.DefOk (G K) src.pg src.gl src.at_ [] false d25 (He.fAd K ("_law_pen", none)) := by
  obtain ⟨fd, F⟩ := F25 c
  have B := F.binds (ps := ["script"]) fun _ _ _ _ _ _ us hl => match us, hl with | [_], _ => rfl
  exact ⟨_, _, _, _, _, _, false, false, 40, 40, F, sc25, B, rfl, rfl, (fun z => by cases z), rfl⟩
include c in
theorem D26 : TX.DefOk (G K) src.pg src.gl src.at_ [] false d26 (He.fAd K ("_law_draw", none)) := by
  obtain ⟨fd, F⟩ := F26 c
  have B := F.binds (ps := ["pen", "many"]) fun _ _ _ _ _ _ us hl => match us, hl with | [_, _], _ => rfl
  exact ⟨_, _, _, _, _, _, false, false, 40, 40, F, sc26, B, rfl, rfl, (fun z => by cases z), rfl⟩
include c in
theorem D27 : TX.DefOk (G K) src.pg src.gl src.at_ [] false d27 (He.fAd K ("_law_pick", none)) := by
  obtain ⟨fd, F⟩ := F27 c
  have B := F.binds (ps := ["pen", "some"]) fun _ _ _ _ _ _ us hl => match us, hl with | [_, _], _ => rfl
  exact ⟨_, _, _, _, _, _, false, false, 40, 40, F, sc27, B, rfl, rfl, (fun z => by cases z), rfl⟩
include c in
theorem D28 : TX.DefOk (G K) src.pg src.gl src.at_ [] false d28 (He.fAd K ("_law_pairs", none)) := by
  obtain ⟨fd, F⟩ := F28 c
  have B := F.binds (ps := ["edit"]) fun _ _ _ _ _ _ us hl => match us, hl with | [_], _ => rfl
  exact ⟨_, _, _, _, _, _, false, false, 40, 40, F, sc28, B, rfl, rfl, (fun z => by cases z), rfl⟩
include c in
theorem D29 : TX.DefOk (G K) src.pg src.gl src.at_ [] false d29 (He.fAd K ("_law_items", none)) := by
  obtain ⟨fd, F⟩ := F29 c
  have B := F.binds (ps := ["edit"]) fun _ _ _ _ _ _ us hl => match us, hl with | [_], _ => rfl
  exact ⟨_, _, _, _, _, _, false, false, 40, 40, F, sc29, B, rfl, rfl, (fun z => by cases z), rfl⟩
include c in
theorem D30 : TX.DefOk (G K) src.pg src.gl src.at_ [] false d30 (He.fAd K ("_law_plain_told", none)) := by
  obtain ⟨fd, F⟩ := F30 c
  have B := F.binds (ps := ["items", "many"]) fun _ _ _ _ _ _ us hl => match us, hl with | [_, _], _ => rfl
  exact ⟨_, _, _, _, _, _, false, false, 40, 40, F, sc30, B, rfl, rfl, (fun z => by cases z), rfl⟩
include c in
theorem D31 : TX.DefOk (G K) src.pg src.gl src.at_ [] false d31 (He.fAd K ("_law_applied", none)) := by
  obtain ⟨fd, F⟩ := F31 c
  have B := F.binds (ps := ["items", "text"]) fun _ _ _ _ _ _ us hl => match us, hl with | [_, _], _ => rfl
  exact ⟨_, _, _, _, _, _, false, false, 40, 40, F, sc31, B, rfl, rfl, (fun z => by cases z), rfl⟩
include c in
theorem D32 : TX.DefOk (G K) src.pg src.gl src.at_ [] false d32 (He.fAd K ("_law_some_edit", none)) := by
  obtain ⟨fd, F⟩ := F32 c
  have B := F.binds (ps := ["pen", "signs", "many"]) fun _ _ _ _ _ _ us hl => match us, hl with | [_, _, _], _ => rfl
  exact ⟨_, _, _, _, _, _, false, false, 40, 40, F, sc32, B, rfl, rfl, (fun z => by cases z), rfl⟩
include c in
theorem D33 : TX.DefOk (G K) src.pg src.gl src.at_ [] false d33 (He.fAd K ("_law_line", none)) := by
  obtain ⟨fd, F⟩ := F33 c
  have B := F.binds (ps := ["pen", "signs", "most"]) fun _ _ _ _ _ _ us hl => match us, hl with | [_, _, _], _ => rfl
  exact ⟨_, _, _, _, _, _, false, false, 40, 40, F, sc33, B, rfl, rfl, (fun z => by cases z), rfl⟩
include c in
theorem D34 : TX.DefOk (G K) src.pg src.gl src.at_ [] false d34 (He.fAd K ("_law_back", none)) := by
  obtain ⟨fd, F⟩ := F34 c
  have B := F.binds (ps := ["items", "text"]) fun _ _ _ _ _ _ us hl => match us, hl with | [_, _], _ => rfl
  exact ⟨_, _, _, _, _, _, false, false, 40, 40, F, sc34, B, rfl, rfl, (fun z => by cases z), rfl⟩
include c in
theorem D35 : TX.DefOk (G K) src.pg src.gl src.at_ [] false d35 (He.fAd K ("_law_edit_right", none)) := by
  obtain ⟨fd, F⟩ := F35 c
  have B := F.binds (ps := ["pen", "signs", "text", "edit"]) fun _ _ _ _ _ _ us hl => match us, hl with | [_, _, _, _], _ => rfl
  exact ⟨_, _, _, _, _, _, false, true, 40, 40, F, sc35, B, rfl, rfl, fun _ => TX.la_of (of_decide_eq_true (exs c).1) (p := ("_law_edit_right", none)) (qual := "_law_edit_right") (by decide +kernel) (TX.code_of F), rfl⟩
include c in
theorem D36 : TX.DefOk (G K) src.pg src.gl src.at_ rg true d36 (He.fAd K ("_law_near_right", none)) := by
  obtain ⟨fd, F⟩ := F36 c
  have B := F.binds (ps := ["pen", "signs", "edit"]) fun _ _ _ _ _ _ us hl => match us, hl with | [_, _, _], _ => rfl
  exact ⟨_, _, _, _, _, _, false, true, 40, 40, F, sc36, B, rfl, rfl, fun _ => TX.la_of (of_decide_eq_true (exs c).1) (p := ("_law_near_right", none)) (qual := "_law_near_right") (by decide +kernel) (TX.code_of F), rfl⟩
include c in
theorem D37 : TX.DefOk (G K) src.pg src.gl src.at_ rg true d37 (He.fAd K ("law", none)) := by
  obtain ⟨fd, F⟩ := F37 c
  have B := F.binds (ps := ["script"]) fun _ _ _ _ _ _ us hl => match us, hl with | [_], _ => rfl
  exact ⟨_, _, _, _, _, _, false, false, 40, 40, F, sc37, B, rfl, rfl, (fun z => by cases z), rfl⟩
include c in
theorem D38 : TX.DefOk (G K) src.pg src.gl src.at_ [] false d38 (He.fAd K ("Plain", some "__init__")) := by
  obtain ⟨fd, F⟩ := F38 c
  have B := F.binds (ps := ["self"]) fun _ _ _ _ _ _ us hl => match us, hl with | [_], _ => rfl
  exact ⟨_, _, _, _, _, _, false, false, 40, 40, F, sc38, B, rfl, rfl, (fun z => by cases z), rfl⟩
include c in
theorem D39 : TX.DefOk (G K) src.pg src.gl src.at_ [] false d39 (He.fAd K ("Plain", some "close_gap")) := by
  obtain ⟨fd, F⟩ := F39 c
  have B := F.binds (ps := ["self"]) fun _ _ _ _ _ _ us hl => match us, hl with | [_], _ => rfl
  exact ⟨_, _, _, _, _, _, false, false, 40, 40, F, sc39, B, rfl, rfl, (fun z => by cases z), rfl⟩
include c in
theorem D40 : TX.DefOk (G K) src.pg src.gl src.at_ [] false d40 (He.fAd K ("Plain", some "keep_signs")) := by
  obtain ⟨fd, F⟩ := F40 c
  have B := F.binds (ps := ["self", "n"]) fun _ _ _ _ _ _ us hl => match us, hl with | [_, _], _ => rfl
  exact ⟨_, _, _, _, _, _, false, false, 40, 40, F, sc40, B, rfl, rfl, (fun z => by cases z), rfl⟩
include c in
theorem D41 : TX.DefOk (G K) src.pg src.gl src.at_ [] false d41 (He.fAd K ("Plain", some "drop_signs")) := by
  obtain ⟨fd, F⟩ := F41 c
  have B := F.binds (ps := ["self", "n"]) fun _ _ _ _ _ _ us hl => match us, hl with | [_, _], _ => rfl
  exact ⟨_, _, _, _, _, _, false, false, 40, 40, F, sc41, B, rfl, rfl, (fun z => by cases z), rfl⟩
include c in
theorem D42 : TX.DefOk (G K) src.pg src.gl src.at_ [] false d42 (He.fAd K ("Plain", some "put_text")) := by
  obtain ⟨fd, F⟩ := F42 c
  have B := F.binds (ps := ["self", "text"]) fun _ _ _ _ _ _ us hl => match us, hl with | [_, _], _ => rfl
  exact ⟨_, _, _, _, _, _, false, false, 40, 40, F, sc42, B, rfl, rfl, (fun z => by cases z), rfl⟩
include c in
theorem D43 : TX.DefOk (G K) src.pg src.gl src.at_ [] false d43 (He.fAd K ("Plain", some "told")) := by
  obtain ⟨fd, F⟩ := F43 c
  have B := F.binds (ps := ["self"]) fun _ _ _ _ _ _ us hl => match us, hl with | [_], _ => rfl
  exact ⟨_, _, _, _, _, _, false, false, 40, 40, F, sc43, B, rfl, rfl, (fun z => by cases z), rfl⟩
include c in
theorem X0 : TX.XiT (G K) mg (He.ga K "BadSigns") [13] := by
  obtain ⟨fd, F⟩ := F45 c
  have B := F.binds (ps := ["self", "signs"]) fun _ _ _ _ _ _ us hl => match us, hl with | [_, _], _ => rfl
  refine ⟨(show ∀ f ∈ ([13] : List Nat), f < names.length by decide +kernel), by decide, by decide, ⟨TX.oexF_ok ((exs c).2.1), xfB_ok ((exs c).2.2.1), fun f hf => ?_⟩, _, fd, _, He.eqO_ok ((exs c).2.2.2.1), of_decide_eq_true ((exs c).2.2.2.2.1), B, fun P w base => ?_⟩
  · have hf' : f ∈ (["signs"] : List Str) := hf
    simp only [List.mem_cons, List.not_mem_nil, or_false] at hf'
    subst hf'; exact He.noat_ok (fa_at56 c)
  · exact TX.init1_ok F scx0 rfl (.inl rfl) (.inl rfl) (by decide) (by decide)
include c in
theorem X1 : TX.XiT (G K) mg (He.ga K "BadWord") [15] := by
  obtain ⟨fd, F⟩ := F46 c
  have B := F.binds (ps := ["self", "word"]) fun _ _ _ _ _ _ us hl => match us, hl with | [_, _], _ => rfl
  refine ⟨(show ∀ f ∈ ([15] : List Nat), f < names.length by decide +kernel), by decide, by decide, ⟨TX.oexF_ok ((exs c).2.2.2.2.2.1), xfB_ok ((exs c).2.2.2.2.2.2.1), fun f hf => ?_⟩, _, fd, _, He.eqO_ok ((exs c).2.2.2.2.2.2.2.1), of_decide_eq_true ((exs c).2.2.2.2.2.2.2.2.1), B, fun P w base => ?_⟩
  · have hf' : f ∈ (["word"] : List Str) := hf
    simp only [List.mem_cons, List.not_mem_nil, or_false] at hf'
    subst hf'; exact He.noat_ok (fa_at57 c)
  · exact TX.init1_ok F scx1 rfl (.inl rfl) (.inl rfl) (by decide) (by decide)
include c in
theorem X2 : TX.XiT (G K) mg (He.ga K "BadPaper") [14] := by
  obtain ⟨fd, F⟩ := F47 c
  have B := F.binds (ps := ["self", "paper"]) fun _ _ _ _ _ _ us hl => match us, hl with | [_, _], _ => rfl
  refine ⟨(show ∀ f ∈ ([14] : List Nat), f < names.length by decide +kernel), by decide, by decide, ⟨TX.oexF_ok ((exs c).2.2.2.2.2.2.2.2.2.1), xfB_ok ((exs c).2.2.2.2.2.2.2.2.2.2.1), fun f hf => ?_⟩, _, fd, _, He.eqO_ok ((exs c).2.2.2.2.2.2.2.2.2.2.2.1), of_decide_eq_true ((exs c).2.2.2.2.2.2.2.2.2.2.2.2.1), B, fun P w base => ?_⟩
  · have hf' : f ∈ (["paper"] : List Str) := hf
    simp only [List.mem_cons, List.not_mem_nil, or_false] at hf'
    subst hf'; exact He.noat_ok (fa_at58 c)
  · exact TX.init1_ok F scx2 rfl (.inl rfl) (.inl rfl) (by decide) (by decide)
include c in
theorem X3 : TX.XiT (G K) mg (He.ga K "NotKept") [16, 17] := by
  obtain ⟨fd, F⟩ := F48 c
  have B := F.binds (ps := ["self", "promise", "witness"]) fun _ _ _ _ _ _ us hl => match us, hl with | [_, _, _], _ => rfl
  refine ⟨(show ∀ f ∈ ([16, 17] : List Nat), f < names.length by decide +kernel), by decide, by decide, ⟨TX.oexF_ok ((exs c).2.2.2.2.2.2.2.2.2.2.2.2.2.1), xfB_ok ((exs c).2.2.2.2.2.2.2.2.2.2.2.2.2.2.1), fun f hf => ?_⟩, _, fd, _, He.eqO_ok ((exs c).2.2.2.2.2.2.2.2.2.2.2.2.2.2.2.1), of_decide_eq_true ((exs c).2.2.2.2.2.2.2.2.2.2.2.2.2.2.2.2), B, fun P w base => ?_⟩
  · have hf' : f ∈ (["promise", "witness"] : List Str) := hf
    simp only [List.mem_cons, List.not_mem_nil, or_false] at hf'
    rcases hf' with rfl | rfl
    · exact He.noat_ok (fa_at59 c)
    · exact He.noat_ok (fa_at60 c)
  · exact TX.init2_ok F scx3 rfl (.inl rfl) (.inl rfl) (.inl rfl) (by decide) (by decide) (by decide)
include X N c in
theorem M0 : TX.MetOk (G K) src.pg K mg "_law_met" hs__law_met := by
  obtain ⟨fd, F⟩ := F44 c
  have B := F.binds (ps := ["call"]) fun _ _ _ _ _ _ us hl => match us, hl with | [_], _ => rfl
  have kp := F.kp
  obtain ⟨oc, od, kV, doc, pm, an, cdv, ct, osl, rfl, lk, hcd⟩ := F.ex
  have ms : TX.MetHs (G K) K mg ["call", "e"] (L2.defScope sm0) (TX.hdsOf sm0) hs__law_met := (.cons (i := 1) rfl rfl rfl (by decide) (by decide) (He.glo_ok X N (fa_at52 c)) rfl (⟨TX.oexF_ok ((exs c).2.1), xfB_ok ((exs c).2.2.1), fun f hf => by
      have hf' : f ∈ (["signs"] : List Str) := hf
      simp only [List.mem_cons, List.not_mem_nil, or_false] at hf'
      subst hf'; exact He.noat_ok (fa_at56 c)⟩) (by decide) (.str (.fld rfl .nil)) (.cons (i := 1) rfl rfl rfl (by decide) (by decide) (He.glo_ok X N (fa_at54 c)) rfl (⟨TX.oexF_ok ((exs c).2.2.2.2.2.2.2.2.2.1), xfB_ok ((exs c).2.2.2.2.2.2.2.2.2.2.1), fun f hf => by
      have hf' : f ∈ (["paper"] : List Str) := hf
      simp only [List.mem_cons, List.not_mem_nil, or_false] at hf'
      subst hf'; exact He.noat_ok (fa_at58 c)⟩) (by decide) (.str (.fld rfl .nil)) (.cons (i := 1) rfl rfl rfl (by decide) (by decide) (He.glo_ok X N (fa_at53 c)) rfl (⟨TX.oexF_ok ((exs c).2.2.2.2.2.1), xfB_ok ((exs c).2.2.2.2.2.2.1), fun f hf => by
      have hf' : f ∈ (["word"] : List Str) := hf
      simp only [List.mem_cons, List.not_mem_nil, or_false] at hf'
      subst hf'; exact He.noat_ok (fa_at57 c)⟩) (by decide) (.str (.fld rfl .nil)) (.cons (i := 1) rfl rfl rfl (by decide) (by decide) (He.glo_ok X N (fa_at55 c)) rfl (⟨TX.oexF_ok ((exs c).2.2.2.2.2.2.2.2.2.2.2.2.2.1), xfB_ok ((exs c).2.2.2.2.2.2.2.2.2.2.2.2.2.2.1), fun f hf => by
      have hf' : f ∈ (["promise", "witness"] : List Str) := hf
      simp only [List.mem_cons, List.not_mem_nil, or_false] at hf'
      rcases hf' with rfl | rfl
      · exact He.noat_ok (fa_at59 c)
      · exact He.noat_ok (fa_at60 c)⟩) (by decide) (.str (.fld rfl (.fld rfl .nil))) .nil))))
  exact ⟨_, _, _, _, _, _, _, _, _, _, _, _, _, _, _, _, _, _, _, _, _, He.glo_ok X N (fa_at38 c), kp, lk, hcd, B, scm0, rfl, .inl rfl, by decide, ms, TX.sub_of (s := src) (cs := cs K) (.cons (.cons ⟨_, _, rfl, rfl, He.exm_ok (fa_at61 c)⟩ (.cons ⟨_, _, rfl, rfl, He.exm_ok (fa_at62 c)⟩ (.cons ⟨_, _, rfl, rfl, He.exm_ok (fa_at63 c)⟩ (.cons ⟨_, _, rfl, rfl, He.exm_ok (fa_at64 c)⟩ .nil)))) (.cons (.cons ⟨_, _, rfl, rfl, He.exm_ok (fa_at65 c)⟩ (.cons ⟨_, _, rfl, rfl, He.exm_ok (fa_at66 c)⟩ (.cons ⟨_, _, rfl, rfl, He.exm_ok (fa_at67 c)⟩ (.cons ⟨_, _, rfl, rfl, He.exm_ok (fa_at68 c)⟩ .nil)))) (.cons (.cons ⟨_, _, rfl, rfl, He.exm_ok (fa_at69 c)⟩ (.cons ⟨_, _, rfl, rfl, He.exm_ok (fa_at70 c)⟩ (.cons ⟨_, _, rfl, rfl, He.exm_ok (fa_at71 c)⟩ (.cons ⟨_, _, rfl, rfl, He.exm_ok (fa_at72 c)⟩ .nil)))) (.cons (.cons ⟨_, _, rfl, rfl, He.exm_ok (fa_at73 c)⟩ (.cons ⟨_, _, rfl, rfl, He.exm_ok (fa_at74 c)⟩ (.cons ⟨_, _, rfl, rfl, He.exm_ok (fa_at75 c)⟩ (.cons ⟨_, _, rfl, rfl, He.exm_ok (fa_at76 c)⟩ .nil)))) .nil))))⟩
include c in
theorem dfs : TX.AlN (fun g d f => (rp g = false → TX.DefOk (G K) src.pg src.gl src.at_ [] false d f) ∧ (rp g = true → TX.DefOk (G K) src.pg src.gl src.at_ rg true d f)) 0 src.defs (fs K) := (.cons ⟨fun _ => D0 c, fun z => absurd z (by decide)⟩ (.cons ⟨fun _ => D1 c, fun z => absurd z (by decide)⟩ (.cons ⟨fun _ => D2 c, fun z => absurd z (by decide)⟩ (.cons ⟨fun _ => D3 c, fun z => absurd z (by decide)⟩ (.cons ⟨fun _ => D4 c, fun z => absurd z (by decide)⟩ (.cons ⟨fun _ => D5 c, fun z => absurd z (by decide)⟩ (.cons ⟨fun _ => D6 c, fun z => absurd z (by decide)⟩ (.cons ⟨fun _ => D7 c, fun z => absurd z (by decide)⟩ (.cons ⟨fun _ => D8 c, fun z => absurd z (by decide)⟩ (.cons ⟨fun _ => D9 c, fun z => absurd z (by decide)⟩ (.cons ⟨fun _ => D10 c, fun z => absurd z (by decide)⟩ (.cons ⟨fun _ => D11 c, fun z => absurd z (by decide)⟩ (.cons ⟨fun _ => D12 c, fun z => absurd z (by decide)⟩ (.cons ⟨fun _ => D13 c, fun z => absurd z (by decide)⟩ (.cons ⟨fun _ => D14 c, fun z => absurd z (by decide)⟩ (.cons ⟨fun _ => D15 c, fun z => absurd z (by decide)⟩ (.cons ⟨fun _ => D16 c, fun z => absurd z (by decide)⟩ (.cons ⟨fun _ => D17 c, fun z => absurd z (by decide)⟩ (.cons ⟨fun _ => D18 c, fun z => absurd z (by decide)⟩ (.cons ⟨fun _ => D19 c, fun z => absurd z (by decide)⟩ (.cons ⟨fun _ => D20 c, fun z => absurd z (by decide)⟩ (.cons ⟨fun _ => D21 c, fun z => absurd z (by decide)⟩ (.cons ⟨fun _ => D22 c, fun z => absurd z (by decide)⟩ (.cons ⟨fun _ => D23 c, fun z => absurd z (by decide)⟩ (.cons ⟨fun _ => D24 c, fun z => absurd z (by decide)⟩ (.cons ⟨fun _ => D25 c, fun z => absurd z (by decide)⟩ (.cons ⟨fun _ => D26 c, fun z => absurd z (by decide)⟩ (.cons ⟨fun _ => D27 c, fun z => absurd z (by decide)⟩ (.cons ⟨fun _ => D28 c, fun z => absurd z (by decide)⟩ (.cons ⟨fun _ => D29 c, fun z => absurd z (by decide)⟩ (.cons ⟨fun _ => D30 c, fun z => absurd z (by decide)⟩ (.cons ⟨fun _ => D31 c, fun z => absurd z (by decide)⟩ (.cons ⟨fun _ => D32 c, fun z => absurd z (by decide)⟩ (.cons ⟨fun _ => D33 c, fun z => absurd z (by decide)⟩ (.cons ⟨fun _ => D34 c, fun z => absurd z (by decide)⟩ (.cons ⟨fun _ => D35 c, fun z => absurd z (by decide)⟩ (.cons ⟨fun z => absurd z (by decide), fun _ => D36 c⟩ (.cons ⟨fun z => absurd z (by decide), fun _ => D37 c⟩ (.cons ⟨fun _ => D38 c, fun z => absurd z (by decide)⟩ (.cons ⟨fun _ => D39 c, fun z => absurd z (by decide)⟩ (.cons ⟨fun _ => D40 c, fun z => absurd z (by decide)⟩ (.cons ⟨fun _ => D41 c, fun z => absurd z (by decide)⟩ (.cons ⟨fun _ => D42 c, fun z => absurd z (by decide)⟩ (.cons ⟨fun _ => D43 c, fun z => absurd z (by decide)⟩ .nil))))))))))))))))))))))))))))))))))))))))))))
include X N c in
theorem txt : TX.Txt (G K) src.pg src.gl src.at_ mg rp := by
  refine TX.txt_of (rg := rg) ⟨by decide +kernel, by decide +kernel, by decide +kernel, by decide +kernel⟩ ?_ ?_ ?_ ?_ ?_
  · exact dfs c
  · exact (.cons (show TX.GlFact src (G K) K mg (fs K) (cs K) rp _ from ⟨_, rfl, He.glo_ok X N (fa_at0 c), by decide +kernel, by decide⟩) (.cons (show TX.GlFact src (G K) K mg (fs K) (cs K) rp _ from ⟨_, rfl, He.glo_ok X N (fa_at1 c), by decide +kernel, by decide⟩) (.cons (show TX.GlFact src (G K) K mg (fs K) (cs K) rp _ from ⟨_, rfl, He.glo_ok X N (fa_at2 c), by decide +kernel, by decide⟩) (.cons (show TX.GlFact src (G K) K mg (fs K) (cs K) rp _ from ⟨_, rfl, He.glo_ok X N (fa_at3 c), by decide +kernel, by decide⟩) (.cons (show TX.GlFact src (G K) K mg (fs K) (cs K) rp _ from ⟨_, rfl, He.glo_ok X N (fa_at4 c), by decide +kernel, by decide⟩) (.cons (show TX.GlFact src (G K) K mg (fs K) (cs K) rp _ from ⟨_, rfl, He.glo_ok X N (fa_at5 c), by decide +kernel, by decide⟩) (.cons (show TX.GlFact src (G K) K mg (fs K) (cs K) rp _ from ⟨_, rfl, He.glo_ok X N (fa_at6 c), by decide +kernel, by decide⟩) (.cons (show TX.GlFact src (G K) K mg (fs K) (cs K) rp _ from ⟨_, rfl, He.glo_ok X N (fa_at7 c), by decide +kernel, by decide⟩) (.cons (show TX.GlFact src (G K) K mg (fs K) (cs K) rp _ from ⟨_, rfl, He.glo_ok X N (fa_at8 c), by decide +kernel, by decide⟩) (.cons (show TX.GlFact src (G K) K mg (fs K) (cs K) rp _ from ⟨_, rfl, He.glo_ok X N (fa_at9 c), by decide +kernel, by decide⟩) (.cons (show TX.GlFact src (G K) K mg (fs K) (cs K) rp _ from ⟨_, rfl, He.glo_ok X N (fa_at10 c), by decide +kernel, by decide⟩) (.cons (show TX.GlFact src (G K) K mg (fs K) (cs K) rp _ from ⟨_, rfl, He.glo_ok X N (fa_at11 c), by decide +kernel, by decide⟩) (.cons (show TX.GlFact src (G K) K mg (fs K) (cs K) rp _ from ⟨_, rfl, He.glo_ok X N (fa_at12 c), by decide +kernel, by decide⟩) (.cons (show TX.GlFact src (G K) K mg (fs K) (cs K) rp _ from ⟨_, rfl, He.glo_ok X N (fa_at13 c), by decide +kernel, by decide⟩) (.cons (show TX.GlFact src (G K) K mg (fs K) (cs K) rp _ from ⟨_, rfl, He.glo_ok X N (fa_at14 c), by decide +kernel, by decide⟩) (.cons (show TX.GlFact src (G K) K mg (fs K) (cs K) rp _ from ⟨_, rfl, He.glo_ok X N (fa_at15 c), by decide +kernel, by decide⟩) (.cons (show TX.GlFact src (G K) K mg (fs K) (cs K) rp _ from ⟨_, rfl, He.glo_ok X N (fa_at16 c), by decide +kernel, by decide⟩) (.cons (show TX.GlFact src (G K) K mg (fs K) (cs K) rp _ from ⟨_, rfl, He.glo_ok X N (fa_at17 c), by decide +kernel, by decide⟩) (.cons (show TX.GlFact src (G K) K mg (fs K) (cs K) rp _ from ⟨_, rfl, He.glo_ok X N (fa_at18 c), by decide +kernel, by decide⟩) (.cons (show TX.GlFact src (G K) K mg (fs K) (cs K) rp _ from ⟨_, rfl, He.glo_ok X N (fa_at19 c), by decide +kernel, by decide⟩) (.cons (show TX.GlFact src (G K) K mg (fs K) (cs K) rp _ from ⟨_, rfl, He.glo_ok X N (fa_at20 c), by decide +kernel, by decide⟩) (.cons (show TX.GlFact src (G K) K mg (fs K) (cs K) rp _ from ⟨_, rfl, He.glo_ok X N (fa_at21 c), by decide +kernel, by decide⟩) (.cons (show TX.GlFact src (G K) K mg (fs K) (cs K) rp _ from ⟨_, rfl, He.glo_ok X N (fa_at22 c), by decide +kernel, by decide⟩) (.cons (show TX.GlFact src (G K) K mg (fs K) (cs K) rp _ from ⟨_, rfl, He.glo_ok X N (fa_at23 c), by decide +kernel, by decide⟩) (.cons (show TX.GlFact src (G K) K mg (fs K) (cs K) rp _ from ⟨_, rfl, He.glo_ok X N (fa_at24 c), by decide +kernel, by decide⟩) (.cons (show TX.GlFact src (G K) K mg (fs K) (cs K) rp _ from ⟨_, rfl, He.glo_ok X N (fa_at25 c), by decide +kernel, by decide⟩) (.cons (show TX.GlFact src (G K) K mg (fs K) (cs K) rp _ from ⟨_, rfl, He.glo_ok X N (fa_at26 c), by decide +kernel, by decide⟩) (.cons (show TX.GlFact src (G K) K mg (fs K) (cs K) rp _ from ⟨_, rfl, He.glo_ok X N (fa_at27 c), by decide +kernel, by decide⟩) (.cons (show TX.GlFact src (G K) K mg (fs K) (cs K) rp _ from ⟨_, rfl, He.glo_ok X N (fa_at28 c), by decide +kernel, by decide⟩) (.cons (show TX.GlFact src (G K) K mg (fs K) (cs K) rp _ from ⟨_, rfl, He.glo_ok X N (fa_at29 c), by decide +kernel, by decide⟩) (.cons (show TX.GlFact src (G K) K mg (fs K) (cs K) rp _ from ⟨_, rfl, He.glo_ok X N (fa_at30 c), by decide +kernel, by decide⟩) (.cons (show TX.GlFact src (G K) K mg (fs K) (cs K) rp _ from ⟨_, rfl, He.glo_ok X N (fa_at31 c), by decide +kernel, by decide⟩) (.cons (show TX.GlFact src (G K) K mg (fs K) (cs K) rp _ from ⟨_, rfl, He.glo_ok X N (fa_at32 c), by decide +kernel, by decide⟩) (.cons (show TX.GlFact src (G K) K mg (fs K) (cs K) rp _ from ⟨_, rfl, He.glo_ok X N (fa_at33 c), by decide +kernel, by decide⟩) (.cons (show TX.GlFact src (G K) K mg (fs K) (cs K) rp _ from ⟨_, rfl, He.glo_ok X N (fa_at34 c), by decide +kernel, by decide⟩) (.cons (show TX.GlFact src (G K) K mg (fs K) (cs K) rp _ from ⟨_, rfl, He.glo_ok X N (fa_at35 c), by decide +kernel, by decide⟩) (.cons (show TX.GlFact src (G K) K mg (fs K) (cs K) rp _ from ⟨_, _, 38, He.glo_ok X N (fa_at39 c), rfl, rfl, He.mkr_ok (fa_at41 c), He.cls_ok (fa_at40 c), rfl, by decide +kernel, by decide⟩) (.cons (show TX.GlFact src (G K) K mg (fs K) (cs K) rp _ from ⟨_, He.glo_ok X N (fa_at51 c), rfl, fun l e => by cases e⟩) (.cons (show TX.GlFact src (G K) K mg (fs K) (cs K) rp _ from ⟨_, He.glo_ok X N (fa_at52 c), rfl, fun l e => (show [13] = l from Option.some.inj e) ▸ X0 c⟩) (.cons (show TX.GlFact src (G K) K mg (fs K) (cs K) rp _ from ⟨_, He.glo_ok X N (fa_at53 c), rfl, fun l e => (show [15] = l from Option.some.inj e) ▸ X1 c⟩) (.cons (show TX.GlFact src (G K) K mg (fs K) (cs K) rp _ from ⟨_, He.glo_ok X N (fa_at54 c), rfl, fun l e => (show [14] = l from Option.some.inj e) ▸ X2 c⟩) (.cons (show TX.GlFact src (G K) K mg (fs K) (cs K) rp _ from ⟨_, He.glo_ok X N (fa_at55 c), rfl, fun l e => (show [16, 17] = l from Option.some.inj e) ▸ X3 c⟩) (.cons (show TX.GlFact src (G K) K mg (fs K) (cs K) rp _ from M0 X N c) (.cons (show TX.GlFact src (G K) K mg (fs K) (cs K) rp _ from let ⟨t, e⟩ := He.str_ok X N (fa_at77 c); ⟨L2.V.str (TX.S' [97, 98, 99, 100, 101, 102, 103, 104, 105, 106, 107, 108, 109, 110, 111, 112, 113, 114, 115, 116, 117, 118, 119, 120, 121, 122, 48, 49, 50, 51, 52, 53, 54, 55, 56, 57, 58, 59, 44, 61, 43]), _, e, ⟨_, rfl⟩, fun _ _ _ => by simp only [TX.RV]⟩) (.cons (show TX.GlFact src (G K) K mg (fs K) (cs K) rp _ from let ⟨t, e⟩ := He.str_ok X N (fa_at78 c); ⟨L2.V.str (TX.S' [48, 49, 50, 51, 52, 53, 54, 55, 56, 57]), _, e, ⟨_, rfl⟩, fun _ _ _ => by simp only [TX.RV]⟩) (.cons (show TX.GlFact src (G K) K mg (fs K) (cs K) rp _ from ⟨He.free_ok X N (fa_at79 c), by decide +kernel⟩) (.cons (show TX.GlFact src (G K) K mg (fs K) (cs K) rp _ from ⟨He.free_ok X N (fa_at80 c), by decide +kernel⟩) (.cons (show TX.GlFact src (G K) K mg (fs K) (cs K) rp _ from He.free_ok X N (fa_at81 c)) (.cons (show TX.GlFact src (G K) K mg (fs K) (cs K) rp _ from ⟨He.free_ok X N (fa_at82 c), by decide +kernel⟩) (.cons (show TX.GlFact src (G K) K mg (fs K) (cs K) rp _ from ⟨He.free_ok X N (fa_at83 c), by decide +kernel⟩) (.cons (show TX.GlFact src (G K) K mg (fs K) (cs K) rp _ from ⟨He.free_ok X N (fa_at84 c), by decide +kernel⟩) (.cons (show TX.GlFact src (G K) K mg (fs K) (cs K) rp _ from ⟨He.free_ok X N (fa_at85 c), by decide +kernel⟩) (.cons (show TX.GlFact src (G K) K mg (fs K) (cs K) rp _ from ⟨He.free_ok X N (fa_at86 c), by decide +kernel⟩) (.cons (show TX.GlFact src (G K) K mg (fs K) (cs K) rp _ from He.free_ok X N (fa_at87 c)) (.cons (show TX.GlFact src (G K) K mg (fs K) (cs K) rp _ from ⟨He.free_ok X N (fa_at88 c), by decide +kernel⟩) (.cons (show TX.GlFact src (G K) K mg (fs K) (cs K) rp _ from ⟨He.free_ok X N (fa_at89 c), by decide +kernel⟩) (.cons (show TX.GlFact src (G K) K mg (fs K) (cs K) rp _ from ⟨He.free_ok X N (fa_at90 c), by decide +kernel⟩) .nil)))))))))))))))))))))))))))))))))))))))))))))))))))))))))
  · exact (.cons ⟨_, _, rfl, He.meth_ok (fa_at46 c), rfl, by decide +kernel, by decide⟩ (.cons ⟨_, _, rfl, He.meth_ok (fa_at47 c), rfl, by decide +kernel, by decide⟩ (.cons ⟨_, _, rfl, He.meth_ok (fa_at48 c), rfl, by decide +kernel, by decide⟩ (.cons ⟨_, _, rfl, He.meth_ok (fa_at49 c), rfl, by decide +kernel, by decide⟩ (.cons ⟨_, _, rfl, He.meth_ok (fa_at50 c), rfl, by decide +kernel, by decide⟩ .nil)))))
  · exact (.cons ⟨_, rfl, He.noat_ok (fa_at42 c)⟩ (.cons ⟨_, rfl, He.noat_ok (fa_at43 c)⟩ (.cons ⟨_, rfl, He.noat_ok (fa_at44 c)⟩ (.cons ⟨_, rfl, He.noat_ok (fa_at45 c)⟩ .nil))))
  · exact fun p hp => by obtain ⟨q, hq, rfl⟩ := List.mem_map.mp hp; exact ⟨_, List.mem_map.mpr ⟨q, hq, rfl⟩, rfl⟩
include X N c in
theorem txg : TX.TxG (G K) src.pg src.gl src.at_ mg rp rg := by
  refine TX.txG_of (dfs c) ?_ (He.free_ok X N (fa_at91 c))
  exact (.cons ⟨_, rfl, He.glo_ok X N (fa_at36 c), by decide +kernel, by decide⟩ (.cons ⟨_, rfl, He.glo_ok X N (fa_at37 c), by decide +kernel, by decide⟩ .nil))
include X N c in
theorem law_at {P : Program} {fa0 : Addr} (hfa : mg "law" = some (.ref fa0)) (hrun : ∀ (ns : List Int) (v : TX.W) (h0 : TX.Hp), ns.length ≤ 63 → TX.Script ns v h0 → ∃ h, TX.run src.pg 100000 40 37 [v] h0 = .ok (.bl true) h) :
    ∃ fd : FuncData, (∀ (s : Shared) (u : Value), BindsTo s fd ⟨[u], []⟩ [("script", u)]) ∧ ∀ base : Heap, (∀ p ∈ (G K).cs, LamX.TabB base mg p.1 p.2) → TX.FnG P w K mg base (CX P w) 40 fa0 fd ["script"] (TX.spLaw (G K)) := by
  have e := hfa.symm.trans (He.glo_ok X N (fa_at37 c))
  cases e
  obtain ⟨fd, F⟩ := F37 c
  refine ⟨fd, fun s u => ?_, fun base TB => TX.law_okG (k := 38) (F := 100000) (txt X N c) (txg X N c) TB (g := 37) (d := d37) (by rw [TX.Src.fns]; rfl) rfl ⟨F, sc37, rfl, rfl, (fun z => by cases z), rfl⟩ hrun⟩
  obtain ⟨oc, od, kV, doc, pm, an, cdv, ct, osl, rfl, lk, hcd⟩ := F.ex
  exact .of_eq rfl
end
end K74
end
section
set_option maxRecDepth 100000
namespace K74
theorem t0 : tr0 = ((.cons (.iff (.or (.nt (.bfn .isi (.cons (.var 0) (.cons (.cst (.ty "str")) .nil)))) (.or (.nt (.chn .le .le (.cst (.int 1)) (.bfn .len (.cons (.var 0) .nil)) (.cst (.int 10)))) (.nt (.bfn .all (.cons (.lc (.cmp .inn (.var 1) (.cst (.str [97, 98, 99, 100, 101, 102, 103, 104, 105, 106, 107, 108, 109, 110, 111, 112, 113, 114, 115, 116, 117, 118, 119, 120, 121, 122, 48, 49, 50, 51, 52, 53, 54, 55, 56, 57, 58, 59, 44, 61, 43]))) (.nm 1) (.ex (.var 0)) .nil [1]) .nil))))) (.cons (.ret (.cst (.bl false))) .nil) .nil) (.cons (.ret (.cmp .eq (.bfn .len (.cons (.dc (.var 1) (.cst (.bl true)) (.nm 1) (.ex (.var 0)) [1]) .nil)) (.bfn .len (.cons (.var 0) .nil)))) .nil)) : TX.Ss) := by rfl
theorem t1 : tr1 = ((.cons (.iff (.nt (.cal 0 (.cons (.var 0) .nil))) (.cons (.rai 2 (.cons (.var 0) .nil)) .nil) .nil) .nil) : TX.Ss) := by rfl
theorem t2 : tr2 = ((.cons (.ret (.and (.bfn .isi (.cons (.var 1) (.cons (.cst (.ty "str")) .nil))) (.bfn .all (.cons (.lc (.cmp .inn (.var 2) (.var 0)) (.nm 2) (.ex (.var 1)) .nil [2]) .nil)))) .nil) : TX.Ss) := by rfl
theorem t3 : tr3 = ((.cons (.iff (.nt (.cal 2 (.cons (.var 0) (.cons (.var 1) .nil)))) (.cons (.rai 3 (.cons (.var 1) .nil)) .nil) .nil) .nil) : TX.Ss) := by rfl
theorem t4 : tr4 = ((.cons (.iff (.or (.nt (.bfn .isi (.cons (.var 1) (.cons (.cst (.ty "str")) .nil)))) (.cmp .lt (.bfn .len (.cons (.var 1) .nil)) (.cst (.int 2)))) (.cons (.ret (.cst (.bl false))) .nil) .nil) (.cons (.iff (.cmp .eq (.ix (.var 1) (.cst (.int 0))) (.cst (.str [112]))) (.cons (.ret (.cal 2 (.cons (.var 0) (.cons (.sl (.var 1) (.som (.cst (.int 1))) .non) .nil)))) .nil) .nil) (.cons (.iff (.or (.cmp .nin (.ix (.var 1) (.cst (.int 0))) (.tup (.cons (.cst (.str [107])) (.cons (.cst (.str [100])) .nil)))) (.or (.cmp .gt (.bfn .len (.cons (.var 1) .nil)) (.cst (.int 7))) (.cmp .eq (.ix (.var 1) (.cst (.int 1))) (.cst (.str [48]))))) (.cons (.ret (.cst (.bl false))) .nil) .nil) (.cons (.ret (.bfn .all (.cons (.lc (.cmp .inn (.var 2) (.cst (.str [48, 49, 50, 51, 52, 53, 54, 55, 56, 57]))) (.nm 2) (.ex (.sl (.var 1) (.som (.cst (.int 1))) .non)) .nil [2]) .nil))) .nil)))) : TX.Ss) := by rfl
theorem t5 : tr5 = ((.cons (.ret (.and (.bfn .isi (.cons (.var 1) (.cons (.cst (.ty "tuple")) .nil))) (.bfn .all (.cons (.lc (.cal 4 (.cons (.var 0) (.cons (.var 2) .nil))) (.nm 2) (.ex (.var 1)) .nil [2]) .nil)))) .nil) : TX.Ss) := by rfl
theorem t6 : tr6 = ((.cons (.ret (.lc (.tup (.cons (.ix (.var 1) (.cst (.int 0))) (.cons (.ite (.cmp .eq (.ix (.var 1) (.cst (.int 0))) (.cst (.str [112]))) (.sl (.var 1) (.som (.cst (.int 1))) .non) (.bfn .int (.cons (.sl (.var 1) (.som (.cst (.int 1))) .non) .nil))) .nil))) (.nm 1) (.ex (.var 0)) .nil [1])) .nil) : TX.Ss) := by rfl
theorem t7 : tr7 = ((.cons (.exp (.cal 1 (.cons (.var 0) .nil))) (.cons (.ret (.cal 5 (.cons (.var 0) (.cons (.var 1) .nil)))) .nil)) : TX.Ss) := by rfl
theorem t8 : tr8 = ((.cons (.exp (.cal 1 (.cons (.var 0) .nil))) (.cons (.iff (.nt (.cal 5 (.cons (.var 0) (.cons (.var 1) .nil)))) (.cons (.rai 4 (.cons (.var 1) .nil)) .nil) .nil) .nil)) : TX.Ss) := by rfl
theorem t9 : tr9 = ((.cons (.ret (.bfn .sum (.cons (.lc (.var 2) (.tp (.cons (.nm 1) (.cons (.nm 2) .nil))) (.ex (.cal 6 (.cons (.var 0) .nil))) (.one (.cmp .ne (.var 1) (.cst (.str [112])))) [1, 2]) .nil))) .nil) : TX.Ss) := by rfl
theorem t10 : tr10 = ((.cons (.ret (.bfn .sum (.cons (.lc (.ite (.cmp .eq (.var 1) (.cst (.str [112]))) (.bfn .len (.cons (.var 2) .nil)) (.var 2)) (.tp (.cons (.nm 1) (.cons (.nm 2) .nil))) (.ex (.cal 6 (.cons (.var 0) .nil))) (.one (.cmp .ne (.var 1) (.cst (.str [100])))) [1, 2]) .nil))) .nil) : TX.Ss) := by rfl
theorem t11 : tr11 = ((.cons (.exp (.cal 8 (.cons (.var 0) (.cons (.var 1) .nil)))) (.cons (.ret (.tup (.cons (.cal 9 (.cons (.var 1) .nil)) (.cons (.cal 10 (.cons (.var 1) .nil)) .nil)))) .nil)) : TX.Ss) := by rfl
theorem t12 : tr12 = ((.cons (.exp (.cal 8 (.cons (.var 0) (.cons (.var 1) .nil)))) (.cons (.ret (.bfn .sum (.cons (.lc (.ite (.cmp .eq (.var 2) (.cst (.str [112]))) (.bfn .len (.cons (.var 3) .nil)) (.var 3)) (.tp (.cons (.nm 2) (.cons (.nm 3) .nil))) (.ex (.cal 6 (.cons (.var 1) .nil))) (.one (.cmp .ne (.var 2) (.cst (.str [107])))) [2, 3]) .nil))) .nil)) : TX.Ss) := by rfl
theorem t13 : tr13 = ((.cons (.asg (.nm 1) (.new 0 .nil)) (.cons (.for (.tp (.cons (.nm 2) (.cons (.nm 3) .nil))) (.ex (.cal 6 (.cons (.var 0) .nil))) (.cons (.iff (.cmp .eq (.var 2) (.cst (.str [107]))) (.cons (.exp (.mth (.var 1) 5 (.cons (.var 3) .nil))) .nil) (.cons (.iff (.cmp .eq (.var 2) (.cst (.str [100]))) (.cons (.exp (.mth (.var 1) 6 (.cons (.var 3) .nil))) .nil) (.cons (.exp (.mth (.var 1) 7 (.cons (.var 3) .nil))) .nil)) .nil)) .nil)) (.cons (.ret (.mth (.var 1) 4 .nil)) .nil))) : TX.Ss) := by rfl
theorem t14 : tr14 = ((.cons (.exp (.cal 8 (.cons (.var 0) (.cons (.var 1) .nil)))) (.cons (.ret (.cal 13 (.cons (.var 1) .nil))) .nil)) : TX.Ss) := by rfl
theorem t15 : tr15 = ((.cons (.asg (.tp (.cons (.nm 2) (.cons (.nm 3) .nil))) (.tup (.cons (.cst (.str [])) (.cons (.cst (.int 0)) .nil)))) (.cons (.for (.tp (.cons (.nm 4) (.cons (.nm 5) .nil))) (.ex (.cal 6 (.cons (.var 0) .nil))) (.cons (.iff (.cmp .eq (.var 4) (.cst (.str [112]))) (.cons (.aug 2 .add (.var 5)) .nil) (.cons (.aug 2 .add (.ite (.cmp .eq (.var 4) (.cst (.str [107]))) (.sl (.var 1) (.som (.var 3)) (.som (.bin .add (.var 3) (.var 5)))) (.cst (.str [])))) (.cons (.aug 3 .add (.var 5)) .nil))) .nil)) (.cons (.ret (.var 2)) .nil))) : TX.Ss) := by rfl
theorem t16 : tr16 = ((.cons (.iff (.cmp .ne (.cal 9 (.cons (.var 0) .nil)) (.var 1)) (.cons (.rai 5 (.cons (.cst (.str [108, 101, 110, 103, 116, 104])) (.cons (.cal 9 (.cons (.var 0) .nil)) .nil))) .nil) .nil) .nil) : TX.Ss) := by rfl
theorem t17 : tr17 = ((.cons (.exp (.cal 8 (.cons (.var 0) (.cons (.var 1) .nil)))) (.cons (.exp (.cal 3 (.cons (.var 0) (.cons (.var 2) .nil)))) (.cons (.exp (.cal 16 (.cons (.var 1) (.cons (.bfn .len (.cons (.var 2) .nil)) .nil)))) (.cons (.ret (.cal 15 (.cons (.var 1) (.cons (.var 2) .nil)))) .nil)))) : TX.Ss) := by rfl
theorem t18 : tr18 = ((.cons (.asg (.tp (.cons (.nm 3) (.cons (.nm 4) .nil))) (.tup (.cons (.new 0 .nil) (.cons (.lst .nil) .nil)))) (.cons (.for (.tp (.cons (.nm 5) (.cons (.nm 6) .nil))) (.ex (.cal 6 (.cons (.var 0) .nil))) (.cons (.iff (.cmp .eq (.var 5) (.cst (.str [100]))) (.cons (.exp (.mth (.var 4) 0 (.cons (.tup (.cons (.cst (.str [103, 111, 110, 101])) (.cons (.var 6) .nil))) .nil))) .nil) (.cons (.iff (.cmp .eq (.var 5) (.cst (.str [107]))) (.cons (.exp (.mth (.var 4) 1 (.cons (.bin .mul (.lst (.cons (.tup (.cons (.cst (.str [111, 108, 100])) (.cons (.cst .non) .nil))) .nil)) (.var 6)) .nil))) .nil) (.cons (.exp (.mth (.var 4) 1 (.cons (.lc (.tup (.cons (.cst (.str [110, 101, 119])) (.cons (.var 9) .nil))) (.nm 9) (.ex (.var 6)) .nil [9]) .nil))) .nil)) .nil)) .nil)) (.cons (.asg (.nm 2) (.cst (.int 0))) (.cons (.for (.tp (.cons (.nm 5) (.cons (.nm 6) .nil))) (.ex (.cal 6 (.cons (.var 1) .nil))) (.cons (.iff (.cmp .eq (.var 5) (.cst (.str [112]))) (.cons (.exp (.mth (.var 3) 7 (.cons (.var 6) .nil))) (.cons .cnt .nil)) .nil) (.cons (.for (.nm 7) (.rng (.cons (.var 6) .nil)) (.cons (.asg (.nm 2) (.cal 19 (.cons (.var 3) (.cons (.var 4) (.cons (.var 2) .nil))))) (.cons (.asg (.tp (.cons (.nm 8) (.cons (.nm 9) .nil))) (.ix (.var 4) (.var 2))) (.cons (.aug 2 .add (.cst (.int 1))) (.cons (.iff (.and (.cmp .eq (.var 8) (.cst (.str [111, 108, 100]))) (.cmp .eq (.var 5) (.cst (.str [107])))) (.cons (.exp (.mth (.var 3) 5 (.cons (.cst (.int 1)) .nil))) .nil) (.cons (.iff (.cmp .eq (.var 8) (.cst (.str [111, 108, 100]))) (.cons (.exp (.mth (.var 3) 6 (.cons (.cst (.int 1)) .nil))) .nil) (.cons (.iff (.cmp .eq (.var 5) (.cst (.str [107]))) (.cons (.exp (.mth (.var 3) 7 (.cons (.var 9) .nil))) .nil) .nil) .nil)) .nil)) .nil))))) .nil))) (.cons (.exp (.cal 19 (.cons (.var 3) (.cons (.var 4) (.cons (.var 2) .nil))))) (.cons (.ret (.mth (.var 3) 4 .nil)) .nil)))))) : TX.Ss) := by rfl
theorem t19 : tr19 = ((.cons (.whl (.and (.cmp .lt (.var 2) (.bfn .len (.cons (.var 1) .nil))) (.cmp .eq (.ix (.ix (.var 1) (.var 2)) (.cst (.int 0))) (.cst (.str [103, 111, 110, 101])))) (.cons (.exp (.mth (.var 0) 6 (.cons (.ix (.ix (.var 1) (.var 2)) (.cst (.int 1))) .nil))) (.cons (.aug 2 .add (.cst (.int 1))) .nil))) (.cons (.ret (.var 2)) .nil)) : TX.Ss) := by rfl
theorem t20 : tr20 = ((.cons (.exp (.cal 8 (.cons (.var 0) (.cons (.var 1) .nil)))) (.cons (.exp (.cal 8 (.cons (.var 0) (.cons (.var 2) .nil)))) (.cons (.exp (.cal 16 (.cons (.var 2) (.cons (.cal 10 (.cons (.var 1) .nil)) .nil)))) (.cons (.ret (.cal 18 (.cons (.var 1) (.cons (.var 2) .nil)))) .nil)))) : TX.Ss) := by rfl
theorem t21 : tr21 = ((.cons (.exp (.cal 8 (.cons (.var 0) (.cons (.var 1) .nil)))) (.cons (.exp (.cal 3 (.cons (.var 0) (.cons (.var 2) .nil)))) (.cons (.exp (.cal 16 (.cons (.var 1) (.cons (.bfn .len (.cons (.var 2) .nil)) .nil)))) (.cons (.asg (.tp (.cons (.nm 3) (.cons (.nm 4) .nil))) (.tup (.cons (.new 0 .nil) (.cons (.cst (.int 0)) .nil)))) (.cons (.for (.tp (.cons (.nm 5) (.cons (.nm 6) .nil))) (.ex (.cal 6 (.cons (.var 1) .nil))) (.cons (.iff (.cmp .eq (.var 5) (.cst (.str [112]))) (.cons (.exp (.mth (.var 3) 6 (.cons (.bfn .len (.cons (.var 6) .nil)) .nil))) .nil) (.cons (.iff (.cmp .eq (.var 5) (.cst (.str [107]))) (.cons (.exp (.mth (.var 3) 5 (.cons (.var 6) .nil))) (.cons (.aug 4 .add (.var 6)) .nil)) (.cons (.exp (.mth (.var 3) 7 (.cons (.sl (.var 2) (.som (.var 4)) (.som (.bin .add (.var 4) (.var 6)))) .nil))) (.cons (.aug 4 .add (.var 6)) .nil))) .nil)) .nil)) (.cons (.ret (.mth (.var 3) 4 .nil)) .nil)))))) : TX.Ss) := by rfl
theorem t22 : tr22 = ((.cons (.asg (.nm 2) (.lc (.bin .sub (.bfn .len (.cons (.var 1) .nil)) (.var 5)) (.nm 5) (.rng (.cons (.bin .add (.bfn .len (.cons (.var 1) .nil)) (.cst (.int 1))) .nil)) .nil [5])) (.cons (.asg (.nm 3) (.lst (.cons (.var 2) .nil))) (.cons (.for (.nm 4) (.rng (.cons (.bin .sub (.bfn .len (.cons (.var 0) .nil)) (.cst (.int 1))) (.cons (.neg (.cst (.int 1))) (.cons (.neg (.cst (.int 1))) .nil)))) (.cons (.asg (.tp (.cons (.nm 6) (.cons (.nm 2) .nil))) (.tup (.cons (.var 2) (.cons (.bin .add (.bin .mul (.lst (.cons (.cst (.int 0)) .nil)) (.bfn .len (.cons (.var 1) .nil))) (.lst (.cons (.bin .sub (.bfn .len (.cons (.var 0) .nil)) (.var 4)) .nil))) .nil)))) (.cons (.for (.nm 5) (.rng (.cons (.bin .sub (.bfn .len (.cons (.var 1) .nil)) (.cst (.int 1))) (.cons (.neg (.cst (.int 1))) (.cons (.neg (.cst (.int 1))) .nil)))) (.cons (.asg (.sb (.var 2) (.var 5)) (.ite (.cmp .eq (.ix (.var 0) (.var 4)) (.ix (.var 1) (.var 5))) (.ix (.var 6) (.bin .add (.var 5) (.cst (.int 1)))) (.bin .add (.cst (.int 1)) (.bfn .min (.cons (.ix (.var 6) (.var 5)) (.cons (.ix (.var 2) (.bin .add (.var 5) (.cst (.int 1)))) .nil)))))) .nil)) (.cons (.exp (.mth (.var 3) 0 (.cons (.var 2) .nil))) .nil)))) (.cons (.ret (.rev (.var 3))) .nil)))) : TX.Ss) := by rfl
theorem t23 : tr23 = ((.cons (.asg (.tp (.cons (.nm 2) (.cons (.nm 3) (.cons (.nm 4) (.cons (.nm 5) .nil))))) (.tup (.cons (.cal 22 (.cons (.var 0) (.cons (.var 1) .nil))) (.cons (.new 0 .nil) (.cons (.cst (.int 0)) (.cons (.cst (.int 0)) .nil)))))) (.cons (.whl (.or (.cmp .lt (.var 4) (.bfn .len (.cons (.var 0) .nil))) (.cmp .lt (.var 5) (.bfn .len (.cons (.var 1) .nil)))) (.cons (.iff (.and (.cmp .lt (.var 4) (.bfn .len (.cons (.var 0) .nil))) (.and (.cmp .lt (.var 5) (.bfn .len (.cons (.var 1) .nil))) (.cmp .eq (.ix (.var 0) (.var 4)) (.ix (.var 1) (.var 5))))) (.cons (.exp (.mth (.var 3) 5 (.cons (.cst (.int 1)) .nil))) (.cons (.asg (.tp (.cons (.nm 4) (.cons (.nm 5) .nil))) (.tup (.cons (.bin .add (.var 4) (.cst (.int 1))) (.cons (.bin .add (.var 5) (.cst (.int 1))) .nil)))) .nil)) (.cons (.iff (.and (.cmp .lt (.var 4) (.bfn .len (.cons (.var 0) .nil))) (.cmp .eq (.ix (.ix (.var 2) (.var 4)) (.var 5)) (.bin .add (.cst (.int 1)) (.ix (.ix (.var 2) (.bin .add (.var 4) (.cst (.int 1)))) (.var 5))))) (.cons (.exp (.mth (.var 3) 6 (.cons (.cst (.int 1)) .nil))) (.cons (.aug 4 .add (.cst (.int 1))) .nil)) (.cons (.exp (.mth (.var 3) 7 (.cons (.ix (.var 1) (.var 5)) .nil))) (.cons (.aug 5 .add (.cst (.int 1))) .nil))) .nil)) .nil)) (.cons (.ret (.mth (.var 3) 4 .nil)) .nil))) : TX.Ss) := by rfl
theorem t24 : tr24 = ((.cons (.exp (.cal 1 (.cons (.var 0) .nil))) (.cons (.exp (.cal 3 (.cons (.var 0) (.cons (.var 1) .nil)))) (.cons (.exp (.cal 3 (.cons (.var 0) (.cons (.var 2) .nil)))) (.cons (.ret (.cal 23 (.cons (.var 1) (.cons (.var 2) .nil)))) .nil)))) : TX.Ss) := by rfl
theorem t25 : tr25 = ((.cons (.asg (.nm 1) (.cst (.int 0))) (.cons (.for (.nm 2) (.ex (.var 0)) (.cons (.asg (.nm 1) (.bin .mod (.bfn .int (.cons (.bin .add (.bin .mul (.var 1) (.cst (.int 67))) (.var 2)) .nil)) (.cst (.int 1000000087)))) .nil)) (.cons (.ret (.dct (.cons (.cst (.str [99, 101, 108, 108, 115])) (.cons (.bfn .list (.cons (.var 0) .nil)) (.cons (.cst (.str [97, 116])) (.cons (.cst (.int 0)) (.cons (.cst (.str [100, 105, 103, 105, 116, 115])) (.cons (.cst (.int 0)) (.cons (.cst (.str [99, 111, 117, 110, 116])) (.cons (.cst (.int 0)) (.cons (.cst (.str [102, 111, 108, 100])) (.cons (.var 1) .nil)))))))))))) .nil))) : TX.Ss) := by rfl
theorem t26 : tr26 = ((.cons (.asg (.sb (.var 0) (.cst (.str [99, 111, 117, 110, 116]))) (.bin .add (.ix (.var 0) (.cst (.str [99, 111, 117, 110, 116]))) (.cst (.int 1)))) (.cons (.iff (.and (.cmp .eq (.ix (.var 0) (.cst (.str [100, 105, 103, 105, 116, 115]))) (.cst (.int 0))) (.cmp .lt (.ix (.var 0) (.cst (.str [97, 116]))) (.bfn .len (.cons (.ix (.var 0) (.cst (.str [99, 101, 108, 108, 115]))) .nil)))) (.cons (.asg (.nm 3) (.ix (.ix (.var 0) (.cst (.str [99, 101, 108, 108, 115]))) (.ix (.var 0) (.cst (.str [97, 116]))))) (.cons (.asg (.sb (.var 0) (.cst (.str [97, 116]))) (.bin .add (.ix (.var 0) (.cst (.str [97, 116]))) (.cst (.int 1)))) (.cons (.iff (.cmp .ge (.var 3) (.bin .pow (.cst (.int 10)) (.cst (.int 18)))) (.cons (.asg (.sb (.var 0) (.cst (.str [100, 105, 103, 105, 116, 115]))) (.bin .sub (.var 3) (.bin .pow (.cst (.int 10)) (.cst (.int 18))))) .nil) (.cons (.asg (.sb (.var 0) (.cst (.str [102, 111, 108, 100]))) (.bin .mod (.bfn .int (.cons (.bin .add (.bin .mul (.ix (.var 0) (.cst (.str [102, 111, 108, 100]))) (.cst (.int 65539))) (.var 3)) .nil)) (.cst (.int 2147483549)))) .nil)) .nil))) .nil) (.cons (.iff (.cmp .gt (.ix (.var 0) (.cst (.str [100, 105, 103, 105, 116, 115]))) (.cst (.int 0))) (.cons (.asg (.nm 4) (.bin .mod (.bfn .int (.cons (.ix (.var 0) (.cst (.str [100, 105, 103, 105, 116, 115]))) .nil)) (.var 1))) (.cons (.asg (.sb (.var 0) (.cst (.str [100, 105, 103, 105, 116, 115]))) (.bin .fdv (.ix (.var 0) (.cst (.str [100, 105, 103, 105, 116, 115]))) (.var 1))) (.cons (.ret (.var 4)) .nil))) .nil) (.cons (.asg (.nm 2) (.bin .add (.bin .add (.ix (.var 0) (.cst (.str [102, 111, 108, 100]))) (.bin .mul (.ix (.var 0) (.cst (.str [99, 111, 117, 110, 116]))) (.cst (.int 8311)))) (.cst (.int 43)))) (.cons (.ret (.bin .mod (.bin .fdv (.bfn .int (.cons (.bin .mod (.bin .pow (.var 2) (.cst (.int 13))) (.cst (.int 2305843009213693951))) .nil)) (.cst (.int 256))) (.var 1))) .nil))))) : TX.Ss) := by rfl
theorem t27 : tr27 = ((.cons (.ret (.ix (.var 1) (.cal 26 (.cons (.var 0) (.cons (.bfn .len (.cons (.var 1) .nil)) .nil))))) .nil) : TX.Ss) := by rfl
theorem t28 : tr28 = ((.cons (.ret (.lc (.tup (.cons (.ix (.var 1) (.cst (.int 0))) (.cons (.ite (.cmp .eq (.ix (.var 1) (.cst (.int 0))) (.cst (.str [112]))) (.sl (.var 1) (.som (.cst (.int 1))) .non) (.bfn .int (.cons (.sl (.var 1) (.som (.cst (.int 1))) .non) .nil))) .nil))) (.nm 1) (.ex (.var 0)) .nil [1])) .nil) : TX.Ss) := by rfl
theorem t29 : tr29 = ((.cons (.asg (.tp (.cons (.nm 1) (.cons (.nm 2) .nil))) (.tup (.cons (.lst .nil) (.cons (.cst (.int 0)) .nil)))) (.cons (.for (.tp (.cons (.nm 3) (.cons (.nm 4) .nil))) (.ex (.cal 28 (.cons (.var 0) .nil))) (.cons (.iff (.cmp .eq (.var 3) (.cst (.str [112]))) (.cons (.asg (.nm 1) (.bin .add (.var 1) (.lc (.tup (.cons (.cst (.str [110, 101, 119])) (.cons (.var 5) .nil))) (.nm 5) (.ex (.var 4)) .nil [5]))) .nil) (.cons (.asg (.nm 1) (.bin .add (.var 1) (.ite (.cmp .eq (.var 3) (.cst (.str [107]))) (.lc (.tup (.cons (.cst (.str [111, 108, 100])) (.cons (.bin .add (.var 2) (.var 6)) .nil))) (.nm 6) (.rng (.cons (.var 4) .nil)) .nil [6]) (.lst .nil)))) (.cons (.asg (.nm 2) (.bin .add (.var 2) (.var 4))) .nil))) .nil)) (.cons (.ret (.var 1)) .nil))) : TX.Ss) := by rfl
theorem t30 : tr30 = ((.cons (.asg (.tp (.cons (.nm 2) (.cons (.nm 3) (.cons (.nm 4) (.cons (.nm 5) .nil))))) (.tup (.cons (.lst .nil) (.cons (.cst (.int 0)) (.cons (.cst (.str [])) (.cons (.cst (.int 0)) .nil)))))) (.cons (.for (.tp (.cons (.nm 6) (.cons (.nm 7) .nil))) (.ex (.bin .add (.var 0) (.lst (.cons (.tup (.cons (.cst (.str [111, 108, 100])) (.cons (.var 1) .nil))) .nil)))) (.cons (.iff (.cmp .eq (.var 6) (.cst (.str [110, 101, 119]))) (.cons (.asg (.nm 4) (.bin .add (.var 4) (.var 7))) (.cons .cnt .nil)) .nil) (.cons (.iff (.or (.cmp .gt (.var 7) (.var 3)) (.cmp .ne (.var 4) (.cst (.str [])))) (.cons (.asg (.nm 2) (.bin .add (.var 2) (.ite (.cmp .gt (.var 5) (.cst (.int 0))) (.lst (.cons (.bin .add (.cst (.str [107])) (.bfn .str (.cons (.var 5) .nil))) .nil)) (.lst .nil)))) (.cons (.asg (.nm 2) (.bin .add (.bin .add (.var 2) (.ite (.cmp .gt (.var 7) (.var 3)) (.lst (.cons (.bin .add (.cst (.str [100])) (.bfn .str (.cons (.bin .sub (.var 7) (.var 3)) .nil))) .nil)) (.lst .nil))) (.ite (.cmp .ne (.var 4) (.cst (.str []))) (.lst (.cons (.bin .add (.cst (.str [112])) (.var 4)) .nil)) (.lst .nil)))) (.cons (.asg (.tp (.cons (.nm 4) (.cons (.nm 5) .nil))) (.tup (.cons (.cst (.str [])) (.cons (.cst (.int 0)) .nil)))) .nil))) .nil) (.cons (.asg (.tp (.cons (.nm 5) (.cons (.nm 3) .nil))) (.tup (.cons (.bin .add (.var 5) (.ite (.cmp .lt (.var 7) (.var 1)) (.cst (.int 1)) (.cst (.int 0)))) (.cons (.bin .add (.var 7) (.cst (.int 1))) .nil)))) .nil)))) (.cons (.ret (.bfn .tuple (.cons (.bin .add (.var 2) (.ite (.cmp .gt (.var 5) (.cst (.int 0))) (.lst (.cons (.bin .add (.cst (.str [107])) (.bfn .str (.cons (.var 5) .nil))) .nil)) (.lst .nil))) .nil))) .nil))) : TX.Ss) := by rfl
theorem t31 : tr31 = ((.cons (.ret (.mth (.cst (.str [])) 2 (.cons (.lc (.ite (.cmp .eq (.var 2) (.cst (.str [111, 108, 100]))) (.ix (.var 1) (.var 3)) (.var 3)) (.tp (.cons (.nm 2) (.cons (.nm 3) .nil))) (.ex (.var 0)) .nil [2, 3]) .nil))) .nil) : TX.Ss) := by rfl
theorem t32 : tr32 = ((.cons (.asg (.tp (.cons (.nm 4) (.cons (.nm 5) .nil))) (.tup (.cons (.lst .nil) (.cons (.cst (.int 0)) .nil)))) (.cons (.for (.nm 3) (.rng (.cons (.bin .add (.bin .mul (.cst (.int 2)) (.var 2)) (.cst (.int 3))) .nil)) (.cons (.iff (.cmp .eq (.cal 26 (.cons (.var 0) (.cons (.cst (.int 3)) .nil))) (.cst (.int 0))) (.cons (.exp (.mth (.var 4) 0 (.cons (.bin .add (.cst (.str [112])) (.mth (.cst (.str [])) 2 (.cons (.lc (.cal 27 (.cons (.var 0) (.cons (.var 1) .nil))) (.nm 7) (.rng (.cons (.bin .add (.cst (.int 1)) (.cal 26 (.cons (.var 0) (.cons (.cst (.int 2)) .nil)))) .nil)) .nil [7]) .nil))) .nil))) .nil) .nil) (.cons (.iff (.cmp .lt (.var 5) (.var 2)) (.cons (.asg (.nm 6) (.bin .add (.cst (.int 1)) (.cal 26 (.cons (.var 0) (.cons (.bfn .min (.cons (.cst (.int 3)) (.cons (.bin .sub (.var 2) (.var 5)) .nil))) .nil))))) (.cons (.exp (.mth (.var 4) 0 (.cons (.bin .add (.cal 27 (.cons (.var 0) (.cons (.lst (.cons (.cst (.str [107])) (.cons (.cst (.str [107])) (.cons (.cst (.str [100])) .nil)))) .nil))) (.bfn .str (.cons (.var 6) .nil))) .nil))) (.cons (.asg (.nm 5) (.bin .add (.var 5) (.var 6))) .nil))) (.cons (.iff (.cmp .eq (.cal 26 (.cons (.var 0) (.cons (.cst (.int 2)) .nil))) (.cst (.int 0))) (.cons .brk .nil) .nil) .nil)) .nil))) (.cons (.ret (.ite (.cmp .lt (.bfn .len (.cons (.var 4) .nil)) (.cst (.int 21))) (.bfn .tuple (.cons (.sl (.var 4) .non (.som (.cst (.int 20)))) .nil)) (.bfn .tuple (.cons (.ite (.cmp .gt (.var 2) (.cst (.int 0))) (.lst (.cons (.bin .add (.cst (.str [107])) (.bfn .str (.cons (.var 2) .nil))) .nil)) (.lst .nil)) .nil)))) .nil))) : TX.Ss) := by rfl
theorem t33 : tr33 = ((.cons (.ret (.mth (.cst (.str [])) 2 (.cons (.lc (.cal 27 (.cons (.var 0) (.cons (.var 1) .nil))) (.nm 3) (.rng (.cons (.cal 26 (.cons (.var 0) (.cons (.bin .add (.var 2) (.cst (.int 1))) .nil))) .nil)) .nil [3]) .nil))) .nil) : TX.Ss) := by rfl
theorem t34 : tr34 = ((.cons (.asg (.nm 2) (.bfn .dict (.cons (.lc (.tup (.cons (.var 6) (.cons (.var 4) .nil))) (.tp (.cons (.nm 4) (.cons (.tp (.cons (.nm 5) (.cons (.nm 6) .nil))) .nil))) (.enm (.var 0)) (.one (.cmp .eq (.var 5) (.cst (.str [111, 108, 100])))) [4, 5, 6]) .nil))) (.cons (.asg (.nm 3) (.lc (.ite (.cmp .inn (.var 4) (.var 2)) (.tup (.cons (.cst (.str [111, 108, 100])) (.cons (.ix (.var 2) (.var 4)) .nil))) (.tup (.cons (.cst (.str [110, 101, 119])) (.cons (.ix (.var 1) (.var 4)) .nil)))) (.nm 4) (.rng (.cons (.bfn .len (.cons (.var 1) .nil)) .nil)) .nil [4])) (.cons (.ret (.cal 30 (.cons (.var 3) (.cons (.bfn .len (.cons (.var 0) .nil)) .nil)))) .nil))) : TX.Ss) := by rfl
theorem t35 : tr35 = ((.cons (.asg (.tp (.cons (.nm 8) (.cons (.nm 9) .nil))) (.tup (.cons (.cal 29 (.cons (.var 3) .nil)) (.cons (.bfn .len (.cons (.var 2) .nil)) .nil)))) (.cons (.asg (.nm 4) (.cal 31 (.cons (.var 8) (.cons (.var 2) .nil)))) (.cons (.asg (.nm 5) (.bin .sub (.bin .add (.var 9) (.bfn .len (.cons (.var 4) .nil))) (.bin .mul (.cst (.int 2)) (.bfn .len (.cons (.lc (.cst (.int 1)) (.tp (.cons (.nm 12) (.cons (.nm 13) .nil))) (.ex (.var 8)) (.one (.cmp .eq (.var 12) (.cst (.str [111, 108, 100])))) [12, 13]) .nil))))) (.cons (.iff (.or (.cmp .isn (.cal 7 (.cons (.var 1) (.cons (.var 3) .nil))) (.cst (.bl true))) (.cmp .ne (.cal 17 (.cons (.var 1) (.cons (.var 3) (.cons (.var 2) .nil)))) (.var 4))) (.cons (.ret (.cst (.bl false))) .nil) .nil) (.cons (.iff (.or (.cmp .ne (.cal 11 (.cons (.var 1) (.cons (.var 3) .nil))) (.tup (.cons (.var 9) (.cons (.bfn .len (.cons (.var 4) .nil)) .nil)))) (.cmp .ne (.cal 12 (.cons (.var 1) (.cons (.var 3) .nil))) (.var 5))) (.cons (.ret (.cst (.bl false))) .nil) .nil) (.cons (.asg (.tp (.cons (.nm 10) (.cons (.nm 11) .nil))) (.tup (.cons (.cal 14 (.cons (.var 1) (.cons (.var 3) .nil))) (.cons (.cal 21 (.cons (.var 1) (.cons (.var 3) (.cons (.var 2) .nil)))) .nil)))) (.cons (.iff (.or (.cmp .ne (.var 10) (.cal 30 (.cons (.var 8) (.cons (.var 9) .nil)))) (.cmp .ne (.var 11) (.cal 34 (.cons (.var 8) (.cons (.var 2) .nil))))) (.cons (.ret (.cst (.bl false))) .nil) .nil) (.cons (.iff (.or (.cmp .ne (.cal 17 (.cons (.var 1) (.cons (.var 11) (.cons (.var 4) .nil)))) (.var 2)) (.cmp .ne (.cal 14 (.cons (.var 1) (.cons (.var 10) .nil))) (.var 10))) (.cons (.ret (.cst (.bl false))) .nil) .nil) (.cons (.iff (.cmp .ne (.cal 21 (.cons (.var 1) (.cons (.var 11) (.cons (.var 4) .nil)))) (.var 10)) (.cons (.ret (.cst (.bl false))) .nil) .nil) (.cons (.asg (.nm 6) (.cal 27 (.cons (.var 0) (.cons (.lst (.cons (.bin .add (.var 2) (.ix (.var 1) (.cst (.int 0)))) (.cons (.ite (.cmp .ne (.var 2) (.cst (.str []))) (.sl (.var 2) (.som (.cst (.int 1))) .non) (.bin .mul (.ix (.var 1) (.cst (.int 0))) (.cst (.int 2)))) .nil))) .nil)))) (.cons (.asg (.nm 7) (.lst (.cons (.met [⟨2, [.cst (.str [66, 97, 100, 83, 105, 103, 110, 115]), .fld 13]⟩, ⟨4, [.cst (.str [66, 97, 100, 80, 97, 112, 101, 114]), .fld 14]⟩, ⟨3, [.cst (.str [66, 97, 100, 87, 111, 114, 100]), .fld 15]⟩, ⟨5, [.cst (.str [78, 111, 116, 75, 101, 112, 116]), .fld 16, .fld 17]⟩] (.cal 17 (.cons (.var 1) (.cons (.var 3) (.cons (.var 6) .nil))))) .nil))) (.cons (.exp (.mth (.var 7) 0 (.cons (.met [⟨2, [.cst (.str [66, 97, 100, 83, 105, 103, 110, 115]), .fld 13]⟩, ⟨4, [.cst (.str [66, 97, 100, 80, 97, 112, 101, 114]), .fld 14]⟩, ⟨3, [.cst (.str [66, 97, 100, 87, 111, 114, 100]), .fld 15]⟩, ⟨5, [.cst (.str [78, 111, 116, 75, 101, 112, 116]), .fld 16, .fld 17]⟩] (.cal 21 (.cons (.var 1) (.cons (.var 3) (.cons (.var 6) .nil))))) .nil))) (.cons (.ret (.cmp .eq (.var 7) (.bin .mul (.lst (.cons (.tup (.cons (.cst (.str [78, 111, 116, 75, 101, 112, 116])) (.cons (.cst (.str [108, 101, 110, 103, 116, 104])) (.cons (.var 9) .nil)))) .nil)) (.cst (.int 2))))) .nil))))))))))))) : TX.Ss) := by rfl
theorem t36 : tr36 = ((.cons (.asg (.nm 3) (.lst (.cons (.cst .non) (.cons (.bfn .list (.cons (.var 2) .nil)) (.cons (.cst (.int 3)) (.cons (.cst (.str [107, 49])) (.cons (.tup (.cons (.cst (.str [107, 48])) .nil)) (.cons (.tup (.cons (.cst (.str [107, 48, 49])) .nil)) (.cons (.tup (.cons (.cst (.str [107])) .nil)) (.cons (.tup (.cons (.cst (.str [112])) .nil)) (.cons (.tup (.cons (.cst (.str [120, 49])) .nil)) (.cons (.tup (.cons (.cst (.str [107, 49, 97])) .nil)) (.cons (.tup (.cons (.cst (.int 1)) .nil)) (.cons (.tup (.cons (.cst (.str [112, 90])) .nil)) (.cons (.tup (.cons (.cst (.str [75, 49])) .nil)) .nil))))))))))))))) (.cons (.for (.nm 4) (.ex (.bin .add (.var 3) (.lst (.cons (.tup (.cons (.cst (.str [107, 49, 50, 51, 52, 53, 54, 55])) .nil)) (.cons (.tup (.cons (.cst (.str [100, 45, 49])) .nil)) (.cons (.tup (.cons (.cst (.str [107, 49])) (.cons (.cst .non) .nil))) (.cons (.bin .add (.var 2) (.tup (.cons (.cst (.str [])) .nil))) .nil))))))) (.cons (.asg (.nm 5) (.lst (.cons (.met [⟨2, [.cst (.str [66, 97, 100, 83, 105, 103, 110, 115]), .fld 13]⟩, ⟨4, [.cst (.str [66, 97, 100, 80, 97, 112, 101, 114]), .fld 14]⟩, ⟨3, [.cst (.str [66, 97, 100, 87, 111, 114, 100]), .fld 15]⟩, ⟨5, [.cst (.str [78, 111, 116, 75, 101, 112, 116]), .fld 16, .fld 17]⟩] (.cal 11 (.cons (.var 1) (.cons (.var 4) .nil)))) .nil))) (.cons (.exp (.mth (.var 5) 0 (.cons (.met [⟨2, [.cst (.str [66, 97, 100, 83, 105, 103, 110, 115]), .fld 13]⟩, ⟨4, [.cst (.str [66, 97, 100, 80, 97, 112, 101, 114]), .fld 14]⟩, ⟨3, [.cst (.str [66, 97, 100, 87, 111, 114, 100]), .fld 15]⟩, ⟨5, [.cst (.str [78, 111, 116, 75, 101, 112, 116]), .fld 16, .fld 17]⟩] (.cal 12 (.cons (.var 1) (.cons (.var 4) .nil)))) .nil))) (.cons (.exp (.mth (.var 5) 0 (.cons (.met [⟨2, [.cst (.str [66, 97, 100, 83, 105, 103, 110, 115]), .fld 13]⟩, ⟨4, [.cst (.str [66, 97, 100, 80, 97, 112, 101, 114]), .fld 14]⟩, ⟨3, [.cst (.str [66, 97, 100, 87, 111, 114, 100]), .fld 15]⟩, ⟨5, [.cst (.str [78, 111, 116, 75, 101, 112, 116]), .fld 16, .fld 17]⟩] (.cal 14 (.cons (.var 1) (.cons (.var 4) .nil)))) .nil))) (.cons (.exp (.mth (.var 5) 0 (.cons (.met [⟨2, [.cst (.str [66, 97, 100, 83, 105, 103, 110, 115]), .fld 13]⟩, ⟨4, [.cst (.str [66, 97, 100, 80, 97, 112, 101, 114]), .fld 14]⟩, ⟨3, [.cst (.str [66, 97, 100, 87, 111, 114, 100]), .fld 15]⟩, ⟨5, [.cst (.str [78, 111, 116, 75, 101, 112, 116]), .fld 16, .fld 17]⟩] (.cal 17 (.cons (.var 1) (.cons (.var 4) (.cons (.cst .non) .nil))))) .nil))) (.cons (.exp (.mth (.var 5) 0 (.cons (.met [⟨2, [.cst (.str [66, 97, 100, 83, 105, 103, 110, 115]), .fld 13]⟩, ⟨4, [.cst (.str [66, 97, 100, 80, 97, 112, 101, 114]), .fld 14]⟩, ⟨3, [.cst (.str [66, 97, 100, 87, 111, 114, 100]), .fld 15]⟩, ⟨5, [.cst (.str [78, 111, 116, 75, 101, 112, 116]), .fld 16, .fld 17]⟩] (.cal 21 (.cons (.var 1) (.cons (.var 4) (.cons (.cst .non) .nil))))) .nil))) (.cons (.exp (.mth (.var 5) 0 (.cons (.met [⟨2, [.cst (.str [66, 97, 100, 83, 105, 103, 110, 115]), .fld 13]⟩, ⟨4, [.cst (.str [66, 97, 100, 80, 97, 112, 101, 114]), .fld 14]⟩, ⟨3, [.cst (.str [66, 97, 100, 87, 111, 114, 100]), .fld 15]⟩, ⟨5, [.cst (.str [78, 111, 116, 75, 101, 112, 116]), .fld 16, .fld 17]⟩] (.cal 20 (.cons (.var 1) (.cons (.var 4) (.cons (.cst .non) .nil))))) .nil))) (.cons (.exp (.mth (.var 5) 0 (.cons (.met [⟨2, [.cst (.str [66, 97, 100, 83, 105, 103, 110, 115]), .fld 13]⟩, ⟨4, [.cst (.str [66, 97, 100, 80, 97, 112, 101, 114]), .fld 14]⟩, ⟨3, [.cst (.str [66, 97, 100, 87, 111, 114, 100]), .fld 15]⟩, ⟨5, [.cst (.str [78, 111, 116, 75, 101, 112, 116]), .fld 16, .fld 17]⟩] (.cal 20 (.cons (.var 1) (.cons (.var 2) (.cons (.var 4) .nil))))) .nil))) (.cons (.iff (.or (.cmp .isn (.cal 7 (.cons (.var 1) (.cons (.var 4) .nil))) (.cst (.bl false))) (.cmp .ne (.bfn .repr (.cons (.var 5) .nil)) (.bfn .repr (.cons (.bin .mul (.lst (.cons (.tup (.cons (.cst (.str [66, 97, 100, 80, 97, 112, 101, 114])) (.cons (.var 4) .nil))) .nil)) (.cst (.int 7))) .nil)))) (.cons (.ret (.cst (.bl false))) .nil) .nil) .nil))))))))) (.cons (.for (.nm 4) (.ex (.lst (.cons (.cst .non) (.cons (.cst (.str [])) (.cons (.cst (.str [97, 97])) (.cons (.cst (.str [65])) (.cons (.cst (.int 3)) .nil))))))) (.cons (.asg (.nm 5) (.lst (.cons (.met [⟨2, [.cst (.str [66, 97, 100, 83, 105, 103, 110, 115]), .fld 13]⟩, ⟨4, [.cst (.str [66, 97, 100, 80, 97, 112, 101, 114]), .fld 14]⟩, ⟨3, [.cst (.str [66, 97, 100, 87, 111, 114, 100]), .fld 15]⟩, ⟨5, [.cst (.str [78, 111, 116, 75, 101, 112, 116]), .fld 16, .fld 17]⟩] (.cal 7 (.cons (.var 4) (.cons (.cst .non) .nil)))) .nil))) (.cons (.exp (.mth (.var 5) 0 (.cons (.met [⟨2, [.cst (.str [66, 97, 100, 83, 105, 103, 110, 115]), .fld 13]⟩, ⟨4, [.cst (.str [66, 97, 100, 80, 97, 112, 101, 114]), .fld 14]⟩, ⟨3, [.cst (.str [66, 97, 100, 87, 111, 114, 100]), .fld 15]⟩, ⟨5, [.cst (.str [78, 111, 116, 75, 101, 112, 116]), .fld 16, .fld 17]⟩] (.cal 17 (.cons (.var 4) (.cons (.cst .non) (.cons (.cst .non) .nil))))) .nil))) (.cons (.exp (.mth (.var 5) 0 (.cons (.met [⟨2, [.cst (.str [66, 97, 100, 83, 105, 103, 110, 115]), .fld 13]⟩, ⟨4, [.cst (.str [66, 97, 100, 80, 97, 112, 101, 114]), .fld 14]⟩, ⟨3, [.cst (.str [66, 97, 100, 87, 111, 114, 100]), .fld 15]⟩, ⟨5, [.cst (.str [78, 111, 116, 75, 101, 112, 116]), .fld 16, .fld 17]⟩] (.cal 24 (.cons (.var 4) (.cons (.cst .non) (.cons (.cst .non) .nil))))) .nil))) (.cons (.iff (.cmp .ne (.var 5) (.bin .mul (.lst (.cons (.tup (.cons (.cst (.str [66, 97, 100, 83, 105, 103, 110, 115])) (.cons (.var 4) .nil))) .nil)) (.cst (.int 3)))) (.cons (.ret (.cst (.bl false))) .nil) .nil) .nil))))) (.cons (.for (.nm 4) (.ex (.lst (.cons (.cst .non) (.cons (.cst (.int 3)) (.cons (.cst (.str [90])) (.cons (.lst (.cons (.cst (.str [97])) .nil)) .nil)))))) (.cons (.asg (.nm 5) (.lst (.cons (.met [⟨2, [.cst (.str [66, 97, 100, 83, 105, 103, 110, 115]), .fld 13]⟩, ⟨4, [.cst (.str [66, 97, 100, 80, 97, 112, 101, 114]), .fld 14]⟩, ⟨3, [.cst (.str [66, 97, 100, 87, 111, 114, 100]), .fld 15]⟩, ⟨5, [.cst (.str [78, 111, 116, 75, 101, 112, 116]), .fld 16, .fld 17]⟩] (.cal 17 (.cons (.var 1) (.cons (.var 2) (.cons (.var 4) .nil))))) .nil))) (.cons (.exp (.mth (.var 5) 0 (.cons (.met [⟨2, [.cst (.str [66, 97, 100, 83, 105, 103, 110, 115]), .fld 13]⟩, ⟨4, [.cst (.str [66, 97, 100, 80, 97, 112, 101, 114]), .fld 14]⟩, ⟨3, [.cst (.str [66, 97, 100, 87, 111, 114, 100]), .fld 15]⟩, ⟨5, [.cst (.str [78, 111, 116, 75, 101, 112, 116]), .fld 16, .fld 17]⟩] (.cal 21 (.cons (.var 1) (.cons (.var 2) (.cons (.var 4) .nil))))) .nil))) (.cons (.exp (.mth (.var 5) 0 (.cons (.met [⟨2, [.cst (.str [66, 97, 100, 83, 105, 103, 110, 115]), .fld 13]⟩, ⟨4, [.cst (.str [66, 97, 100, 80, 97, 112, 101, 114]), .fld 14]⟩, ⟨3, [.cst (.str [66, 97, 100, 87, 111, 114, 100]), .fld 15]⟩, ⟨5, [.cst (.str [78, 111, 116, 75, 101, 112, 116]), .fld 16, .fld 17]⟩] (.cal 24 (.cons (.var 1) (.cons (.var 4) (.cons (.cst .non) .nil))))) .nil))) (.cons (.exp (.mth (.var 5) 0 (.cons (.met [⟨2, [.cst (.str [66, 97, 100, 83, 105, 103, 110, 115]), .fld 13]⟩, ⟨4, [.cst (.str [66, 97, 100, 80, 97, 112, 101, 114]), .fld 14]⟩, ⟨3, [.cst (.str [66, 97, 100, 87, 111, 114, 100]), .fld 15]⟩, ⟨5, [.cst (.str [78, 111, 116, 75, 101, 112, 116]), .fld 16, .fld 17]⟩] (.cal 24 (.cons (.var 1) (.cons (.cst (.str [])) (.cons (.var 4) .nil))))) .nil))) (.cons (.iff (.cmp .ne (.var 5) (.bin .mul (.lst (.cons (.tup (.cons (.cst (.str [66, 97, 100, 87, 111, 114, 100])) (.cons (.var 4) .nil))) .nil)) (.cst (.int 4)))) (.cons (.ret (.cst (.bl false))) .nil) .nil) .nil)))))) (.cons (.ret (.and (.cmp .is (.cal 7 (.cons (.var 1) (.cons (.tup (.cons (.cst (.str [107, 57, 57, 57, 57, 57, 57])) .nil)) .nil))) (.cst (.bl true))) (.cmp .is (.cal 7 (.cons (.var 1) (.cons (.tup .nil) .nil))) (.cst (.bl true))))) .nil))))) : TX.Ss) := by rfl
theorem t37 : tr37 = ((.cons (.asg (.nm 1) (.cal 25 (.cons (.var 0) .nil))) (.cons (.for (.nm 2) (.rng (.cons (.cst (.int 6)) .nil)) (.cons (.asg (.nm 3) (.cal 27 (.cons (.var 1) (.cons (.lst (.cons (.cst (.str [97, 98])) (.cons (.cst (.str [97, 98, 99])) (.cons (.cst (.str [120, 121, 59])) (.cons (.cst (.str [48, 49, 50, 51, 52, 53, 54, 55, 56, 57])) (.cons (.cst (.str [97])) .nil)))))) .nil)))) (.cons (.asg (.nm 4) (.cal 33 (.cons (.var 1) (.cons (.var 3) (.cons (.cst (.int 8)) .nil))))) (.cons (.asg (.nm 5) (.cal 32 (.cons (.var 1) (.cons (.var 3) (.cons (.bfn .len (.cons (.var 4) .nil)) .nil))))) (.cons (.iff (.nt (.cal 35 (.cons (.var 1) (.cons (.var 3) (.cons (.var 4) (.cons (.var 5) .nil)))))) (.cons (.ret (.cst (.bl false))) .nil) .nil) (.cons (.iff (.and (.cmp .eq (.var 2) (.cst (.int 0))) (.nt (.cal 36 (.cons (.var 1) (.cons (.var 3) (.cons (.var 5) .nil)))))) (.cons (.ret (.cst (.bl false))) .nil) .nil) .nil)))))) (.cons (.ret (.cst (.bl true))) .nil))) : TX.Ss) := by rfl
theorem t38 : tr38 = ((.cons (.asg (.at (.var 0) 8) (.lst .nil)) (.cons (.asg (.at (.var 0) 9) (.cst (.int 0))) (.cons (.asg (.at (.var 0) 10) (.cst (.int 0))) (.cons (.asg (.at (.var 0) 11) (.cst (.str []))) .nil)))) : TX.Ss) := by rfl
theorem t39 : tr39 = ((.cons (.iff (.att (.var 0) 9) (.cons (.exp (.mth (.att (.var 0) 8) 0 (.cons (.bin .add (.cst (.str [107])) (.bfn .str (.cons (.att (.var 0) 9) .nil))) .nil))) .nil) .nil) (.cons (.iff (.att (.var 0) 10) (.cons (.exp (.mth (.att (.var 0) 8) 0 (.cons (.bin .add (.cst (.str [100])) (.bfn .str (.cons (.att (.var 0) 10) .nil))) .nil))) .nil) .nil) (.cons (.iff (.att (.var 0) 11) (.cons (.exp (.mth (.att (.var 0) 8) 0 (.cons (.bin .add (.cst (.str [112])) (.att (.var 0) 11)) .nil))) .nil) .nil) (.cons (.asg (.tp (.cons (.at (.var 0) 9) (.cons (.at (.var 0) 10) (.cons (.at (.var 0) 11) .nil)))) (.tup (.cons (.cst (.int 0)) (.cons (.cst (.int 0)) (.cons (.cst (.str [])) .nil))))) .nil)))) : TX.Ss) := by rfl
theorem t40 : tr40 = ((.cons (.iff (.or (.att (.var 0) 10) (.att (.var 0) 11)) (.cons (.exp (.mth (.var 0) 12 .nil)) .nil) .nil) (.cons (.agf (.var 0) 9 .add (.var 1)) .nil)) : TX.Ss) := by rfl
theorem t41 : tr41 = ((.cons (.agf (.var 0) 10 .add (.var 1)) .nil) : TX.Ss) := by rfl
theorem t42 : tr42 = ((.cons (.agf (.var 0) 11 .add (.var 1)) .nil) : TX.Ss) := by rfl
theorem t43 : tr43 = ((.cons (.exp (.mth (.var 0) 12 .nil)) (.cons (.ret (.bfn .tuple (.cons (.att (.var 0) 8) .nil))) .nil)) : TX.Ss) := by rfl
end K74
end
section
set_option maxRecDepth 100000
set_option linter.unusedVariables false
/-! EvWp: plain reasoning about the reckoner. -/
namespace TX
def Wp {α : Type} (r : R α) (Q : α → Hp → Prop) : Prop := match r with
  | .ok a h => Q a h
  | _ => False
def WpS (r : RS) (D : Fl → Hp → Prop) : Prop := match r with
  | .fl f h => D f h
  | _ => False
section
variable {α β : Type} {Q : α → Hp → Prop} {P : β → Hp → Prop} {D : Fl → Hp → Prop} {h : Hp} {τ : Sl}
@[simp] theorem wp_ok {a : α} : Wp (.ok a h) Q ↔ Q a h := Iff.rfl
@[simp] theorem wp_no : Wp (.no : R α) Q ↔ False := Iff.rfl
@[simp] theorem wp_b {x : R α} {f : α → Hp → R β} : Wp (x.b f) P ↔ Wp x fun a h => Wp (f a h) P := by cases x <;> exact Iff.rfl
@[simp] theorem wpS_s {x : R α} {f : α → Hp → RS} : WpS (x.s τ f) D ↔ Wp x fun a h => WpS (f a h) D := by cases x <;> exact Iff.rfl
@[simp] theorem wpS_fl {f : Fl} : WpS (.fl f h) D ↔ D f h := Iff.rfl
@[simp] theorem wpS_no : WpS .no D ↔ False := Iff.rfl
def nxt (k : Sl → Hp → Prop) (D : Fl → Hp → Prop) : Fl → Hp → Prop
  | .nx τ, h => k τ h
  | f, h => D f h
@[simp] theorem nxt_nx {k : Sl → Hp → Prop} : nxt k D (.nx τ) h = k τ h := rfl
@[simp] theorem nxt_rt {k : Sl → Hp → Prop} {w : W} : nxt k D (.rt w) h = D (.rt w) h := rfl
@[simp] theorem nxt_bk {k : Sl → Hp → Prop} : nxt k D (.bk τ) h = D (.bk τ) h := rfl
@[simp] theorem nxt_ct {k : Sl → Hp → Prop} : nxt k D (.ct τ) h = D (.ct τ) h := rfl
@[simp] theorem wpS_b {x : RS} {f : Sl → Hp → RS} : WpS (x.b f) D ↔ WpS x (nxt (fun τ h => WpS (f τ h) D) D) := by
  cases x with
  | fl g h => cases g <;> exact Iff.rfl
  | _ => exact Iff.rfl
def trn (k : Sl → Hp → Prop) (D : Fl → Hp → Prop) : Fl → Hp → Prop
  | .nx τ, h => k τ h
  | .ct τ, h => k τ h
  | .bk τ, h => D (.nx τ) h
  | .rt w, h => D (.rt w) h
@[simp] theorem trn_nx {k : Sl → Hp → Prop} : trn k D (.nx τ) h = k τ h := rfl
@[simp] theorem trn_rt {k : Sl → Hp → Prop} {w : W} : trn k D (.rt w) h = D (.rt w) h := rfl
@[simp] theorem trn_bk {k : Sl → Hp → Prop} : trn k D (.bk τ) h = D (.nx τ) h := rfl
@[simp] theorem trn_ct {k : Sl → Hp → Prop} : trn k D (.ct τ) h = k τ h := rfl
@[simp] theorem wpS_turn {x : RS} {f : Sl → Hp → RS} : WpS (x.turn f) D ↔ WpS x (trn (fun τ h => WpS (f τ h) D) D) := by
  cases x with
  | fl g h => cases g <;> exact Iff.rfl
  | _ => exact Iff.rfl
def fnl (Q : W → Hp → Prop) : Fl → Hp → Prop
  | .rt w, h => Q w h
  | .nx _, h => Q .non h
  | _, _ => False
@[simp] theorem fnl_rt {Q : W → Hp → Prop} {w : W} : fnl Q (.rt w) h = Q w h := rfl
@[simp] theorem fnl_nx {Q : W → Hp → Prop} : fnl Q (.nx τ) h = Q .non h := rfl
@[simp] theorem wp_fin {r : RS} {Q : W → Hp → Prop} : Wp (fin r) Q ↔ WpS r (fnl Q) := by
  cases r with
  | fl f h => cases f <;> exact Iff.rfl
  | _ => exact Iff.rfl
theorem Wp.imp {x : R α} {Q' : α → Hp → Prop} (p : Wp x Q) (i : ∀ a h, Q a h → Q' a h) : Wp x Q' := by
  cases x with
  | ok a h => exact i a h p
  | _ => exact p
theorem WpS.imp {x : RS} {D' : Fl → Hp → Prop} (p : WpS x D) (i : ∀ a h, D a h → D' a h) : WpS x D' := by
  cases x with
  | fl a h => exact i a h p
  | _ => exact p
theorem Wp.out {x : R α} (p : Wp x Q) : ∃ a h, x = .ok a h ∧ Q a h := by
  cases x with
  | ok a h => exact ⟨a, h, rfl, p⟩
  | _ => exact p.elim
@[simp] theorem truR_ok' {w : W} : truR (.ok w h) = match tru h w with
    | some b => .ok b h
    | none => .no := rfl
theorem wp_truR {x : R W} {Q : Bool → Hp → Prop} : Wp (truR x) Q ↔ Wp x fun w h => ∃ b, tru h w = some b ∧ Q b h := by
  cases x with
  | ok w h =>
    rw [truR_ok', wp_ok]
    generalize tru h w = o
    cases o with
    | none => exact ⟨fun q => q.elim, fun ⟨_, q, _⟩ => by cases q⟩
    | some b => exact ⟨fun q => ⟨b, rfl, q⟩, fun ⟨_, e', q⟩ => by cases e'; exact q⟩
  | _ => exact Iff.rfl
@[simp] theorem wp_nox {x : R α} : Wp x.nox Q ↔ Wp x Q := by cases x <;> exact Iff.rfl
theorem wp_lf {o : P2} {Q : W → Hp → Prop} : Wp (lf o) Q ↔ ∃ w h, o = some (w, h) ∧ Q w h := by
  cases o with
  | none => exact ⟨fun q => q.elim, fun ⟨_, _, q, _⟩ => by cases q⟩
  | some p => obtain ⟨w, h⟩ := p; exact ⟨fun q => ⟨w, h, rfl, q⟩, fun ⟨_, _, e, q⟩ => by cases e; exact q⟩
/-! ### loops -/
theorem wp_lcS {body : W → Hp → R (Option W)} (I : Nat → List W → Hp → Prop) {Q : List W → Hp → Prop} : ∀ (xs : List W) (n : Nat) (acc : List W) (h : Hp), I n acc h →
    (∀ i x acc h, xs[i]? = some x → I (n + i) acc h → Wp (body x h) fun y h' => I (n + i + 1) (pushO y acc) h') → (∀ acc h, I (n + xs.length) acc h → Q acc.reverse h) → Wp (lcS body xs acc h) Q
  | [], n, acc, h, hi, _, hd => hd acc h hi
  | x :: xs, n, acc, h, hi, hs, hd => by
    rw [lcS, wp_b]
    refine (hs 0 x acc h rfl hi).imp fun y h' hi' => ?_
    refine wp_lcS I xs (n + 1) _ h' hi' (fun i z acc h e q => ?_) (fun acc h q => hd acc h (by rw [List.length_cons]; rw [show n + (xs.length + 1) = n + 1 + xs.length by omega]; exact q))
    have := hs (i + 1) z acc h (by simpa using e) (by rw [show n + (i + 1) = n + 1 + i by omega]; exact q)
    rw [show n + (i + 1) + 1 = n + 1 + i + 1 by omega] at this
    exact this
theorem wp_lcL {en : Bool} {o : Nat} {xs : List W} {body : W → Hp → R (Option W)} (I : Nat → List W → Hp → Prop) {Q : List W → Hp → Prop} (hl : ∀ i acc h, I i acc h → h.lst? o = some xs)
    (hs : ∀ i x acc h, xs[i]? = some x → I i acc h → Wp (body (item en i x) h) fun y h' => I (i + 1) (pushO y acc) h') (hd : ∀ acc h, I xs.length acc h → Q acc.reverse h) :
    ∀ (f i : Nat) (acc : List W) (h : Hp), I i acc h → i ≤ xs.length → xs.length < i + f → Wp (lcL en o body f i acc h) Q
  | 0, i, acc, h, _, h1, h2 => absurd h2 (by omega)
  | f + 1, i, acc, h, hi, h1, h2 => by
    rw [lcL, hl i acc h hi]
    by_cases e : i < xs.length
    · have e2 : xs[i]? = some xs[i] := by simp [e]
      simp only [e2]
      rw [wp_b]
      refine (hs i _ acc h e2 hi).imp fun y h' hi' => ?_
      exact wp_lcL I hl hs hd f (i + 1) _ h' hi' e (by omega)
    · have e2 : xs[i]? = none := by simp; omega
      simp only [e2]
      have : i = xs.length := by omega
      subst this
      exact hd acc h hi
theorem wp_forS {body : W → Sl → Hp → RS} (I : Nat → Sl → Hp → Prop) {D : Fl → Hp → Prop} : ∀ (xs : List W) (n : Nat) (τ : Sl) (h : Hp), I n τ h →
    (∀ i x τ h, xs[i]? = some x → I (n + i) τ h → WpS (body x τ h) (trn (I (n + i + 1)) D)) → (∀ τ h, I (n + xs.length) τ h → D (.nx τ) h) → WpS (forS body xs τ h) D
  | [], n, τ, h, hi, _, hd => hd τ h hi
  | x :: xs, n, τ, h, hi, hs, hd => by
    rw [forS, wpS_turn]
    refine (hs 0 x τ h rfl hi).imp fun f h' q => ?_
    have go : ∀ τ h, I (n + 1) τ h → WpS (forS body xs τ h) D := fun τ h q => by
      refine wp_forS I xs (n + 1) τ h q (fun i z τ h e q => ?_) (fun τ h q => hd τ h (by rw [List.length_cons]; rw [show n + (xs.length + 1) = n + 1 + xs.length by omega]; exact q))
      have := hs (i + 1) z τ h (by simpa using e) (by rw [show n + (i + 1) = n + 1 + i by omega]; exact q)
      rw [show n + (i + 1) + 1 = n + 1 + i + 1 by omega] at this
      exact this
    cases f with
    | nx τ' => exact go τ' h' q
    | ct τ' => exact go τ' h' q
    | bk τ' => exact q
    | rt w => exact q
theorem wp_forL {en : Bool} {o : Nat} {xs : List W} {body : W → Sl → Hp → RS} (I : Nat → Sl → Hp → Prop) {D : Fl → Hp → Prop} (hl : ∀ i τ h, I i τ h → h.lst? o = some xs)
    (hs : ∀ i x τ h, xs[i]? = some x → I i τ h → WpS (body (item en i x) τ h) (trn (I (i + 1)) D)) (hd : ∀ τ h, I xs.length τ h → D (.nx τ) h) :
    ∀ (f i : Nat) (τ : Sl) (h : Hp), I i τ h → i ≤ xs.length → xs.length < i + f → WpS (forL en o body f i τ h) D
  | 0, i, τ, h, _, h1, h2 => absurd h2 (by omega)
  | f + 1, i, τ, h, hi, h1, h2 => by
    rw [forL, hl i τ h hi]
    by_cases e : i < xs.length
    · have e2 : xs[i]? = some xs[i] := by simp [e]
      simp only [e2]
      rw [wpS_turn]
      refine (hs i _ τ h e2 hi).imp fun g h' q => ?_
      cases g with
      | nx τ' => exact wp_forL I hl hs hd f (i + 1) τ' h' q e (by omega)
      | ct τ' => exact wp_forL I hl hs hd f (i + 1) τ' h' q e (by omega)
      | bk τ' => exact q
      | rt w => exact q
    · have e2 : xs[i]? = none := by simp; omega
      simp only [e2]
      have : i = xs.length := by omega
      subst this
      exact hd τ h hi
/-- while, by a measure -/
theorem wp_wh {c : Sl → Hp → R Bool} {b : Sl → Hp → RS} (I : Nat → Sl → Hp → Prop) {D : Fl → Hp → Prop} (hs : ∀ m τ h, I m τ h → Wp (c τ h) fun t h' => match t with
      | true => ∃ m', m = m' + 1 ∧ WpS (b τ h') (trn (fun τ h => I m' τ h) D)
      | false => D (.nx τ) h') :
    ∀ (f m : Nat) (τ : Sl) (h : Hp), I m τ h → m < f → WpS (whF c b f τ h) D
  | 0, m, τ, h, _, h2 => absurd h2 (by omega)
  | f + 1, m, τ, h, hi, h2 => by
    rw [whF, wpS_s]
    refine (hs m τ h hi).imp fun t h' q => ?_
    cases t with
    | false => exact q
    | true =>
      obtain ⟨m', rfl, q⟩ := q
      rw [wpS_turn]
      refine q.imp fun g h'' q => ?_
      cases g with
      | nx τ' => exact wp_wh I hs f m' τ' h'' q (by omega)
      | ct τ' => exact wp_wh I hs f m' τ' h'' q (by omega)
      | bk τ' => exact q
      | rt w => exact q
/-- a call -/
theorem run_s (s : Src) {F k g : Nat} {d : Fd} {ws : List W} {h : Hp} (hg : s.defs[g]? = some d) (hl : ws.length = d.np) : run s.pg F (k + 2) g ws h = fin (evSs ⟨s.pg, F, run s.pg F (k + 1), run s.pg F k, lamOf s.pg F k⟩ d.body (start d.ns ws) h) := by
  rw [run_ss]
  unfold call1
  rw [s.fns, hg]
  simp only [hl, if_true]
/-! ### heaps -/
/-- what stood before stands -/
structure Ext (h h' : Hp) : Prop where
  le : h.n ≤ h'.n
  get : ∀ i, i < h.n → h'.get i = h.get i
theorem Ext.refl : Ext h h := ⟨Nat.le_refl _, fun _ _ => rfl⟩
theorem Ext.trans {h' h'' : Hp} (a : Ext h h') (b : Ext h' h'') : Ext h h'' := ⟨Nat.le_trans a.le b.le, fun i hi => (b.get i (Nat.lt_of_lt_of_le hi a.le)).trans (a.get i hi)⟩
theorem Ext.new (o : Ob) : Ext h (h.new o) := ⟨by rw [Hp.n_new]; omega, fun i hi => by rw [Hp.get_new, if_neg (by omega)]⟩
theorem Ext.set {h' : Hp} (a : Ext h h') {i : Nat} (hi : h.n ≤ i) (o : Ob) : Ext h (h'.set i o) := ⟨a.le, fun j hj => by rw [Hp.get_set, if_neg (by omega)]; exact a.get j hj⟩
end
end TX
end
section
set_option maxRecDepth 100000
set_option linter.unusedVariables false
/-! EvSim: the reckoner's rows, for simp. -/
namespace TX
variable {c : Cf} {τ : Sl} {h : Hp}
@[simp] theorem evE_var (i : Nat) : evE c (.var i) τ h = match τ[i]? with
    | some (some w) => .ok w h
    | _ => .no := by
  simp only [evE] <;> rfl
@[simp] theorem evE_cst (w : W) : evE c (.cst w) τ h = .ok w h := by
  simp only [evE] <;> rfl
@[simp] theorem evE_bad  : evE c (.bad) τ h = .no := by
  simp only [evE] <;> rfl
@[simp] theorem evE_bin (o : BO) (a : E) (b : E) : evE c (.bin o a b) τ h = (evE c a τ h).b fun x h => (evE c b τ h).b fun y h => lf (binop o x y h) := by
  simp only [evE] <;> rfl
@[simp] theorem evE_neg (a : E) : evE c (.neg a) τ h = (evE c a τ h).b fun x h => match x with
    | .int i => .ok (.int (-i)) h
    | _ => .no := by
  simp only [evE] <;> rfl
theorem evE_nt (a : E) : evE c (.nt a) τ h = (truR (evE c a τ h)).b fun b h => .ok (.bl (!b)) h := by
  simp only [evE] <;> rfl
theorem evE_cmp (o : CO) (a : E) (b : E) : evE c (.cmp o a b) τ h = (evE c a τ h).b fun x h => (evE c b τ h).b fun y h => lf (boolR (cmpop o x y h) h) := by
  simp only [evE] <;> rfl
theorem evE_chn (o : CO) (p : CO) (a : E) (b : E) (d : E) : evE c (.chn o p a b d) τ h = (evE c a τ h).b fun x h => (evE c b τ h).b fun y h => match cmpop o x y h with
    | some true => (evE c d τ h).b fun z h => lf (boolR (cmpop p y z h) h)
    | some false => .ok (.bl false) h
    | none => .no := by
  simp only [evE] <;> rfl
theorem evE_and (a : E) (b : E) : evE c (.and a b) τ h = (evE c a τ h).b fun x h => match tru h x with
    | some true => evE c b τ h
    | some false => .ok x h
    | none => .no := by
  simp only [evE] <;> rfl
theorem evE_or (a : E) (b : E) : evE c (.or a b) τ h = (evE c a τ h).b fun x h => match tru h x with
    | some true => .ok x h
    | some false => evE c b τ h
    | none => .no := by
  simp only [evE] <;> rfl
theorem evE_ite (d : E) (a : E) (b : E) : evE c (.ite d a b) τ h = (truR (evE c d τ h)).b fun t h => match t with
    | true => evE c a τ h
    | false => evE c b τ h := by
  simp only [evE] <;> rfl
@[simp] theorem evE_tup (as : Es) : evE c (.tup as) τ h = (evEs c as τ h).b fun xs h => if xs.length ≤ LIM then .ok (.tup xs) h else .no := by
  simp only [evE] <;> rfl
@[simp] theorem evE_lst (as : Es) : evE c (.lst as) τ h = (evEs c as τ h).b fun xs h => if xs.length ≤ LIM then .ok (.obj h.n) (h.new (.lst xs)) else .no := by
  simp only [evE] <;> rfl
@[simp] theorem evE_dct0 (t : Bool) : evE c (.dct0 t) τ h = .ok (.obj h.n) (h.new (match t with | true => .dT [] | false => .dK [])) := by
  simp only [evE] <;> rfl
@[simp] theorem evE_dct (kvs : Es) : evE c (.dct kvs) τ h = (evEs c kvs τ h).b fun xs h => match pairsOf xs with
    | some ps => if ps.all (fun p => keyW p.1) ∧ ps.length ≤ 15 then .ok (.obj h.n) (h.new (.dK (ps.foldl (fun d p => put keyEq p.1 p.2 d) []))) else .no
    | none => .no := by
  simp only [evE] <;> rfl
@[simp] theorem evE_ix (a : E) (i : E) : evE c (.ix a i) τ h = (evE c a τ h).b fun x h => (evE c i τ h).b fun y h => lf (getix x y h) := by
  simp only [evE] <;> rfl
@[simp] theorem evE_sl (a : E) (lo : Option') (hi : Option') : evE c (.sl a lo hi) τ h = (evE c a τ h).b fun x h => (evO c lo τ h).b fun l h => (evO c hi τ h).b fun r h => lf (getsl x l r h) := by
  simp only [evE] <;> rfl
@[simp] theorem evE_rev (a : E) : evE c (.rev a) τ h = (evE c a τ h).b fun x h => match x with
    | .obj n => match h.lst? n with
      | some xs => .ok (.obj h.n) (h.new (.lst xs.reverse))
      | none => .no
    | _ => .no := by
  simp only [evE] <;> rfl
@[simp] theorem evE_att (a : E) (f : Nat) : evE c (.att a f) τ h = (evE c a τ h).b fun x h => lf (getat x f h) := by
  simp only [evE] <;> rfl
@[simp] theorem evE_met (hs : List Mh) (a : E) : evE c (.met hs a) τ h = match c.hx with
    | some l => metR c.pg hs (evE (c.lam l) a τ h)
    | none => .no := by
  simp only [evE] <;> rfl
@[simp] theorem evE_cal (g : Nat) (as : Es) : evE c (.cal g as) τ h = (evEs c as τ h).b fun xs h => c.cf g xs h := by
  simp only [evE] <;> rfl
@[simp] theorem evE_cav (f : E) (as : Es) : evE c (.cav f as) τ h = (evE c f τ h).b fun x h => (evEs c as τ h).b fun xs h => match x with
    | .fn g => c.cf g xs h
    | .obj n => match h.get n with
      | some (.clo g caps) => c.cf g (caps ++ xs) h
      | _ => .no
    | _ => .no := by
  simp only [evE] <;> rfl
@[simp] theorem evE_new (k : Nat) (as : Es) : evE c (.new k as) τ h = (evEs c as τ h).b fun xs h => match c.pg.ini k with
    | some g => (c.cg g (.obj h.n :: xs) (h.new (.ins k []))).b fun v h' => match v with
      | .non => .ok (.obj h.n) h'
      | _ => .no
    | none => .no := by
  simp only [evE] <;> rfl
@[simp] theorem evE_mth (a : E) (m : Nat) (as : Es) : evE c (.mth a m as) τ h = (evE c a τ h).b fun x h => match mkind c.pg h m x with
    | .usr g => (evEs c as τ h).b fun xs h => c.cf g (x :: xs) h
    | .bt k => (evEs c as τ h).b fun xs h => lf (bmeth k x m xs h)
    | .no => .no := by
  simp only [evE] <;> rfl
@[simp] theorem evE_bfn (b : Bf) (as : Es) : evE c (.bfn b as) τ h = (evEs c as τ h).b fun xs h => lf (bfn b xs h) := by
  simp only [evE] <;> rfl
@[simp] theorem evEs_nil  : evEs c (.nil) τ h = .ok [] h := by
  simp only [evEs] <;> rfl
@[simp] theorem evEs_cons (a : E) (as : Es) : evEs c (.cons a as) τ h = (evE c a τ h).b fun x h => (evEs c as τ h).b fun xs h => .ok (x :: xs) h := by
  simp only [evEs] <;> rfl
@[simp] theorem evO_non  : evO c (.non) τ h = .ok none h := by
  simp only [evO] <;> rfl
@[simp] theorem evO_som (a : E) : evO c (.som a) τ h = (evE c a τ h).b fun x h => match x with
    | .int i => .ok (some i) h
    | _ => .no := by
  simp only [evO] <;> rfl
@[simp] theorem evC_nil  : evC c (.nil) τ h = .ok true h := by
  simp only [evC] <;> rfl
@[simp] theorem evC_one (a : E) : evC c (.one a) τ h = truR (evE c a τ h) := by
  simp only [evC] <;> rfl
@[simp] theorem evI_bad  : evI c (.bad) τ h = .no := by
  simp only [evI] <;> rfl
@[simp] theorem evI_ex (a : E) : evI c (.ex a) τ h = (evE c a τ h).b fun x h => match walk? h x with
    | some q => .ok q h
    | none => .no := by
  simp only [evI] <;> rfl
@[simp] theorem evI_rng (as : Es) : evI c (.rng as) τ h = (evEs c as τ h).b fun xs h => match rng? xs with
    | some xs => .ok (.snap xs) h
    | none => .no := by
  simp only [evI] <;> rfl
@[simp] theorem evI_enm (a : E) : evI c (.enm a) τ h = (evE c a τ h).b fun x h => match walk? h x with
    | some (.live n) => .ok (.enml n) h
    | _ => .no := by
  simp only [evI] <;> rfl
@[simp] theorem evT_bad  (w0 : W) : evT c (.bad) w0 τ h = .no := by
  simp only [evT] <;> rfl
@[simp] theorem evT_nm (i : Nat) (w : W) : evT c (.nm i) w τ h = .ok (τ.set i (some w)) h := by
  simp only [evT] <;> rfl
@[simp] theorem evT_tp (ts : Ts) (w : W) : evT c (.tp ts) w τ h = match seq? h w with
    | some xs => evTs c ts xs τ h
    | none => .no := by
  simp only [evT] <;> rfl
@[simp] theorem evT_sb (a : E) (i : E) (w : W) : evT c (.sb a i) w τ h = (evE c a τ h).b fun x h => (evE c i τ h).b fun y h => match setix x y w h with
    | some h => .ok τ h
    | none => .no := by
  simp only [evT] <;> rfl
@[simp] theorem evT_at (a : E) (f : Nat) (w : W) : evT c (.at a f) w τ h = (evE c a τ h).b fun x h => match setat c.pg.na x f w h with
    | some h => .ok τ h
    | none => .no := by
  simp only [evT] <;> rfl
@[simp] theorem evTs_nil  (ws : List W) : evTs c (.nil) ws τ h = match ws with
    | [] => .ok τ h
    | _ => .no := by
  simp only [evTs] <;> rfl
@[simp] theorem evTs_cons (t : T) (ts : Ts) (ws : List W) : evTs c (.cons t ts) ws τ h = match ws with
    | w :: ws => (evT c t w τ h).b fun τ h => evTs c ts ws τ h
    | [] => .no := by
  simp only [evTs] <;> rfl
@[simp] theorem evS_exp (e : E) : evS c (.exp e) τ h = (evE c e τ h).s τ fun _ h => .fl (.nx τ) h := by
  simp only [evS] <;> rfl
@[simp] theorem evS_asg (t : T) (e : E) : evS c (.asg t e) τ h = (evE c e τ h).s τ fun x h => (evT c t x τ h).s τ fun τ h => .fl (.nx τ) h := by
  simp only [evS] <;> rfl
@[simp] theorem evS_aug (i : Nat) (o : BO) (e : E) : evS c (.aug i o e) τ h = match τ[i]? with
    | some (some x) => (evE c e τ h).s τ fun y h => (lf (iop o x y h)).s τ fun z h => .fl (.nx (τ.set i (some z))) h
    | _ => .no := by
  simp only [evS] <;> rfl
@[simp] theorem evS_agf (a : E) (f : Nat) (o : BO) (e : E) : evS c (.agf a f o e) τ h = (evE c a τ h).s τ fun x h0 => (lf (getat x f h0)).s τ fun v h => (evE c e τ h).s τ fun y h => (lf (iop o v y h)).s τ fun z h => if clsN x h0 = clsN x h then (match setat c.pg.na x f z h with
    | some h => .fl (.nx τ) h
    | none => .no) else .no := by
  simp only [evS] <;> rfl
@[simp] theorem evS_ags (a : E) (i : E) (o : BO) (e : E) : evS c (.ags a i o e) τ h = (evE c a τ h).s τ fun x h => (evE c i τ h).s τ fun j h => (lf (getix x j h)).s τ fun v h => (evE c e τ h).s τ fun y h => (lf (iop o v y h)).s τ fun z h => match setix x j z h with
    | some h => .fl (.nx τ) h
    | none => .no := by
  simp only [evS] <;> rfl
@[simp] theorem evS_ret (e : E) : evS c (.ret e) τ h = (evE c e τ h).s τ fun x h => .fl (.rt x) h := by
  simp only [evS] <;> rfl
@[simp] theorem evS_retN  : evS c (.retN) τ h = .fl (.rt .non) h := by
  simp only [evS] <;> rfl
theorem evS_iff (d : E) (a : Ss) (b : Ss) : evS c (.iff d a b) τ h = (evB c d τ h).s τ fun t h => match t with
    | true => evSs c a τ h
    | false => evSs c b τ h := by
  simp only [evS] <;> rfl
@[simp] theorem evS_whl (d : E) (b : Ss) : evS c (.whl d b) τ h = whF (evB c d) (evSs c b) c.F τ h := by
  simp only [evS] <;> rfl
@[simp] theorem evS_for (t : T) (it : It) (b : Ss) : evS c (.for t it b) τ h = (evI c it τ h).s τ fun q h => forQ q (fun x τ h => (evT c t x τ h).s τ fun τ h => evSs c b τ h) τ h := by
  simp only [evS] <;> rfl
@[simp] theorem evS_brk  : evS c (.brk) τ h = .fl (.bk τ) h := by
  simp only [evS] <;> rfl
@[simp] theorem evS_cnt  : evS c (.cnt) τ h = .fl (.ct τ) h := by
  simp only [evS] <;> rfl
@[simp] theorem evS_pas  : evS c (.pas) τ h = .fl (.nx τ) h := by
  simp only [evS] <;> rfl
@[simp] theorem evS_bad  : evS c (.bad) τ h = .no := by
  simp only [evS] <;> rfl
@[simp] theorem evS_rai (k : Nat) (as : Es) : evS c (.rai k as) τ h = match c.hx, c.pg.xfs k with
    | some _, some fs => (evEs c as τ h).s τ fun xs h => if fs.length = xs.length then .ex (.own k (fs.zip xs)) τ h else .no
    | _, _ => .no := by
  simp only [evS] <;> rfl
@[simp] theorem evS_try (b : Ss) (hs : Hs) : evS c (.try b hs) τ h = match evSs c b τ h with
    | .ex e τ' h' => evH c e hs τ' h'
    | r => r := by
  simp only [evS] <;> rfl
end TX
end
section
set_option maxRecDepth 100000
set_option linter.unusedVariables false
/-! EvSim2: primitives, for simp. -/
namespace TX
variable {h : Hp} {c : Cf} {τ : Sl}
@[simp] theorem lf_some {w : W} : lf (some (w, h)) = .ok w h := rfl
@[simp] theorem boolR_some {b : Bool} : boolR (some b) h = some (.bl b, h) := rfl
@[simp] theorem b_addI {i j : Int} : binop .add (.int i) (.int j) h = some (.int (i + j), h) := rfl
@[simp] theorem b_subI {i j : Int} : binop .sub (.int i) (.int j) h = some (.int (i - j), h) := rfl
theorem b_mulI {i j : Int} (e : okI i || okI j) : binop .mul (.int i) (.int j) h = some (.int (i * j), h) := by simp only [binop, e]; rfl
theorem b_modI {i j : Int} (e : 0 < j) : binop .mod (.int i) (.int j) h = some (.int (i % j), h) := by simp only [binop, e, if_true]
theorem b_fdvI {i j : Int} (e : 0 < j ∧ j < 1073741824) : binop .fdv (.int i) (.int j) h = some (.int (i / j), h) := by simp only [binop, if_pos e]
theorem b_powI {i j : Int} (e : 0 ≤ j ∧ j ≤ 1000 ∧ i.natAbs < 2 ^ 64) : binop .pow (.int i) (.int j) h = some (.int (i ^ j.toNat), h) := by simp only [binop, if_pos e]
theorem b_addS {x y : List Nat} (e : x.length + y.length ≤ LIM) : binop .add (.str x) (.str y) h = some (.str (x ++ y), h) := by simp only [binop, if_pos e]
@[simp] theorem c_eqI {i j : Int} : cmpop .eq (.int i) (.int j) h = some (decide (i = j)) := rfl
@[simp] theorem c_neI {i j : Int} : cmpop .ne (.int i) (.int j) h = some (!decide (i = j)) := rfl
@[simp] theorem c_ltI {i j : Int} : cmpop .lt (.int i) (.int j) h = some (decide (i < j)) := rfl
@[simp] theorem c_leI {i j : Int} : cmpop .le (.int i) (.int j) h = some (decide (i ≤ j)) := rfl
@[simp] theorem c_gtI {i j : Int} : cmpop .gt (.int i) (.int j) h = some (decide (j < i)) := rfl
@[simp] theorem c_geI {i j : Int} : cmpop .ge (.int i) (.int j) h = some (decide (j ≤ i)) := rfl
theorem natEq_eq : ∀ x y : List Nat, natEq x y = decide (x = y)
  | [], [] => rfl
  | [], _ :: _ => rfl
  | _ :: _, [] => rfl
  | x :: xs, y :: ys => by
    rw [natEq, natEq_eq xs ys]
    by_cases e : x = y
    · subst e
      rw [show Nat.beq x x = true from Nat.beq_refl x]
      simp
    · have : Nat.beq x y = false := by
        cases q : Nat.beq x y with
        | false => rfl
        | true => exact absurd (Nat.eq_of_beq_eq_true q) e
      rw [this]
      simp [e]
@[simp] theorem c_eqS {x y : List Nat} : cmpop .eq (.str x) (.str y) h = some (decide (x = y)) := by
  show some (natEq x y) = _
  rw [natEq_eq]
@[simp] theorem c_neS {x y : List Nat} : cmpop .ne (.str x) (.str y) h = some (!decide (x = y)) := by
  show (some (natEq x y)).map (!·) = _
  rw [natEq_eq]; rfl
@[simp] theorem tru_bl {b : Bool} : tru h (.bl b) = some b := rfl
@[simp] theorem tru_int {i : Int} : tru h (.int i) = some (!decide (i = 0)) := rfl
@[simp] theorem f_intI {i : Int} : bfn .int [.int i] h = some (.int i, h) := rfl
@[simp] theorem f_min {i j : Int} : bfn .min [.int i, .int j] h = some (.int (if j < i then j else i), h) := rfl
@[simp] theorem f_max {i j : Int} : bfn .max [.int i, .int j] h = some (.int (if j > i then j else i), h) := rfl
theorem f_lenS {s : List Nat} (e : s.length ≤ LIM) : bfn .len [.str s] h = some (.int s.length, h) := by simp only [bfn, if_pos e]
theorem f_lenL {n : Nat} {xs : List W} (e : h.get n = some (.lst xs)) : bfn .len [.obj n] h = some (.int xs.length, h) := by simp only [bfn, e]
@[simp] theorem f_lenT {xs : List W} : bfn .len [.tup xs] h = some (.int xs.length, h) := rfl
theorem atI_nat {α : Type} {xs : List α} {i : Int} (h0 : 0 ≤ i) (h1 : i < xs.length) : atI xs i = xs[i.toNat]? := by
  unfold atI ixN
  rw [if_pos h0, if_pos h1]; rfl
theorem g_ixL {n : Nat} {xs : List W} {i : Int} {x : W} (e : h.get n = some (.lst xs)) (h0 : 0 ≤ i) (h1 : xs[i.toNat]? = some x) : getix (.obj n) (.int i) h = some (x, h) := by
  have hl := (List.getElem?_eq_some_iff.mp h1).1
  simp only [getix, e, atI_nat h0 (show i < xs.length by omega), h1]
theorem g_ixS {s : List Nat} {i : Int} {x : Nat} (h0 : 0 ≤ i) (hl : s.length ≤ LIM) (h1 : s[i.toNat]? = some x) : getix (.str s) (.int i) h = some (.str [x], h) := by
  have h2 := (List.getElem?_eq_some_iff.mp h1).1
  simp only [getix, if_pos hl, atI_nat h0 (show i < s.length by omega), h1]
theorem g_ixT {xs : List W} {i : Int} {x : W} (h0 : 0 ≤ i) (h1 : xs[i.toNat]? = some x) : getix (.tup xs) (.int i) h = some (x, h) := by
  have h2 := (List.getElem?_eq_some_iff.mp h1).1
  simp only [getix, atI_nat h0 (show i < xs.length by omega), h1]
theorem Hp.lst_of {n : Nat} {xs : List W} (e : h.get n = some (.lst xs)) : h.lst? n = some xs := by simp only [Hp.lst?, e]
/-- statements one by one -/
theorem wpS_cons {s : S} {ss : Ss} {D : Fl → Hp → Prop} : WpS (evSs c (.cons s ss) τ h) D ↔ WpS (evS c s τ h) (nxt (fun τ h => WpS (evSs c ss τ h) D) D) := by rw [evSs, wpS_b]
@[simp] theorem wpS_nil {D : Fl → Hp → Prop} : WpS (evSs c .nil τ h) D ↔ D (.nx τ) h := by rw [evSs]; exact Iff.rfl
theorem wp_evB {d : E} {Q : Bool → Hp → Prop} : Wp (evB c d τ h) Q ↔ Wp (evE c d τ h) fun w h => ∃ b, tru h w = some b ∧ Q b h := wp_truR
/-- a branch -/
def Br (o : Option Bool) (P Q : Prop) : Prop := match o with
  | some true => P
  | some false => Q
  | none => False
@[simp] theorem br_t {P Q : Prop} : Br (some true) P Q ↔ P := Iff.rfl
@[simp] theorem br_f {P Q : Prop} : Br (some false) P Q ↔ Q := Iff.rfl
theorem br_d {p : Prop} [Decidable p] {P Q : Prop} (a : p → P) (b : ¬ p → Q) : Br (some (decide p)) P Q := by
  by_cases e : p
  · rw [decide_eq_true e]; exact a e
  · rw [decide_eq_false e]; exact b e
theorem br_n {p : Prop} [Decidable p] {P Q : Prop} (a : ¬ p → P) (b : p → Q) : Br (some (!decide p)) P Q := by
  by_cases e : p
  · rw [decide_eq_true e]; exact b e
  · rw [decide_eq_false e]; exact a e
def Ot (o : Option Bool) (Q : Bool → Prop) : Prop := match o with
  | some r => Q r
  | none => False
@[simp] theorem ot_some {b : Bool} {Q : Bool → Prop} : Ot (some b) Q ↔ Q b := Iff.rfl
theorem wp_congr {α : Type} {x : R α} {P Q : α → Hp → Prop} (e : ∀ a h, P a h ↔ Q a h) : Wp x P ↔ Wp x Q := by
  cases x with
  | ok a h => exact e a h
  | _ => exact Iff.rfl
theorem boolR_wp {o : Option Bool} {Q : W → Hp → Prop} : Wp (lf (boolR o h)) Q ↔ Ot o fun r => Q (.bl r) h := by cases o <;> exact Iff.rfl
@[simp] theorem wp_cmp {o : CO} {a b : E} {Q : W → Hp → Prop} : Wp (evE c (.cmp o a b) τ h) Q ↔ Wp (evE c a τ h) fun x h => Wp (evE c b τ h) fun y h => Ot (cmpop o x y h) fun r => Q (.bl r) h := by
  rw [evE_cmp, wp_b]
  refine wp_congr fun x h => ?_
  rw [wp_b]
  exact wp_congr fun y h => boolR_wp
@[simp] theorem wp_nt {a : E} {Q : W → Hp → Prop} : Wp (evE c (.nt a) τ h) Q ↔ Wp (evE c a τ h) fun x h => Ot (tru h x) fun b => Q (.bl (!b)) h := by
  rw [evE_nt, wp_b, wp_truR]
  refine wp_congr fun x h => ?_
  generalize tru h x = o
  cases o with
  | none => exact ⟨fun ⟨_, q, _⟩ => (by cases q), fun q => q.elim⟩
  | some t => exact ⟨fun ⟨_, e, q⟩ => by cases e; exact q, fun q => ⟨t, rfl, q⟩⟩
@[simp] theorem wp_and {a b : E} {Q : W → Hp → Prop} : Wp (evE c (.and a b) τ h) Q ↔ Wp (evE c a τ h) fun x h => Br (tru h x) (Wp (evE c b τ h) Q) (Q x h) := by
  rw [evE_and, wp_b]
  refine wp_congr fun x h => ?_
  generalize tru h x = o
  rcases o with _ | _ | _ <;> exact Iff.rfl
@[simp] theorem wp_or {a b : E} {Q : W → Hp → Prop} : Wp (evE c (.or a b) τ h) Q ↔ Wp (evE c a τ h) fun x h => Br (tru h x) (Q x h) (Wp (evE c b τ h) Q) := by
  rw [evE_or, wp_b]
  refine wp_congr fun x h => ?_
  generalize tru h x = o
  rcases o with _ | _ | _ <;> exact Iff.rfl
theorem wp_tru {x : R W} {β : Type} {f : Bool → Hp → R β} {Q : β → Hp → Prop} : Wp ((truR x).b f) Q ↔ Wp x fun w h => Br (tru h w) (Wp (f true h) Q) (Wp (f false h) Q) := by
  rw [wp_b, wp_truR]
  refine wp_congr fun w h => ?_
  generalize tru h w = o
  rcases o with _ | _ | _
  · exact ⟨fun ⟨_, q, _⟩ => (by cases q), fun q => q.elim⟩
  · exact ⟨fun ⟨_, e, q⟩ => by cases e; exact q, fun q => ⟨_, rfl, q⟩⟩
  · exact ⟨fun ⟨_, e, q⟩ => by cases e; exact q, fun q => ⟨_, rfl, q⟩⟩
@[simp] theorem wp_ite {d a b : E} {Q : W → Hp → Prop} : Wp (evE c (.ite d a b) τ h) Q ↔ Wp (evE c d τ h) fun x h => Br (tru h x) (Wp (evE c a τ h) Q) (Wp (evE c b τ h) Q) := by
  rw [evE_ite, wp_tru]
@[simp] theorem wpS_iff {d : E} {a b : Ss} {D : Fl → Hp → Prop} : WpS (evS c (.iff d a b) τ h) D ↔ Wp (evE c d τ h) fun x h => Br (tru h x) (WpS (evSs c a τ h) D) (WpS (evSs c b τ h) D) := by
  rw [evS_iff, wpS_s, wp_evB]
  refine wp_congr fun x h => ?_
  generalize tru h x = o
  rcases o with _ | _ | _
  · exact ⟨fun ⟨_, q, _⟩ => (by cases q), fun q => q.elim⟩
  · exact ⟨fun ⟨_, e, q⟩ => by cases e; exact q, fun q => ⟨_, rfl, q⟩⟩
  · exact ⟨fun ⟨_, e, q⟩ => by cases e; exact q, fun q => ⟨_, rfl, q⟩⟩
@[simp] theorem wp_chn {o p : CO} {a b d : E} {Q : W → Hp → Prop} : Wp (evE c (.chn o p a b d) τ h) Q ↔ Wp (evE c a τ h) fun x h => Wp (evE c b τ h) fun y h => Br (cmpop o x y h) (Wp (evE c d τ h) fun z h => Ot (cmpop p y z h) fun r => Q (.bl r) h) (Q (.bl false) h) := by
  rw [evE_chn, wp_b]
  refine wp_congr fun x h => ?_
  rw [wp_b]
  refine wp_congr fun y h => ?_
  generalize cmpop o x y h = r
  rcases r with _ | _ | _
  · exact Iff.rfl
  · exact Iff.rfl
  · show Wp ((evE c d τ h).b _) Q ↔ _
    rw [wp_b]
    exact wp_congr fun z h => boolR_wp
end TX
end
section
set_option maxRecDepth 100000
set_option linter.unusedVariables false
/-! EvSim3: comprehensions, calls, methods, for simp. -/
namespace TX
variable {h : Hp} {c : Cf} {τ : Sl}
@[simp] theorem wp_lc {e : E} {t : T} {it : It} {d : Cs} {own : List Nat} {Q : W → Hp → Prop} : Wp (evE c (.lc e t it d own) τ h) Q ↔ Wp (evI c it τ h) fun q h => Wp (lcQ q (lcB c e t d own τ) h) fun ys h => Q (.obj h.n) (h.new (.lst ys)) := by
  rw [show evE c (.lc e t it d own) τ h = (evI c it τ h).b fun q h => (lcQ q (lcB c e t d own τ) h).nox.b fun ys h => .ok (.obj h.n) (h.new (.lst ys)) by simp only [evE]; rfl]
  simp only [wp_b, wp_nox, wp_ok]
@[simp] theorem wp_dc {k v : E} {t : T} {it : It} {own : List Nat} {Q : W → Hp → Prop} : Wp (evE c (.dc k v t it own) τ h) Q ↔ Wp (evI c it τ h) fun q h => Wp (lcQ q (dcB c k v t own τ) h) fun ys h => Q (.obj h.n) (h.new (.dK (ys.foldl putW []))) := by
  rw [show evE c (.dc k v t it own) τ h = (evI c it τ h).b fun q h => (lcQ q (dcB c k v t own τ) h).nox.b fun ys h => .ok (.obj h.n) (h.new (.dK (ys.foldl putW []))) by simp only [evE]; rfl]
  simp only [wp_b, wp_nox, wp_ok]
theorem wp_lcB0 {e : E} {t : T} {own : List Nat} {x : W} {Q : Option W → Hp → Prop} : Wp (lcB c e t .nil own τ x h) Q ↔ Wp (evT c t x (wipe τ own) h) fun τ' h => Wp (evE c e τ' h) fun y h => Q (some y) h := by
  unfold lcB
  simp only [wp_b, evC_nil, wp_ok]
theorem wp_lcB1 {e d : E} {t : T} {own : List Nat} {x : W} {Q : Option W → Hp → Prop} : Wp (lcB c e t (.one d) own τ x h) Q ↔ Wp (evT c t x (wipe τ own) h) fun τ' h => Wp (evE c d τ' h) fun b h => Br (tru h b) (Wp (evE c e τ' h) fun y h => Q (some y) h) (Q none h) := by
  unfold lcB
  rw [wp_b]
  refine wp_congr fun τ' h => ?_
  rw [evC_one, wp_tru]
  refine wp_congr fun b h => ?_
  simp only [wp_b, wp_ok]
theorem wp_dcB {k v : E} {t : T} {own : List Nat} {x : W} {Q : Option W → Hp → Prop} : Wp (dcB c k v t own τ x h) Q ↔ Wp (evT c t x (wipe τ own) h) fun τ' h => Wp (evE c k τ' h) fun k h => Wp (evE c v τ' h) fun v h => keyW k = true ∧ Q (some (.tup [k, v])) h := by
  unfold dcB
  rw [wp_b]
  refine wp_congr fun τ' h => ?_
  rw [wp_b]
  refine wp_congr fun k h => ?_
  rw [wp_b]
  refine wp_congr fun v h => ?_
  cases keyW k with
  | true => exact ⟨fun q => ⟨rfl, q⟩, fun q => q.2⟩
  | false => exact ⟨fun q => q.elim, fun q => by cases q.1⟩
@[simp] theorem mk_join {pg : Pg} {s : List Nat} : mkind pg h 2 (.str s) = .bt .str := rfl
theorem joinE : ∀ ss : List (List Nat), joinL [] ss = ss.flatten
  | [] => rfl
  | [x] => by simp [joinL]
  | x :: y :: r => by rw [joinL, joinE (y :: r)]; simp
theorem strs_map : ∀ ss : List (List Nat), strs? (ss.map .str) = some ss
  | [] => rfl
  | s :: ss => by simp only [List.map_cons, strs?, strs_map ss, Option.map_some]
theorem ints_map : ∀ ss : List Int, ints? (ss.map .int) = some ss
  | [] => rfl
  | s :: ss => by simp only [List.map_cons, ints?, ints_map ss, Option.map_some]
theorem bools_map : ∀ ss : List Bool, bools? (ss.map .bl) = some ss
  | [] => rfl
  | s :: ss => by simp only [List.map_cons, bools?, bools_map ss, Option.map_some]
theorem sumN_flat : ∀ ss : List (List Nat), sumN (ss.map List.length) = ss.flatten.length
  | [] => rfl
  | s :: ss => by simp only [List.map_cons, sumN, sumN_flat ss, List.flatten_cons, List.length_append]
theorem b_join {n : Nat} {ss : List (List Nat)} (e : h.get n = some (.lst (ss.map .str))) (hl : ss.flatten.length ≤ LIM) : bmeth .str (.str []) 2 [.obj n] h = some (.str ss.flatten, h) := by
  have e1 : seq? h (.obj n) = some (ss.map .str) := by simp only [seq?, Hp.lst?, e]
  simp only [bmeth, e1, Option.bind_some, strs_map]
  rw [if_pos (by simp; rw [sumN_flat]; exact hl), joinE]
theorem f_allL {n : Nat} {bs : List Bool} (e : h.get n = some (.lst (bs.map .bl))) : bfn .all [.obj n] h = some (.bl (bs.all id), h) := by
  simp only [bfn, Hp.lst?, e, Option.bind_some, bools_map]
theorem f_sumL {n : Nat} {is : List Int} (e : h.get n = some (.lst (is.map .int))) : bfn .sum [.obj n] h = some (.int is.sum, h) := by
  simp only [bfn, Hp.lst?, e, Option.bind_some, ints_map]
@[simp] theorem get_new_self {o : Ob} : (h.new o).get h.n = some o := by rw [Hp.get_new, if_pos rfl]
theorem rng1 {j : Int} (h0 : 0 ≤ j) (h1 : j ≤ 1000000) : rng? [.int j] = some (rngL j.toNat 0 1) := by
  have : small j = true := by
    unfold small
    simp only [Bool.and_eq_true, decide_eq_true_eq]
    omega
  simp only [rng?]
  rw [if_pos ⟨this, h1⟩]
/-- the items of a comprehension without a test, each by itself -/
theorem wp_lcMap {body : W → Hp → R (Option W)} {I : Nat → Hp → Prop} {P : W → W → Prop} {Q : List W → Hp → Prop} (xs : List W) (h : Hp) (hi : I 0 h) (hs : ∀ i x h, xs[i]? = some x → I i h → Wp (body x h) fun y h' => ∃ v, y = some v ∧ P x v ∧ I (i + 1) h')
    (hd : ∀ ys h, Al2 P xs ys → I xs.length h → Q ys h) : Wp (lcQ (.snap xs) body h) Q := by
  show Wp (lcS body xs [] h) Q
  refine wp_lcS (fun i acc h => Al2 P (xs.take i) acc.reverse ∧ I i h) xs 0 [] h ⟨.nil, hi⟩ (fun i x acc h e q => ?_) fun acc h q => ?_
  · rw [Nat.zero_add] at q ⊢
    refine (hs i x h e q.2).imp fun y h' ⟨v, e1, p, i1⟩ => ?_
    subst e1
    refine ⟨?_, i1⟩
    have e2 : xs.take (i + 1) = xs.take i ++ [x] := by
      rw [List.take_add_one, e]; rfl
    rw [e2]
    show Al2 P _ (v :: acc).reverse
    rw [List.reverse_cons]
    have app : ∀ {as : List W} {bs : List W} {a b : W}, Al2 P as bs → P a b → Al2 P (as ++ [a]) (bs ++ [b]) := fun {as bs a b} q p => by
      induction q with
      | nil => exact .cons p .nil
      | cons p' _ ih => exact .cons p' ih
    exact app q.1 p
  · rw [Nat.zero_add, List.take_length] at q
    exact hd _ _ q.1 q.2
theorem Al2.len {α β : Type} {P : α → β → Prop} : ∀ {as : List α} {bs : List β}, Al2 P as bs → as.length = bs.length
  | _, _, .nil => rfl
  | _, _, .cons _ q => by rw [List.length_cons, List.length_cons, q.len]
theorem Al2.map {α β : Type} {f : α → β} : ∀ {as : List α} {bs : List β}, Al2 (fun a b => b = f a) as bs → bs = as.map f
  | _, _, .nil => rfl
  | _, _, .cons p q => by rw [List.map_cons, p, q.map]
/-- items that hang on the source alone -/
theorem wp_lcG {body : W → Hp → R (Option W)} {g : W → Option W} {Q : List W → Hp → Prop} (xs : List W) (h : Hp) (hs : ∀ x, x ∈ xs → ∀ h', Ext h h' → Wp (body x h') fun y h'' => y = g x ∧ Ext h' h'') (hd : ∀ h', Ext h h' → Q (xs.filterMap g) h') : Wp (lcQ (.snap xs) body h) Q := by
  show Wp (lcS body xs [] h) Q
  refine wp_lcS (fun i acc h' => acc.reverse = (xs.take i).filterMap g ∧ Ext h h') xs 0 [] h ⟨rfl, .refl⟩ (fun i x acc h' e q => ?_) fun acc h' q => ?_
  · rw [Nat.zero_add] at q ⊢
    refine (hs x (List.mem_of_getElem? e) h' q.2).imp fun y h'' ⟨e1, x1⟩ => ⟨?_, q.2.trans x1⟩
    subst e1
    have e2 : xs.take (i + 1) = xs.take i ++ [x] := by rw [List.take_add_one, e]; rfl
    rw [e2, List.filterMap_append, ← q.1]
    cases gx : g x with
    | none => simp [pushO, gx]
    | some v => simp [pushO, gx]
  · rw [Nat.zero_add, List.take_length] at q
    rw [q.1]
    exact hd _ q.2
theorem wp_lcGL {body : W → Hp → R (Option W)} {g : W → Option W} {Q : List W → Hp → Prop} {n : Nat} (xs : List W) (h : Hp) (e : h.get n = some (.lst xs)) (hn : n < h.n) (hs : ∀ x, x ∈ xs → ∀ h', Ext h h' → Wp (body x h') fun y h'' => y = g x ∧ Ext h' h'') (hd : ∀ h', Ext h h' → Q (xs.filterMap g) h') : Wp (lcQ (.live n) body h) Q := by
  show Wp (lcL false n body (((h.lst? n).getD []).length + 1) 0 [] h) Q
  rw [Hp.lst_of e]
  refine wp_lcL (xs := xs) (fun i acc h' => acc.reverse = (xs.take i).filterMap g ∧ Ext h h') (fun i acc h' q => Hp.lst_of ((q.2.get n hn).trans e)) (fun i x acc h' e q => ?_) (fun acc h' q => ?_) _ 0 [] h ⟨rfl, .refl⟩ (Nat.zero_le _) (by simp)
  · refine (hs x (List.mem_of_getElem? e) h' q.2).imp fun y h'' ⟨e1, x1⟩ => ⟨?_, q.2.trans x1⟩
    subst e1
    have e2 : xs.take (i + 1) = xs.take i ++ [x] := by rw [List.take_add_one, e]; rfl
    rw [e2, List.filterMap_append, ← q.1]
    cases gx : g x with
    | none => simp [pushO, gx]
    | some v => simp [pushO, gx]
  · rw [List.take_length] at q
    rw [q.1]
    exact hd _ q.2
theorem filterMap_some {α β : Type} (f : α → β) : ∀ xs : List α, xs.filterMap (fun x => some (f x)) = xs.map f
  | [] => rfl
  | x :: xs => by simp
@[simp] theorem isi_str {s : List Nat} {t : W} : isi1 h (.str s) (.ty "str") = some true := rfl
@[simp] theorem f_isiS {s : List Nat} : bfn .isi [.str s, .ty "str"] h = some (.bl true, h) := rfl
@[simp] theorem f_isiT {xs : List W} : bfn .isi [.tup xs, .ty "tuple"] h = some (.bl true, h) := rfl
theorem c_inS {s : List Nat} {x : Nat} : cmpop .inn (.str [x]) (.str s) h = some (s.any (Nat.beq x)) := rfl
theorem w_str {s : List Nat} (hl : s.length ≤ LIM) : walk? h (.str s) = some (.snap (s.map fun c => .str [c])) := by simp only [walk?, if_pos hl]
theorem w_tup {xs : List W} (hl : xs.length ≤ LIM) : walk? h (.tup xs) = some (.snap xs) := by simp only [walk?, if_pos hl]
theorem w_lis {xs : List W} (hl : xs.length ≤ LIM) : walk? h (.lis xs) = some (.snap xs) := by simp only [walk?, if_pos hl]
theorem w_lst {n : Nat} {xs : List W} (e : h.get n = some (.lst xs)) (hl : xs.length ≤ LIM) : walk? h (.obj n) = some (.live n) := by simp only [walk?, Hp.lst_of e, if_pos hl]
theorem sl_tail {s : List Nat} {x : Nat} (hl : s.length + 1 ≤ LIM) : getsl (.str (x :: s)) (some 1) none h = some (.str s, h) := by
  simp only [getsl]
  rw [if_pos (by simpa using hl)]
  simp [cutL, sIx]
theorem wp_forQL {o : Nat} {xs : List W} {body : W → Sl → Hp → RS} (I : Nat → Sl → Hp → Prop) {D : Fl → Hp → Prop} (e : h.get o = some (.lst xs)) (hi : I 0 τ h) (hl : ∀ i τ h, I i τ h → h.get o = some (.lst xs))
    (hs : ∀ i x τ h, xs[i]? = some x → I i τ h → WpS (body x τ h) (trn (I (i + 1)) D)) (hd : ∀ τ h, I xs.length τ h → D (.nx τ) h) : WpS (forQ (.live o) body τ h) D := by
  show WpS (forL false o body (((h.lst? o).getD []).length + 1) 0 τ h) D
  rw [Hp.lst_of e]
  exact wp_forL (en := false) (xs := xs) I (fun i τ h q => Hp.lst_of (hl i τ h q)) hs hd _ 0 τ h hi (Nat.zero_le _) (by simp)
theorem wp_forQS {xs : List W} {body : W → Sl → Hp → RS} (I : Nat → Sl → Hp → Prop) {D : Fl → Hp → Prop} (hi : I 0 τ h)
    (hs : ∀ i x τ h, xs[i]? = some x → I i τ h → WpS (body x τ h) (trn (I (i + 1)) D)) (hd : ∀ τ h, I xs.length τ h → D (.nx τ) h) : WpS (forQ (.snap xs) body τ h) D := by
  show WpS (forS body xs τ h) D
  exact wp_forS I xs 0 τ h hi (fun i x τ h e q => by rw [Nat.zero_add] at q ⊢; exact hs i x τ h e q) (fun τ h q => by rw [Nat.zero_add] at q; exact hd τ h q)
theorem wp_whE {d : E} {b : Ss} (I : Nat → Sl → Hp → Prop) {D : Fl → Hp → Prop} (m : Nat) (hi : I m τ h) (hF : m < c.F) (hs : ∀ m τ h, I m τ h → Wp (evE c d τ h) fun w h' => Br (tru h' w) (∃ m', m = m' + 1 ∧ WpS (evSs c b τ h') (trn (I m') D)) (D (.nx τ) h')) : WpS (evS c (.whl d b) τ h) D := by
  rw [evS_whl]
  refine wp_wh I (fun m τ h q => ?_) c.F m τ h hi hF
  rw [wp_evB]
  refine (hs m τ h q).imp fun w h' q => ?_
  revert q
  generalize tru h' w = o
  rcases o with _ | _ | _
  · exact fun q => q.elim
  · exact fun q => ⟨false, rfl, q⟩
  · exact fun q => ⟨true, rfl, q⟩
end TX
end
section
set_option maxRecDepth 100000
set_option linter.unusedVariables false
namespace K74
open TX
abbrev sCells : List Nat := [99, 101, 108, 108, 115]
abbrev sAt : List Nat := [97, 116]
abbrev sDig : List Nat := [100, 105, 103, 105, 116, 115]
abbrev sCnt : List Nat := [99, 111, 117, 110, 116]
abbrev sFold : List Nat := [102, 111, 108, 100]
def pend (c : Nat) (at_ dg cn fo : Int) : List (W × W) := [(.str sCells, .obj c), (.str sAt, .int at_), (.str sDig, .int dg), (.str sCnt, .int cn), (.str sFold, .int fo)]
/-- the pen at p, so many draws at most -/
def Pen (p : Nat) (B : Int) (h : Hp) : Prop := ∃ c at_ dg cn fo, ∃ ns : List Int, h.get p = some (.dK (pend c at_ dg cn fo)) ∧ h.get c = some (.lst (ns.map .int)) ∧ p < h.n ∧ c < h.n ∧ c < p ∧ 0 ≤ at_ ∧ 0 ≤ dg ∧ 0 ≤ cn ∧ cn ≤ B ∧ 0 ≤ fo ∧ fo < 2147483648
structure ExtP (p : Nat) (h h' : Hp) : Prop where
  le : h.n ≤ h'.n
  get : ∀ i, i < h.n → i ≠ p → h'.get i = h.get i
section
variable {p c : Nat} {a dg cn fo x : Int} {h : Hp} (e : h.get p = some (.dK (pend c a dg cn fo)))
include e
theorem g_cells : getix (.obj p) (.str sCells) h = some (.obj c, h) := by simp only [getix, e]; rfl
theorem g_at : getix (.obj p) (.str sAt) h = some (.int a, h) := by simp only [getix, e]; rfl
theorem g_dig : getix (.obj p) (.str sDig) h = some (.int dg, h) := by simp only [getix, e]; rfl
theorem g_cnt : getix (.obj p) (.str sCnt) h = some (.int cn, h) := by simp only [getix, e]; rfl
theorem g_fold : getix (.obj p) (.str sFold) h = some (.int fo, h) := by simp only [getix, e]; rfl
theorem s_at : setix (.obj p) (.str sAt) (.int x) h = some (h.set p (.dK (pend c x dg cn fo))) := by simp only [setix, e]; rfl
theorem s_dig : setix (.obj p) (.str sDig) (.int x) h = some (h.set p (.dK (pend c a x cn fo))) := by simp only [setix, e]; rfl
theorem s_cnt : setix (.obj p) (.str sCnt) (.int x) h = some (h.set p (.dK (pend c a dg x fo))) := by simp only [setix, e]; rfl
theorem s_fold : setix (.obj p) (.str sFold) (.int x) h = some (h.set p (.dK (pend c a dg cn x))) := by simp only [setix, e]; rfl
end
theorem Pen.ext {p : Nat} {B : Int} {h h' : Hp} {c : Nat} {a dg cn fo : Int} {ns : List Int} (hg : h.get c = some (.lst (ns.map .int))) (h1 : p < h.n) (h2 : c < h.n) (h3 : c < p) (q : h' = h.set p (.dK (pend c a dg cn fo))) (h4 : 0 ≤ a) (h5 : 0 ≤ dg) (h6 : 0 ≤ cn) (h7 : cn ≤ B) (h8 : 0 ≤ fo) (h9 : fo < 2147483648) : Pen p B h' ∧ ExtP p h h' := by
  subst q
  refine ⟨⟨c, a, dg, cn, fo, ns, ?_, ?_, h1, h2, h3, h4, h5, h6, h7, h8, h9⟩, ⟨Nat.le_refl _, fun i hi hp => ?_⟩⟩
  · rw [Hp.get_set, if_pos rfl]
  · rw [Hp.get_set, if_neg (by omega)]; exact hg
  · rw [Hp.get_set, if_neg hp]
theorem ExtP.trans {p : Nat} {h h' h'' : Hp} (a : ExtP p h h') (b : ExtP p h' h'') : ExtP p h h'' := ⟨Nat.le_trans a.le b.le, fun i hi hp => (b.get i (Nat.lt_of_lt_of_le hi a.le) hp).trans (a.get i hi hp)⟩
theorem ExtP.refl {p : Nat} {h : Hp} : ExtP p h h := ⟨Nat.le_refl _, fun _ _ _ => rfl⟩
theorem ExtP.of {p : Nat} {h h' : Hp} (a : Ext h h') : ExtP p h h' := ⟨a.le, fun i hi _ => a.get i hi⟩
/-- the end of a draw -/
theorem draw_end {c0 : Cf} {p c : Nat} {B m a dg cn fo : Int} {h h0 : Hp} {x : Option W} {ns : List Int} (e1 : h.get p = some (.dK (pend c a dg cn fo))) (e2 : h.get c = some (.lst (ns.map .int))) (h1 : p < h.n) (h2 : c < h.n) (h3 : c < p) (h4 : 0 ≤ a) (h5 : 0 ≤ dg) (h6 : 0 ≤ cn) (h7 : cn ≤ B) (h8 : 0 ≤ fo) (h9 : fo < 2147483648) (hm : 0 < m) (hm2 : m < 1073741824) (hB : B < 2 ^ 41) (hx : ExtP p h0 h) :
    WpS (evSs c0 (.cons (.iff (.cmp .gt (.ix (.var 0) (.cst (.str [100, 105, 103, 105, 116, 115]))) (.cst (.int 0))) (.cons (.asg (.nm 4) (.bin .mod (.bfn .int (.cons (.ix (.var 0) (.cst (.str [100, 105, 103, 105, 116, 115]))) .nil)) (.var 1))) (.cons (.asg (.sb (.var 0) (.cst (.str [100, 105, 103, 105, 116, 115]))) (.bin .fdv (.ix (.var 0) (.cst (.str [100, 105, 103, 105, 116, 115]))) (.var 1))) (.cons (.ret (.var 4)) .nil))) .nil) (.cons (.asg (.nm 2) (.bin .add (.bin .add (.ix (.var 0) (.cst (.str [102, 111, 108, 100]))) (.bin .mul (.ix (.var 0) (.cst (.str [99, 111, 117, 110, 116]))) (.cst (.int 8311)))) (.cst (.int 43)))) (.cons (.ret (.bin .mod (.bin .fdv (.bfn .int (.cons (.bin .mod (.bin .pow (.var 2) (.cst (.int 13))) (.cst (.int 2305843009213693951))) .nil)) (.cst (.int 256))) (.var 1))) .nil))) [some (.obj p), some (.int m), none, x, none] h)
      (fnl fun w h' => ∃ i, w = .int i ∧ 0 ≤ i ∧ i < m ∧ Pen p B h' ∧ ExtP p h0 h') := by
  rw [wpS_cons]
  simp [g_dig e1]
  refine br_d (fun hd => ?_) (fun hd => ?_)
  · rw [wpS_cons]
    simp [g_dig e1, b_modI hm]
    rw [wpS_cons]
    simp [g_dig e1, b_fdvI ⟨hm, hm2⟩, s_dig e1]
    rw [wpS_cons]
    simp
    obtain ⟨P, X⟩ := Pen.ext (a := a) (dg := dg / m) (cn := cn) (fo := fo) (B := B) e2 h1 h2 h3 rfl h4 (Int.ediv_nonneg h5 (by omega)) h6 h7 h8 h9
    exact ⟨Int.emod_nonneg _ (by omega), Int.emod_lt_of_pos _ hm, P, hx.trans X⟩
  · rw [wpS_cons]
    have ok : (okI cn || okI 8311) = true := by rw [show okI 8311 = true by decide]; simp
    simp [g_fold e1, g_cnt e1, b_mulI ok]
    rw [wpS_cons]
    have hp : (0 : Int) ≤ 13 ∧ (13 : Int) ≤ 1000 ∧ (fo + cn * 8311 + 43).natAbs < 2 ^ 64 := ⟨by decide, by decide, by omega⟩
    simp [b_powI hp, b_modI (j := 2305843009213693951) (by decide), b_fdvI (j := 256) (by decide), b_modI hm, -Int.reducePow]
    exact ⟨Int.emod_nonneg _ (by omega), Int.emod_lt_of_pos _ hm, ⟨c, a, dg, cn, fo, ns, e1, e2, h1, h2, h3, h4, h5, h6, h7, h8, h9⟩, hx⟩
theorem draw_ok {F k p : Nat} {B m : Int} {h : Hp} (P : Pen p B h) (hm : 0 < m) (hm2 : m < 1073741824) (hB : B < 2 ^ 40) :
    Wp (run src.pg F (k + 2) 26 [.obj p, .int m] h) fun w h' => ∃ i, w = .int i ∧ 0 ≤ i ∧ i < m ∧ Pen p (B + 1) h' ∧ ExtP p h h' := by
  obtain ⟨c, a, dg, cn, fo, ns, e1, e2, h1, h2, h3, h4, h5, h6, h7, h8, h9⟩ := P
  rw [run_s src (d := d26) rfl rfl]
  rw [show d26.body = _ from t26]
  rw [wp_fin]
  show WpS (evSs _ _ [some (.obj p), some (.int m), none, none, none] h) _
  rw [wpS_cons]
  simp [g_cnt e1, s_cnt e1]
  have e1' : (h.set p (.dK (pend c a dg (cn + 1) fo))).get p = some (.dK (pend c a dg (cn + 1) fo)) := by rw [Hp.get_set, if_pos rfl]
  have e2' : (h.set p (.dK (pend c a dg (cn + 1) fo))).get c = some (.lst (ns.map .int)) := by rw [Hp.get_set, if_neg (by omega)]; exact e2
  have X : ExtP p h (h.set p (.dK (pend c a dg (cn + 1) fo))) := (Pen.ext (B := B + 1) e2 h1 h2 h3 rfl h4 h5 (by omega) (by omega) h8 h9).2
  have h1' : p < (h.set p (.dK (pend c a dg (cn + 1) fo))).n := h1
  have h2' : c < (h.set p (.dK (pend c a dg (cn + 1) fo))).n := h2
  generalize h.set p (.dK (pend c a dg (cn + 1) fo)) = g at *
  have skip : ∀ x, WpS (evSs _ _ [some (.obj p), some (.int m), none, x, none] g) (fnl fun w h' => ∃ i, w = .int i ∧ 0 ≤ i ∧ i < m ∧ Pen p (B + 1) h' ∧ ExtP p h h') := fun x => draw_end (c0 := ⟨src.pg, F, run src.pg F (k + 1), run src.pg F k, lamOf src.pg F k⟩) (x := x) e1' e2' h1' h2' h3 h4 h5 (by omega) (show cn + 1 ≤ B + 1 by omega) h8 h9 hm hm2 (by omega) X
  rw [wpS_cons]
  simp [g_dig e1', g_at e1', g_cells e1', f_lenL e2']
  refine br_d (fun hd => ?_) (fun hd => ?_)
  · refine br_d (fun ha => ?_) (fun ha => skip _)
    have hn : a.toNat < ns.length := by omega
    have hat : (ns.map W.int)[a.toNat]? = some (.int ns[a.toNat]) := by rw [List.getElem?_map, List.getElem?_eq_getElem hn]; rfl
    generalize ns[a.toNat] = v at hat
    rw [wpS_cons]
    simp [g_dig e1', g_at e1', g_cells e1', g_ixL e2' h4 hat]
    rw [wpS_cons]
    simp [g_dig e1', g_at e1', g_cells e1', s_at e1']
    have e1'' : (g.set p (.dK (pend c (a + 1) dg (cn + 1) fo))).get p = some (.dK (pend c (a + 1) dg (cn + 1) fo)) := by rw [Hp.get_set, if_pos rfl]
    have e2'' : (g.set p (.dK (pend c (a + 1) dg (cn + 1) fo))).get c = some (.lst (ns.map .int)) := by rw [Hp.get_set, if_neg (by omega)]; exact e2'
    have X2 : ExtP p h (g.set p (.dK (pend c (a + 1) dg (cn + 1) fo))) := X.trans (Pen.ext (B := B + 1) e2' h1' h2' h3 rfl (by omega) h5 (by omega) (by omega) h8 h9).2
    have h1'' : p < (g.set p (.dK (pend c (a + 1) dg (cn + 1) fo))).n := h1'
    have h2'' : c < (g.set p (.dK (pend c (a + 1) dg (cn + 1) fo))).n := h2'
    generalize g.set p (.dK (pend c (a + 1) dg (cn + 1) fo)) = g2 at *
    have hpw : (0 : Int) ≤ 18 ∧ (18 : Int) ≤ 1000 ∧ (10 : Int).natAbs < 2 ^ 64 := by decide
    rw [wpS_cons]
    simp [b_powI hpw, -Int.reducePow]
    refine br_d (fun hv => ?_) (fun hv => ?_)
    · rw [wpS_cons]
      simp [b_powI hpw, s_dig e1'', -Int.reducePow]
      have P := Pen.ext (a := a + 1) (dg := v - 10 ^ 18) (cn := cn + 1) (fo := fo) (B := B + 1) e2'' h1'' h2'' h3 rfl (by omega) (by omega) (by omega) (by omega) h8 h9
      refine draw_end (c0 := ⟨src.pg, F, run src.pg F (k + 1), run src.pg F k, lamOf src.pg F k⟩) (c := c) (a := a + 1) (dg := v - 10 ^ 18) (cn := cn + 1) (fo := fo) (ns := ns) ?_ ?_ h1'' h2'' h3 (by omega) (by omega) (by omega) (by omega) h8 h9 hm hm2 (by omega) (X2.trans P.2)
      · rw [Hp.get_set, if_pos rfl]
      · rw [Hp.get_set, if_neg (by omega)]; exact e2''
    · rw [wpS_cons]
      have ok : (okI fo || okI 65539) = true := by rw [show okI 65539 = true by decide]; simp
      simp [g_fold e1'', b_mulI ok, b_modI (j := 2147483549) (by decide), s_fold e1'']
      have hf1 : 0 ≤ (fo * 65539 + v) % 2147483549 := Int.emod_nonneg _ (by decide)
      have hf2 : (fo * 65539 + v) % 2147483549 < 2147483549 := Int.emod_lt_of_pos _ (by decide)
      have P := Pen.ext (a := a + 1) (dg := dg) (cn := cn + 1) (fo := (fo * 65539 + v) % 2147483549) (B := B + 1) e2'' h1'' h2'' h3 rfl (by omega) h5 (by omega) (by omega) (by omega) (by omega)
      refine draw_end (c0 := ⟨src.pg, F, run src.pg F (k + 1), run src.pg F k, lamOf src.pg F k⟩) (c := c) (a := a + 1) (dg := dg) (cn := cn + 1) (fo := (fo * 65539 + v) % 2147483549) (ns := ns) ?_ ?_ h1'' h2'' h3 (by omega) h5 (by omega) (by omega) hf1 (by omega) hm hm2 (by omega) (X2.trans P.2)
      · rw [Hp.get_set, if_pos rfl]
      · rw [Hp.get_set, if_neg (by omega)]; exact e2''
  · rw [decide_eq_false hd]
    exact skip _
end K74
end
section
set_option maxRecDepth 100000
set_option linter.unusedVariables false
set_option linter.unusedSimpArgs false
namespace K74
open TX
theorem Pen.mono {p : Nat} {B B' : Int} {h : Hp} (P : Pen p B h) (l : B ≤ B') : Pen p B' h := by
  obtain ⟨c, a, dg, cn, fo, ns, e1, e2, h1, h2, h3, h4, h5, h6, h7, h8, h9⟩ := P
  exact ⟨c, a, dg, cn, fo, ns, e1, e2, h1, h2, h3, h4, h5, h6, by omega, h8, h9⟩
theorem Pen.new {p : Nat} {B : Int} {h : Hp} (P : Pen p B h) (o : Ob) : Pen p B (h.new o) := by
  obtain ⟨c, a, dg, cn, fo, ns, e1, e2, h1, h2, h3, h4, h5, h6, h7, h8, h9⟩ := P
  exact ⟨c, a, dg, cn, fo, ns, by rw [Hp.get_new, if_neg (by omega)]; exact e1, by rw [Hp.get_new, if_neg (by omega)]; exact e2, by rw [Hp.n_new]; omega, by rw [Hp.n_new]; omega, h3, h4, h5, h6, h7, h8, h9⟩
theorem Pen.lt {p : Nat} {B : Int} {h : Hp} (P : Pen p B h) : p < h.n := by
  obtain ⟨c, a, dg, cn, fo, ns, e1, e2, h1, _⟩ := P; exact h1
theorem pick_s {F k p : Nat} {B : Int} {h : Hp} {s : List Nat} (P : Pen p B h) (h1 : s ≠ []) (h2 : s.length ≤ 1000) (hB : B < 2 ^ 40) :
    Wp (run src.pg F (k + 3) 27 [.obj p, .str s] h) fun w h' => ∃ c, c ∈ s ∧ w = .str [c] ∧ Pen p (B + 1) h' ∧ ExtP p h h' := by
  rw [run_s src (d := d27) rfl rfl, show d27.body = _ from t27, wp_fin]
  show WpS (evSs _ _ [some (.obj p), some (.str s)] h) _
  have hl : s.length ≤ LIM := Nat.le_trans h2 (by decide)
  have h0 : 0 < s.length := List.length_pos_iff.mpr h1
  rw [wpS_cons]
  simp [f_lenS hl]
  refine (draw_ok P (m := (s.length : Int)) (by omega) (by omega) hB).imp fun w h' ⟨i, e, i0, i1, P', X⟩ => ?_
  subst e
  have hn : i.toNat < s.length := by omega
  have e2 : s[i.toNat]? = some s[i.toNat] := List.getElem?_eq_getElem hn
  simp [g_ixS i0 hl e2]
  exact ⟨_, List.getElem_mem hn, rfl, P', X⟩
theorem pick_l {F k p n : Nat} {B : Int} {h : Hp} {xs : List W} (P : Pen p B h) (e : h.get n = some (.lst xs)) (hn : n < h.n) (hp : n ≠ p) (h1 : xs ≠ []) (h2 : xs.length ≤ 1000) (hB : B < 2 ^ 40) :
    Wp (run src.pg F (k + 3) 27 [.obj p, .obj n] h) fun w h' => w ∈ xs ∧ Pen p (B + 1) h' ∧ ExtP p h h' := by
  rw [run_s src (d := d27) rfl rfl, show d27.body = _ from t27, wp_fin]
  show WpS (evSs _ _ [some (.obj p), some (.obj n)] h) _
  have h0 : 0 < xs.length := List.length_pos_iff.mpr h1
  rw [wpS_cons]
  simp [f_lenL e]
  refine (draw_ok P (m := (xs.length : Int)) (by omega) (by omega) hB).imp fun w h' ⟨i, e', i0, i1, P', X⟩ => ?_
  subst e'
  have hl : i.toNat < xs.length := by omega
  have e2 : xs[i.toNat]? = some xs[i.toNat] := List.getElem?_eq_getElem hl
  simp [g_ixL ((X.get n hn hp).trans e) i0 e2]
  exact ⟨P', X⟩
/-- a row of picked signs -/
theorem picks {c0 : Cf} {F k p : Nat} {B : Int} {h : Hp} {s : List Nat} {τ : Sl} {sl : Nat} {xs : List W} {Q : List W → Hp → Prop} (hc : c0.cf = run src.pg F (k + 3)) (P : Pen p B h) (h1 : s ≠ []) (h2 : s.length ≤ 1000) (hB : B + xs.length < 2 ^ 40) {a b : E}
    (ha : ∀ x h, Wp (evEs c0 (.cons a (.cons b .nil)) ((wipe τ [sl]).set sl (some x)) h) fun ws h' => ws = [.obj p, .str s] ∧ h' = h)
    (hq : ∀ (ts : List Nat) h', (∀ c ∈ ts, c ∈ s) → ts.length = xs.length → Pen p (B + xs.length) h' → ExtP p h h' → Q (ts.map fun c => .str [c]) h') : Wp (lcQ (.snap xs) (lcB c0 (.cal 27 (.cons a (.cons b .nil))) (.nm sl) .nil [sl] τ) h) Q := by
  refine wp_lcMap (I := fun i h' => i ≤ xs.length → Pen p (B + i) h' ∧ ExtP p h h') (P := fun _ y => ∃ c, c ∈ s ∧ y = .str [c]) xs h (fun _ => ⟨by simpa using P, .refl⟩) (fun i x h' e q => ?_) (fun ys h' al q => ?_)
  · have hi := (List.getElem?_eq_some_iff.mp e).1
    obtain ⟨P', X⟩ := q (by omega)
    rw [wp_lcB0, evT_nm, wp_ok, evE_cal, wp_b]
    refine (ha x h').imp fun ws h'' ⟨e1, e2⟩ => ?_
    subst e1 e2
    rw [hc]
    refine (pick_s P' h1 h2 (by omega)).imp fun w h3 ⟨c, m, e3, P3, X3⟩ => ?_
    exact ⟨w, rfl, ⟨c, m, e3⟩, fun _ => ⟨by rw [show B + ((i + 1 : Nat) : Int) = B + i + 1 by omega]; exact P3, X.trans X3⟩⟩
  · obtain ⟨P', X⟩ := q (Nat.le_refl _)
    have conv : ∀ {xs ys : List W}, Al2 (fun _ y => ∃ c, c ∈ s ∧ y = W.str [c]) xs ys → ∃ ts : List Nat, ys = ts.map (fun c => .str [c]) ∧ (∀ c ∈ ts, c ∈ s) ∧ ts.length = xs.length := fun {xs ys} al => by
      induction al with
      | nil => exact ⟨[], rfl, fun _ h => by simp at h, rfl⟩
      | cons p _ ih =>
        obtain ⟨c, m, rfl⟩ := p
        obtain ⟨ts, rfl, a, b⟩ := ih
        exact ⟨c :: ts, rfl, fun d hd => (List.mem_cons.mp hd).elim (fun e => e ▸ m) (a d), by simp [b]⟩
    obtain ⟨ts, rfl, a, b⟩ := conv al
    exact hq ts h' a b P' X
theorem flat_one : ∀ ts : List Nat, (ts.map fun c => [c]).flatten = ts
  | [] => rfl
  | t :: ts => by simp [flat_one ts]
theorem join_one {n : Nat} {ts : List Nat} {h : Hp} (e : h.get n = some (.lst (ts.map fun c => .str [c]))) (hl : ts.length ≤ LIM) : bmeth .str (.str []) 2 [.obj n] h = some (.str ts, h) := by
  have e1 : (ts.map fun c => W.str [c]) = (ts.map fun c => [c]).map .str := by rw [List.map_map]; rfl
  rw [e1] at e
  rw [b_join e (by rw [flat_one]; exact hl), flat_one]
theorem line_ok {F k p : Nat} {B : Int} {h : Hp} {s : List Nat} {most : Int} (P : Pen p B h) (h1 : s ≠ []) (h2 : s.length ≤ 1000) (hm : 0 ≤ most) (hm2 : most ≤ 100) (hB : B < 2 ^ 39) :
    Wp (run src.pg F (k + 4) 33 [.obj p, .str s, .int most] h) fun w h' => ∃ t, w = .str t ∧ (∀ c ∈ t, c ∈ s) ∧ (t.length : Int) ≤ most ∧ Pen p (B + 1 + most) h' ∧ ExtP p h h' := by
  rw [run_s src (d := d33) rfl rfl, show d33.body = _ from t33, wp_fin]
  show WpS (evSs _ _ [some (.obj p), some (.str s), some (.int most), none] h) _
  rw [wpS_cons]
  simp
  refine (draw_ok (k := k + 1) P (m := most + 1) (by omega) (by omega) (by omega)).imp fun w h' ⟨i, e, i0, i1, P', X⟩ => ?_
  subst e
  simp [rng1 i0 (by omega)]
  refine picks (F := F) (k := k) (s := s) rfl P' h1 h2 (by rw [rngL_len]; omega) (fun x h => by simp [wipe]) fun ts h'' a b P'' X' => ?_
  rw [rngL_len] at b P''
  simp [join_one get_new_self (show ts.length ≤ LIM by rw [b]; exact Nat.le_trans (show i.toNat ≤ 100 by omega) (by decide))]
  exact ⟨a, by omega, (P''.new _).mono (by omega), (X.trans X').trans (.of (Ext.new _))⟩
end K74
end
section
set_option maxRecDepth 100000
set_option linter.unusedVariables false
set_option linter.unusedSimpArgs false
namespace K74
open TX
/-- a pure answer -/
def Pu (r : R W) (w : W) (h : Hp) : Prop := Wp r fun x h' => x = w ∧ Ext h h'
theorem any_mem {s : List Nat} {x : Nat} (h : x ∈ s) : s.any (Nat.beq x) = true := List.any_eq_true.mpr ⟨x, h, Nat.beq_refl x⟩
theorem all_t {n : Nat} {h : Hp} {xs : List W} (e : h.get n = some (.lst xs)) (hx : ∀ x ∈ xs, x = .bl true) : bfn .all [.obj n] h = some (.bl true, h) := by
  have e1 : xs = (xs.map fun _ => true).map .bl := by
    rw [List.map_map]
    refine List.ext_getElem (by simp) fun i h1 h2 => ?_
    simp only [List.getElem_map, Function.comp]
    exact hx _ (List.getElem_mem _)
  rw [e1] at e
  rw [f_allL e]
  congr 1
  simp
theorem text_in {F k : Nat} {h : Hp} {s t : List Nat} (ht : ∀ c ∈ t, c ∈ s) (hl : t.length ≤ LIM) : Pu (run src.pg F (k + 2) 2 [.str s, .str t] h) (.bl true) h := by
  unfold Pu
  rw [run_s src (d := d2) rfl rfl, show d2.body = _ from t2, wp_fin]
  show WpS (evSs _ _ [some (.str s), some (.str t), none] h) _
  rw [wpS_cons]
  simp [w_str hl]
  refine wp_lcG (g := fun _ => some (.bl true)) _ h (fun x hx h' X => ?_) fun h' X => ?_
  · obtain ⟨c, hc, rfl⟩ := List.mem_map.mp hx
    rw [wp_lcB0]
    simp [wipe, c_inS, any_mem (ht c hc)]
    exact .refl
  · rw [filterMap_some, all_t get_new_self (by simp)]
    simp
    exact X.trans (.new _)
theorem need_text_ok {F k : Nat} {h : Hp} {s t : List Nat} (ht : ∀ c ∈ t, c ∈ s) (hl : t.length ≤ LIM) : Pu (run src.pg F (k + 3) 3 [.str s, .str t] h) .non h := by
  unfold Pu
  rw [run_s src (d := d3) rfl rfl, show d3.body = _ from t3, wp_fin]
  show WpS (evSs _ _ [some (.str s), some (.str t)] h) _
  rw [wpS_cons]
  simp
  refine (text_in ht hl).imp fun x h' ⟨e, X⟩ => ?_
  subst e
  simp
  exact X
/-- signs, by a check -/
def txtSigns : List Nat := [97, 98, 99, 100, 101, 102, 103, 104, 105, 106, 107, 108, 109, 110, 111, 112, 113, 114, 115, 116, 117, 118, 119, 120, 121, 122, 48, 49, 50, 51, 52, 53, 54, 55, 56, 57, 58, 59, 44, 61, 43]
def signsB (s : List Nat) : Bool := Nat.ble 1 s.length && Nat.ble s.length 10 && s.all (fun c => txtSigns.any (Nat.beq c)) && Nat.beq (((s.map fun c => W.str [c]).map fun x => W.tup [x, .bl true]).foldl putW []).length s.length
def Signs (s : List Nat) : Prop := signsB s = true
theorem Signs.len {s : List Nat} (h : Signs s) : s.length ≤ LIM ∧ 1 ≤ s.length ∧ s.length ≤ 10 := by
  unfold Signs signsB at h
  simp only [Bool.and_eq_true] at h
  have h1 := Nat.le_of_ble_eq_true h.1.1.1
  have h2 := Nat.le_of_ble_eq_true h.1.1.2
  exact ⟨Nat.le_trans h2 (by decide), h1, h2⟩
theorem Signs.mem {s : List Nat} (h : Signs s) : ∀ c ∈ s, txtSigns.any (Nat.beq c) = true := by
  unfold Signs signsB at h
  simp only [Bool.and_eq_true] at h
  exact List.all_eq_true.mp h.1.2
theorem Signs.dict {s : List Nat} (h : Signs s) : (((s.map fun c => W.str [c]).map fun x => W.tup [x, .bl true]).foldl putW []).length = s.length := by
  unfold Signs signsB at h
  simp only [Bool.and_eq_true] at h
  exact Nat.eq_of_beq_eq_true h.2
theorem Signs.codes {s : List Nat} (h : Signs s) : ∀ c ∈ s, c < 1114112 := fun c hc => by
  have := h.mem c hc
  have k : ∀ x ∈ txtSigns, x < 1114112 := by decide
  obtain ⟨x, hx, e⟩ := List.any_eq_true.mp this
  rw [Nat.eq_of_beq_eq_true e]
  exact k x hx
theorem Signs.ne {s : List Nat} (h : Signs s) : s ≠ [] := fun e => by have := h.len; subst e; simp at this
theorem signs_ok {F k : Nat} {h : Hp} {s : List Nat} (hs : Signs s) : Pu (run src.pg F (k + 2) 0 [.str s] h) (.bl true) h := by
  unfold Pu
  have hl := hs.len
  have hm := hs.mem
  unfold txtSigns at hm
  rw [run_s src (d := d0) rfl rfl, show d0.body = _ from t0, wp_fin]
  show WpS (evSs _ _ [some (.str s), none] h) _
  rw [wpS_cons]
  simp [f_lenS hl.1, w_str hl.1]
  rw [decide_eq_true (show (1 : Int) ≤ s.length by omega)]
  simp
  rw [decide_eq_true (show (s.length : Int) ≤ 10 by omega)]
  simp [w_str hl.1]
  refine wp_lcG (g := fun _ => some (.bl true)) _ h (fun x hx h' X => ?_) fun h' X => ?_
  · obtain ⟨c, hc, rfl⟩ := List.mem_map.mp hx
    rw [wp_lcB0]
    simp only [evT_nm, wp_ok, wp_cmp, evE_cst, c_inS, hm c hc]
    simp [wipe, c_inS]
    exact ⟨by simpa using hm c hc, .refl⟩
  · rw [filterMap_some, all_t get_new_self (by simp)]
    simp
    rw [wpS_cons]
    simp [w_str hl.1]
    have X2 : Ext h (h'.new (.lst ((s.map fun c => W.str [c]).map fun _ => .bl true))) := X.trans (.new _)
    rw [List.map_map] at X2
    refine wp_lcG (g := fun x => some (.tup [x, .bl true])) _ _ (fun x hx h'' X => ?_) fun h'' X3 => ?_
    · obtain ⟨c, hc, rfl⟩ := List.mem_map.mp hx
      rw [wp_dcB]
      simp [wipe, keyW]
      exact .refl
    · rw [filterMap_some]
      have e : bfn .len [.obj h''.n] (h''.new (.dK (((s.map fun c => W.str [c]).map fun x => .tup [x, .bl true]).foldl putW []))) = some (.int s.length, h''.new (.dK (((s.map fun c => W.str [c]).map fun x => .tup [x, .bl true]).foldl putW []))) := by
        simp only [bfn, get_new_self]
        rw [hs.dict]
      rw [e]
      simp [f_lenS hl.1]
      exact (X2.trans X3).trans (.new _)
end K74
end
section
set_option maxRecDepth 100000
set_option linter.unusedVariables false
set_option linter.unusedSimpArgs false
namespace K74
open TX
theorem need_signs_ok {F k : Nat} {h : Hp} {s : List Nat} (hs : Signs s) : Pu (run src.pg F (k + 3) 1 [.str s] h) .non h := by
  unfold Pu
  rw [run_s src (d := d1) rfl rfl, show d1.body = _ from t1, wp_fin]
  show WpS (evSs _ _ [some (.str s)] h) _
  rw [wpS_cons]
  simp
  refine (signs_ok hs).imp fun x h' ⟨e, X⟩ => ?_
  subst e
  simp
  exact X
/-- an edit's words -/
inductive Op where | k (n : Nat) | d (n : Nat) | p (t : List Nat)
def enc : Op → W
  | .k n => .str (107 :: digs n)
  | .d n => .str (100 :: digs n)
  | .p t => .str (112 :: t)
def val : Op → W
  | .k n => .tup [.str [107], .int n]
  | .d n => .tup [.str [100], .int n]
  | .p t => .tup [.str [112], .str t]
def Op.ok (s : List Nat) : Op → Prop
  | .k n => 0 < n ∧ n < 1000
  | .d n => 0 < n ∧ n < 1000
  | .p t => t ≠ [] ∧ t.length < 1000 ∧ ∀ c ∈ t, c ∈ s
def digOk (n : Nat) : Bool := (digs n).length ≤ 3 && !(digs n).isEmpty && (num? (digs n) 0 == some n) && (digs n).all (fun c => ([48, 49, 50, 51, 52, 53, 54, 55, 56, 57] : List Nat).any (Nat.beq c)) && (n == 0 || (digs n).head? != some 48)
theorem digs_all : ∀ n, n < 1000 → digOk n = true := by decide +kernel
theorem digs_ok {n : Nat} (h : n < 1000) (h0 : 0 < n) : ∃ x r, digs n = x :: r ∧ x ≠ 48 ∧ r.length ≤ 2 ∧ num? (x :: r) 0 = some n ∧ ∀ c ∈ x :: r, ([48, 49, 50, 51, 52, 53, 54, 55, 56, 57] : List Nat).any (Nat.beq c) = true := by
  have q := digs_all n h
  unfold digOk at q
  cases e : digs n with
  | nil => rw [e] at q; simp at q
  | cons x r =>
    rw [e] at q
    simp only [Bool.and_eq_true, decide_eq_true_eq, List.length_cons, List.all_eq_true, beq_iff_eq] at q
    obtain ⟨⟨⟨⟨q1, q2⟩, q3⟩, q4⟩, q5⟩ := q
    refine ⟨x, r, rfl, ?_, by omega, q3, q4⟩
    intro z
    subst z
    simp at q5
    omega
theorem word_ok {F k : Nat} {h : Hp} {s : List Nat} {o : Op} (ho : o.ok s) : Pu (run src.pg F (k + 3) 4 [.str s, enc o] h) (.bl true) h := by
  unfold Pu
  rw [run_s src (d := d4) rfl rfl, show d4.body = _ from t4, wp_fin]
  show WpS (evSs _ _ [some (.str s), some (enc o), none] h) _
  have num : ∀ (y n : Nat), (y = 107 ∨ y = 100) → 0 < n → n < 1000 → WpS (evSs ⟨src.pg, F, run src.pg F (k + 2), run src.pg F (k + 1), lamOf src.pg F (k + 1)⟩ (.cons (.iff (.or (.nt (.bfn .isi (.cons (.var 1) (.cons (.cst (.ty "str")) .nil)))) (.cmp .lt (.bfn .len (.cons (.var 1) .nil)) (.cst (.int 2)))) (.cons (.ret (.cst (.bl false))) .nil) .nil) (.cons (.iff (.cmp .eq (.ix (.var 1) (.cst (.int 0))) (.cst (.str [112]))) (.cons (.ret (.cal 2 (.cons (.var 0) (.cons (.sl (.var 1) (.som (.cst (.int 1))) .non) .nil)))) .nil) .nil) (.cons (.iff (.or (.cmp .nin (.ix (.var 1) (.cst (.int 0))) (.tup (.cons (.cst (.str [107])) (.cons (.cst (.str [100])) .nil)))) (.or (.cmp .gt (.bfn .len (.cons (.var 1) .nil)) (.cst (.int 7))) (.cmp .eq (.ix (.var 1) (.cst (.int 1))) (.cst (.str [48]))))) (.cons (.ret (.cst (.bl false))) .nil) .nil) (.cons (.ret (.bfn .all (.cons (.lc (.cmp .inn (.var 2) (.cst (.str [48, 49, 50, 51, 52, 53, 54, 55, 56, 57]))) (.nm 2) (.ex (.sl (.var 1) (.som (.cst (.int 1))) .non)) .nil [2]) .nil))) .nil)))) [some (.str s), some (.str (y :: digs n)), none] h) (fnl fun x h' => x = .bl true ∧ Ext h h') := fun y n hy h0 h1 => by
    obtain ⟨x, r, e, x48, hl, hn, hd⟩ := digs_ok h1 h0
    rw [e]
    have hL : (y :: x :: r).length ≤ LIM := Nat.le_trans (show _ ≤ 4 by simp; omega) (by decide)
    have i0 : getix (.str (y :: x :: r)) (.int 0) = fun h => some (.str [y], h) := by
      funext h
      exact g_ixS (Int.le_refl 0) hL rfl
    have i1 : getix (.str (y :: x :: r)) (.int 1) = fun h => some (.str [x], h) := by
      funext h
      exact g_ixS (by decide) hL rfl
    rw [wpS_cons]
    simp [f_lenS hL]
    rw [decide_eq_false (by omega)]
    simp
    rw [wpS_cons]
    simp [i0]
    rw [decide_eq_false (by omega)]
    simp
    rw [wpS_cons]
    have n1 : cmpop .nin (.str [y]) (.tup [.str [107], .str [100]]) h = some false := by
      rcases hy with rfl | rfl <;> rfl
    simp [i0, i1, n1, f_lenS hL, LIM]
    rw [decide_eq_false (by omega)]
    simp
    rw [decide_eq_false x48]
    simp
    rw [wpS_cons]
    have hL2 : (x :: r).length ≤ LIM := Nat.le_trans (show _ ≤ 4 by simp; omega) (by decide)
    simp [sl_tail hL, w_str hL2]
    refine wp_lcG (g := fun _ => some (.bl true)) _ _ (fun x' hx h' X => ?_) fun h' X => ?_
    · have hx' : x' ∈ (x :: r).map fun c => W.str [c] := by simpa using hx
      obtain ⟨c, hc, rfl⟩ := List.mem_map.mp hx'
      rw [wp_lcB0]
      simp only [evT_nm, wp_ok, wp_cmp, evE_cst, c_inS, hd c hc]
      simp [wipe, c_inS]
      exact ⟨by simpa using hd c hc, .refl⟩
    · rw [filterMap_some, all_t get_new_self (by simp)]
      simp
      exact X.trans (.new _)
  cases o with
  | k n => exact num 107 n (.inl rfl) ho.1 ho.2
  | d n => exact num 100 n (.inr rfl) ho.1 ho.2
  | p t =>
    obtain ⟨h1, h2, h3⟩ := ho
    show WpS (evSs _ _ [some (.str s), some (.str (112 :: t)), none] h) _
    have hL : (112 :: t).length ≤ LIM := Nat.le_trans (show _ ≤ 1000 by simp; omega) (by decide)
    have h0 : 0 < t.length := List.length_pos_iff.mpr h1
    have i0 : getix (.str (112 :: t)) (.int 0) = fun h => some (.str [112], h) := by
      funext h
      exact g_ixS (Int.le_refl 0) hL rfl
    rw [wpS_cons]
    simp [f_lenS hL]
    rw [decide_eq_false (by omega)]
    simp
    rw [wpS_cons]
    simp [i0]
    rw [wpS_cons]
    simp [sl_tail hL]
    exact text_in h3 (Nat.le_trans (show t.length ≤ 1000 by omega) (by decide))
theorem edit_in_ok {F k : Nat} {h : Hp} {s : List Nat} {os : List Op} (ho : ∀ o ∈ os, o.ok s) (hl : os.length ≤ 1000) : Pu (run src.pg F (k + 4) 5 [.str s, .tup (os.map enc)] h) (.bl true) h := by
  unfold Pu
  rw [run_s src (d := d5) rfl rfl, show d5.body = _ from t5, wp_fin]
  show WpS (evSs _ _ [some (.str s), some (.tup (os.map enc)), none] h) _
  have hL : (os.map enc).length ≤ LIM := by rw [List.length_map]; exact Nat.le_trans hl (by decide)
  rw [wpS_cons]
  simp [w_tup hL]
  refine wp_lcG (g := fun _ => some (.bl true)) _ _ (fun x' hx h' X => ?_) fun h' X => ?_
  · obtain ⟨o, hm, rfl⟩ := List.mem_map.mp hx
    rw [wp_lcB0]
    simp [wipe]
    exact word_ok (ho o hm)
  · rw [filterMap_some, all_t get_new_self (by simp)]
    simp
    exact X.trans (.new _)
theorem need_edit_ok {F k : Nat} {h : Hp} {s : List Nat} {os : List Op} (hs : Signs s) (ho : ∀ o ∈ os, o.ok s) (hl : os.length ≤ 1000) : Pu (run src.pg F (k + 5) 8 [.str s, .tup (os.map enc)] h) .non h := by
  unfold Pu
  rw [run_s src (d := d8) rfl rfl, show d8.body = _ from t8, wp_fin]
  show WpS (evSs _ _ [some (.str s), some (.tup (os.map enc))] h) _
  rw [wpS_cons]
  simp
  refine (need_signs_ok (k := k + 1) hs).imp fun x h' ⟨e, X⟩ => ?_
  subst e
  rw [wpS_cons]
  simp
  refine (edit_in_ok ho hl).imp fun x h'' ⟨e, X2⟩ => ?_
  subst e
  simp
  exact X.trans X2
/-- of any signs: the words are told apart -/
def Op.num (o : Op) : Prop := match o with
  | .k n => 0 < n ∧ n < 1000
  | .d n => 0 < n ∧ n < 1000
  | .p t => t.length < 1000
theorem Op.ok.num {o : Op} {s : List Nat} (h : o.ok s) : o.num := by
  cases o with
  | k n => exact h
  | d n => exact h
  | p t => exact h.2.1
theorem f_intS {h : Hp} {x n : Nat} {r : List Nat} (hl : r.length ≤ 2) (e : num? (x :: r) 0 = some n) : bfn .int [.str (x :: r)] h = some (.int n, h) := by
  simp only [bfn]
  rw [if_pos ⟨by simp; omega, by simp⟩, e]
/-- one word read -/
theorem pair_one {c0 : Cf} {h : Hp} {o : Op} {τ : Sl} (ho : o.num) (hτ : 1 < τ.length) : Wp (lcB c0 (.tup (.cons (.ix (.var 1) (.cst (.int 0))) (.cons (.ite (.cmp .eq (.ix (.var 1) (.cst (.int 0))) (.cst (.str [112]))) (.sl (.var 1) (.som (.cst (.int 1))) .non) (.bfn .int (.cons (.sl (.var 1) (.som (.cst (.int 1))) .non) .nil))) .nil))) (.nm 1) .nil [1] τ (enc o) h) fun y h'' => y = some (val o) ∧ Ext h h'' := by
  rw [wp_lcB0]
  have hg : ((wipe τ [1]).set 1 (some (enc o)))[1]? = some (some (enc o)) := by
    rw [List.getElem?_set_self]
    simp [wipe]; exact hτ
  have num : ∀ (y n : Nat), (y = 107 ∨ y = 100) → 0 < n → n < 1000 → ((wipe τ [1]).set 1 (some (.str (y :: digs n))))[1]? = some (some (.str (y :: digs n))) → Wp (evT c0 (.nm 1) (.str (y :: digs n)) (wipe τ [1]) h) fun τ' h' => Wp (evE c0 (.tup (.cons (.ix (.var 1) (.cst (.int 0))) (.cons (.ite (.cmp .eq (.ix (.var 1) (.cst (.int 0))) (.cst (.str [112]))) (.sl (.var 1) (.som (.cst (.int 1))) .non) (.bfn .int (.cons (.sl (.var 1) (.som (.cst (.int 1))) .non) .nil))) .nil))) τ' h') fun z h'' => some z = some (.tup [.str [y], .int n]) ∧ Ext h h'' := fun y n hy h0 h1 hg => by
    obtain ⟨x, r, e, x48, hl, hn, hd⟩ := digs_ok h1 h0
    rw [e] at hg ⊢
    have hL : (y :: x :: r).length ≤ LIM := Nat.le_trans (show _ ≤ 4 by simp; omega) (by decide)
    have i0 : getix (.str (y :: x :: r)) (.int 0) = fun h => some (.str [y], h) := by
      funext h
      exact g_ixS (Int.le_refl 0) hL rfl
    have hy2 : y ≠ 112 := by omega
    simp [hg, i0, sl_tail hL, f_intS hl hn, hy2, LIM]
    exact .refl
  cases o with
  | k n => exact num 107 n (.inl rfl) ho.1 ho.2 hg
  | d n => exact num 100 n (.inr rfl) ho.1 ho.2 hg
  | p t =>
    have hL : (112 :: t).length ≤ LIM := Nat.le_trans (show _ ≤ 1000 by have : t.length < 1000 := ho; simp; omega) (by decide)
    have i0 : getix (.str (112 :: t)) (.int 0) = fun h => some (.str [112], h) := by
      funext h
      exact g_ixS (Int.le_refl 0) hL rfl
    have hg' : ((wipe τ [1]).set 1 (some (.str (112 :: t))))[1]? = some (some (.str (112 :: t))) := hg
    show Wp (evT c0 (.nm 1) (.str (112 :: t)) (wipe τ [1]) h) _
    simp [hg', i0, sl_tail hL, LIM, val]
    exact .refl
/-- the pairs of an edit -/
theorem pairs_ok {F k g : Nat} {h : Hp} {os : List Op} (hg : g = 6 ∨ g = 28) (ho : ∀ o ∈ os, o.num) (hl : os.length ≤ 1000) : Wp (run src.pg F (k + 2) g [.tup (os.map enc)] h) fun w h' => ∃ h0, w = .obj h0.n ∧ h' = h0.new (.lst (os.map val)) ∧ Ext h h0 := by
  have hL : (os.map enc).length ≤ LIM := by rw [List.length_map]; exact Nat.le_trans hl (by decide)
  have body : ∀ c0 : Cf, WpS (evSs c0 (.cons (.ret (.lc (.tup (.cons (.ix (.var 1) (.cst (.int 0))) (.cons (.ite (.cmp .eq (.ix (.var 1) (.cst (.int 0))) (.cst (.str [112]))) (.sl (.var 1) (.som (.cst (.int 1))) .non) (.bfn .int (.cons (.sl (.var 1) (.som (.cst (.int 1))) .non) .nil))) .nil))) (.nm 1) (.ex (.var 0)) .nil [1])) .nil) [some (.tup (os.map enc)), none] h) (fnl fun w h' => ∃ h0, w = .obj h0.n ∧ h' = h0.new (.lst (os.map val)) ∧ Ext h h0) := fun c0 => by
    rw [wpS_cons]
    simp [w_tup hL]
    -- each word's pair
    let g : W → Option W := fun x => match x with
      | .str (112 :: t) => some (.tup [.str [112], .str t])
      | .str (y :: r) => match num? r 0 with
        | some n => some (.tup [.str [y], .int n])
        | none => none
      | _ => none
    have hgv : ∀ o : Op, o.num → g (enc o) = some (val o) := fun o ho => by
      have num : ∀ (y n : Nat), (y = 107 ∨ y = 100) → 0 < n → n < 1000 → g (.str (y :: digs n)) = some (.tup [.str [y], .int n]) := fun y n hy h0 h1 => by
        obtain ⟨x, r, e, x48, hl, hn, hd⟩ := digs_ok h1 h0
        rw [e]
        rcases hy with rfl | rfl <;> simp only [g, hn]
      cases o with
      | k n => exact num 107 n (.inl rfl) ho.1 ho.2
      | d n => exact num 100 n (.inr rfl) ho.1 ho.2
      | p t => rfl
    refine wp_lcG (g := g) _ _ (fun x' hx h' X => ?_) fun h' X => ?_
    · obtain ⟨o, hm, rfl⟩ := List.mem_map.mp hx
      rw [hgv o (ho o hm)]
      exact pair_one (ho o hm) (by simp)
    · have e : (os.map enc).filterMap g = os.map val := by
        rw [List.filterMap_map]
        have : ∀ l : List Op, (∀ o ∈ l, o.num) → l.filterMap (g ∘ enc) = l.map val := fun l => by
          induction l with
          | nil => intro _; rfl
          | cons o l ih =>
            intro hl
            rw [List.filterMap_cons_some (show (g ∘ enc) o = some (val o) from hgv o (hl o List.mem_cons_self)), ih fun o ho => hl o (List.mem_cons_of_mem _ ho)]
            rfl
        exact this os ho
      rw [e]
      exact ⟨h', rfl, rfl, X⟩
  rcases hg with rfl | rfl
  · rw [run_s src (d := d6) rfl rfl, show d6.body = _ from t6, wp_fin]
    exact body _
  · rw [run_s src (d := d28) rfl rfl, show d28.body = _ from t28, wp_fin]
    exact body _
end K74
end
section
set_option maxRecDepth 100000
set_option linter.unusedVariables false
set_option linter.unusedSimpArgs false
namespace K74
open TX
def takenO : Op → Nat | .k n => n | .d n => n | .p _ => 0
def leftO : Op → Nat | .k n => n | .d _ => 0 | .p t => t.length
def costO : Op → Nat | .k _ => 0 | .d n => n | .p t => t.length
def sumO (f : Op → Nat) (os : List Op) : Nat := (os.map f).sum
theorem sum_map {f : Op → Nat} {p : Op → Bool} (h : ∀ o, p o = false → f o = 0) : ∀ os : List Op, ((os.filter p).map fun o => (f o : Int)).sum = (sumO f os : Int)
  | [] => rfl
  | o :: os => by
    have ih := sum_map h os
    have e : sumO f (o :: os) = f o + sumO f os := by simp [sumO]
    rw [e]
    cases q : p o with
    | true => rw [List.filter_cons_of_pos q, List.map_cons, List.sum_cons, ih]; omega
    | false => rw [List.filter_cons_of_neg (by simp [q]), ih, h o q]; omega
theorem filterMap_val {f : Op → Nat} {p : Op → Bool} {g : W → Option W} (hg : ∀ o, g (val o) = if p o then some (.int (f o)) else none) : ∀ os : List Op, (os.map val).filterMap g = ((os.filter p).map fun o => (f o : Int)).map .int
  | [] => rfl
  | o :: os => by
    rw [List.map_cons]
    have e := hg o
    cases q : p o with
    | true =>
      rw [q] at e
      rw [List.filterMap_cons_some e, List.filter_cons_of_pos q, filterMap_val hg os]
      rfl
    | false =>
      rw [q] at e
      rw [List.filterMap_cons_none e, List.filter_cons_of_neg (by simp [q]), filterMap_val hg os]
/-- a sum over the pairs: the comprehension -/
theorem sum_lc {c0 : Cf} {h h0 : Hp} {τ : Sl} {os : List Op} {e d : E} {i j : Nat} {f : Op → Nat} {p : Op → Bool} {Q : W → Hp → Prop} (hp : ∀ o, p o = false → f o = 0) (X : Ext h h0)
    (hs : ∀ o ∈ os, ∀ h', Wp (lcB c0 e (.tp (.cons (.nm i) (.cons (.nm j) .nil))) (.one d) [i, j] τ (val o) h') fun y h'' => y = (if p o then some (.int (f o)) else none) ∧ Ext h' h'')
    (hq : ∀ h', Ext h h' → Q (.int (sumO f os)) h') : Wp (lcQ (.live h0.n) (lcB c0 e (.tp (.cons (.nm i) (.cons (.nm j) .nil))) (.one d) [i, j] τ) (h0.new (.lst (os.map val)))) fun ys h => Wp (lf (bfn .sum [.obj h.n] (h.new (.lst ys)))) Q := by
  let g : W → Option W := fun x => match x with
    | .tup [.str [y], v] => match v with
      | .int n => let o : Op := if y = 107 then .k n.toNat else .d n.toNat
        if p o then some (.int (f o)) else none
      | .str t => if p (.p t) then some (.int (f (.p t))) else none
      | _ => none
    | _ => none
  have hg : ∀ o, g (val o) = if p o then some (.int (f o)) else none := fun o => by
    cases o <;> simp [g, val]
  refine wp_lcGL (g := g) (os.map val) _ get_new_self (by rw [Hp.n_new]; omega) (fun x hx h' X' => ?_) fun h' X' => ?_
  · obtain ⟨o, hm, rfl⟩ := List.mem_map.mp hx
    rw [hg]
    exact hs o hm h'
  · have e1 := filterMap_val hg os
    rw [e1, f_sumL get_new_self, sum_map hp]
    simp
    exact hq _ ((X.trans (.new _)).trans (X'.trans (.new _)))
theorem sl12 {τ : Sl} {x y : W} {i j : Nat} (hij : i ≠ j) (hi : i < τ.length) (hj : j < τ.length) : (((wipe τ [i, j]).set i (some x)).set j (some y))[i]? = some (some x) ∧ (((wipe τ [i, j]).set i (some x)).set j (some y))[j]? = some (some y) := by
  constructor
  · rw [List.getElem?_set_ne (Ne.symm hij), List.getElem?_set_self (by simp [wipe]; exact hi)]
  · rw [List.getElem?_set_self (by simp [wipe]; exact hj)]
theorem seq_tup {h : Hp} {xs : List W} : seq? h (.tup xs) = some xs := rfl
theorem taken_ok {F k : Nat} {h : Hp} {os : List Op} (ho : ∀ o ∈ os, o.num) (hl : os.length ≤ 1000) : Pu (run src.pg F (k + 3) 9 [.tup (os.map enc)] h) (.int (sumO takenO os)) h := by
  unfold Pu
  rw [run_s src (d := d9) rfl rfl, show d9.body = _ from t9, wp_fin]
  show WpS (evSs _ _ [some (.tup (os.map enc)), none, none] h) _
  have hL : (os.map val).length ≤ LIM := by rw [List.length_map]; exact Nat.le_trans hl (by decide)
  rw [wpS_cons]
  simp
  refine (pairs_ok (.inl rfl) ho hl).imp fun w h' ⟨h0, e1, e2, X⟩ => ?_
  subst e1 e2
  simp [w_lst get_new_self hL]
  refine sum_lc (f := takenO) (p := fun o => match o with | .p _ => false | _ => true) (fun o e => by cases o <;> simp at e; rfl) X (fun o hm h' => ?_) fun h' X => ?_
  · rw [wp_lcB1]
    cases o <;> simp [val, seq_tup, wipe, takenO] <;> exact .refl
  · simp
    exact X
theorem left_ok {F k : Nat} {h : Hp} {os : List Op} (ho : ∀ o ∈ os, o.num) (hl : os.length ≤ 1000) : Pu (run src.pg F (k + 3) 10 [.tup (os.map enc)] h) (.int (sumO leftO os)) h := by
  unfold Pu
  rw [run_s src (d := d10) rfl rfl, show d10.body = _ from t10, wp_fin]
  show WpS (evSs _ _ [some (.tup (os.map enc)), none, none] h) _
  have hL : (os.map val).length ≤ LIM := by rw [List.length_map]; exact Nat.le_trans hl (by decide)
  rw [wpS_cons]
  simp
  refine (pairs_ok (.inl rfl) ho hl).imp fun w h' ⟨h0, e1, e2, X⟩ => ?_
  subst e1 e2
  simp [w_lst get_new_self hL]
  refine sum_lc (f := leftO) (p := fun o => match o with | .d _ => false | _ => true) (fun o e => by cases o <;> simp at e; rfl) X (fun o hm h' => ?_) fun h' X => ?_
  · rw [wp_lcB1]
    cases o with
    | p t =>
      have : t.length ≤ LIM := Nat.le_trans (Nat.le_of_lt (show t.length < 1000 from ho _ hm)) (by decide)
      simp [val, seq_tup, wipe, leftO, f_lenS this]
      exact .refl
    | _ => simp [val, seq_tup, wipe, leftO]; exact .refl
  · simp
    exact X
theorem sizes_ok {F k : Nat} {h : Hp} {s : List Nat} {os : List Op} (hs : Signs s) (ho : ∀ o ∈ os, o.ok s) (hl : os.length ≤ 1000) : Pu (run src.pg F (k + 6) 11 [.str s, .tup (os.map enc)] h) (.tup [.int (sumO takenO os), .int (sumO leftO os)]) h := by
  unfold Pu
  rw [run_s src (d := d11) rfl rfl, show d11.body = _ from t11, wp_fin]
  show WpS (evSs _ _ [some (.str s), some (.tup (os.map enc))] h) _
  rw [wpS_cons]
  simp
  refine (need_edit_ok hs ho hl).imp fun x h1 ⟨e, X1⟩ => ?_
  rw [wpS_cons]
  simp
  refine (taken_ok (k := k + 2) (fun o m => (ho o m).num) hl).imp fun w h2 ⟨e2, X2⟩ => ?_
  subst e2
  refine (left_ok (k := k + 2) (fun o m => (ho o m).num) hl).imp fun w h3 ⟨e3, X3⟩ => ?_
  subst e3
  simp [LIM]
  exact X1.trans (X2.trans X3)
theorem need_taken_ok {F k : Nat} {h : Hp} {os : List Op} {m : Int} (ho : ∀ o ∈ os, o.num) (hl : os.length ≤ 1000) (hm : (sumO takenO os : Int) = m) : Pu (run src.pg F (k + 4) 16 [.tup (os.map enc), .int m] h) .non h := by
  unfold Pu
  rw [run_s src (d := d16) rfl rfl, show d16.body = _ from t16, wp_fin]
  show WpS (evSs _ _ [some (.tup (os.map enc)), some (.int m)] h) _
  rw [wpS_cons]
  simp
  refine (taken_ok ho hl).imp fun w h2 ⟨e2, X2⟩ => ?_
  subst e2
  simp [hm]
  exact X2
end K74
end
section
set_option maxRecDepth 100000
set_option linter.unusedVariables false
set_option linter.unusedSimpArgs false
namespace K74
open TX
/-- a plain edit as it grows -/
structure PS where
  told : List Op
  kept : Nat
  dropped : Nat
  fresh : List Nat
def PS.init : PS := ⟨[], 0, 0, []⟩
def pend3 (kept dropped : Nat) (fresh : List Nat) : List Op := (if kept = 0 then [] else [.k kept]) ++ (if dropped = 0 then [] else [.d dropped]) ++ (if fresh = [] then [] else [.p fresh])
def PS.pend (s : PS) : List Op := pend3 s.kept s.dropped s.fresh
def PS.close (s : PS) : PS := ⟨s.told ++ s.pend, 0, 0, []⟩
def PS.open (s : PS) : Prop := s.dropped ≠ 0 ∨ s.fresh ≠ []
instance (s : PS) : Decidable s.open := by unfold PS.open; exact inferInstance
def PS.keep (s : PS) (n : Nat) : PS := if s.open then ⟨s.told ++ s.pend, n, 0, []⟩ else ⟨s.told, s.kept + n, s.dropped, s.fresh⟩
def PS.drop (s : PS) (n : Nat) : PS := ⟨s.told, s.kept, s.dropped + n, s.fresh⟩
def PS.put (s : PS) (t : List Nat) : PS := ⟨s.told, s.kept, s.dropped, s.fresh ++ t⟩
def PS.step (s : PS) : Op → PS
  | .k n => s.keep n
  | .d n => s.drop n
  | .p t => s.put t
def PS.run (s : PS) (os : List Op) : PS := os.foldl PS.step s
def fields (l : Nat) (s : PS) : List (Nat × W) := [(8, .obj l), (9, .int s.kept), (10, .int s.dropped), (11, .str s.fresh)]
/-- it stands at o, its words at l -/
structure PAt (o l : Nat) (s : PS) (h : Hp) : Prop where
  ob : h.get o = some (.ins 0 (fields l s))
  ls : h.get l = some (.lst (s.told.map enc))
  lo : o < h.n
  ll : l < h.n
  ne : o ≠ l
/-- small enough -/
structure PS.sm (s : PS) : Prop where
  t : s.told.length < 5000
  k : s.kept < 1000
  d : s.dropped < 1000
  f : s.fresh.length < 1000
structure ExtQ (o l : Nat) (h h' : Hp) : Prop where
  le : h.n ≤ h'.n
  get : ∀ i, i < h.n → i ≠ o → i ≠ l → h'.get i = h.get i
theorem ExtQ.refl {o l : Nat} {h : Hp} : ExtQ o l h h := ⟨Nat.le_refl _, fun _ _ _ _ => rfl⟩
theorem ExtQ.trans {o l : Nat} {h h' h'' : Hp} (a : ExtQ o l h h') (b : ExtQ o l h' h'') : ExtQ o l h h'' := ⟨Nat.le_trans a.le b.le, fun i hi h1 h2 => (b.get i (Nat.lt_of_lt_of_le hi a.le) h1 h2).trans (a.get i hi h1 h2)⟩
theorem ExtQ.of {o l : Nat} {h h' : Hp} (a : Ext h h') : ExtQ o l h h' := ⟨a.le, fun i hi _ _ => a.get i hi⟩
theorem ExtQ.ext {o l : Nat} {h0 h h' : Hp} (a : ExtQ o l h h') (ho : h0.n ≤ o) (hl : h0.n ≤ l) (x : Ext h0 h) : Ext h0 h' := ⟨Nat.le_trans x.le a.le, fun i hi => (a.get i (Nat.lt_of_lt_of_le hi x.le) (by omega) (by omega)).trans (x.get i hi)⟩
theorem PAt.setO {o l : Nat} {s s' : PS} {h : Hp} (P : PAt o l s h) (e : s'.told = s.told) : PAt o l s' (h.set o (.ins 0 (fields l s'))) ∧ ExtQ o l h (h.set o (.ins 0 (fields l s'))) := by
  refine ⟨⟨by rw [Hp.get_set, if_pos rfl], by rw [Hp.get_set, if_neg (Ne.symm P.ne), e]; exact P.ls, P.lo, P.ll, P.ne⟩, ⟨Nat.le_refl _, fun i _ h1 _ => by rw [Hp.get_set, if_neg h1]⟩⟩
theorem PAt.setL {o l : Nat} {s : PS} {h : Hp} {t : List Op} (P : PAt o l s h) : PAt o l { s with told := t } (h.set l (.lst (t.map enc))) ∧ ExtQ o l h (h.set l (.lst (t.map enc))) := by
  refine ⟨⟨by rw [Hp.get_set, if_neg P.ne]; exact P.ob, by rw [Hp.get_set, if_pos rfl], P.lo, P.ll, P.ne⟩, ⟨Nat.le_refl _, fun i _ _ h2 => by rw [Hp.get_set, if_neg h2]⟩⟩
section
variable {o l : Nat} {s : PS} {h : Hp} (P : PAt o l s h)
include P
theorem a_words : getat (.obj o) 8 h = some (.obj l, h) := by simp only [getat, P.ob]; rfl
theorem a_kept : getat (.obj o) 9 h = some (.int s.kept, h) := by simp only [getat, P.ob]; rfl
theorem a_dropped : getat (.obj o) 10 h = some (.int s.dropped, h) := by simp only [getat, P.ob]; rfl
theorem a_fresh : getat (.obj o) 11 h = some (.str s.fresh, h) := by simp only [getat, P.ob]; rfl
theorem w_kept {n : Nat} : setat src.pg.na (.obj o) 9 (.int n) h = some (h.set o (.ins 0 (fields l { s with kept := n }))) := by simp only [setat, P.ob]; rfl
theorem w_dropped {n : Nat} : setat src.pg.na (.obj o) 10 (.int n) h = some (h.set o (.ins 0 (fields l { s with dropped := n }))) := by simp only [setat, P.ob]; rfl
theorem w_fresh {t : List Nat} : setat src.pg.na (.obj o) 11 (.str t) h = some (h.set o (.ins 0 (fields l { s with fresh := t }))) := by simp only [setat, P.ob]; rfl
theorem m_close : mkind src.pg h 12 (.obj o) = .usr 39 := by simp only [mkind, P.ob]; rfl
theorem m_keep : mkind src.pg h 5 (.obj o) = .usr 40 := by simp only [mkind, P.ob]; rfl
theorem m_drop : mkind src.pg h 6 (.obj o) = .usr 41 := by simp only [mkind, P.ob]; rfl
theorem m_put : mkind src.pg h 7 (.obj o) = .usr 42 := by simp only [mkind, P.ob]; rfl
theorem m_told : mkind src.pg h 4 (.obj o) = .usr 43 := by simp only [mkind, P.ob]; rfl
theorem m_app : mkind src.pg h 0 (.obj l) = .bt .lst := by simp only [mkind, P.ls]
theorem b_app {p : Op} {w : W} (hw : enc p = w) (hl : s.told.length < 6000) : ∃ h2, bmeth .lst (.obj l) 0 [w] h = some (.non, h2) ∧ PAt o l { s with told := s.told ++ [p] } h2 ∧ ExtQ o l h h2 := by
  subst hw
  refine ⟨h.set l (.lst ((s.told ++ [p]).map enc)), ?_, P.setL.1, P.setL.2⟩
  simp only [bmeth, P.ls]
  rw [if_pos (by rw [List.length_map]; exact Nat.lt_of_lt_of_le hl (by decide))]
  simp
theorem x_kept {n : Nat} {i : Int} (e : i = (n : Int)) : ∃ h2, setat src.pg.na (.obj o) 9 (.int i) h = some h2 ∧ PAt o l { s with kept := n } h2 ∧ ExtQ o l h h2 := by
  subst e; exact ⟨_, w_kept P, (P.setO (s' := { s with kept := n }) rfl).1, (P.setO (s' := { s with kept := n }) rfl).2⟩
theorem x_dropped {n : Nat} {i : Int} (e : i = (n : Int)) : ∃ h2, setat src.pg.na (.obj o) 10 (.int i) h = some h2 ∧ PAt o l { s with dropped := n } h2 ∧ ExtQ o l h h2 := by
  subst e; exact ⟨_, w_dropped P, (P.setO (s' := { s with dropped := n }) rfl).1, (P.setO (s' := { s with dropped := n }) rfl).2⟩
theorem x_fresh {t : List Nat} : ∃ h2, setat src.pg.na (.obj o) 11 (.str t) h = some h2 ∧ PAt o l { s with fresh := t } h2 ∧ ExtQ o l h h2 :=
  ⟨_, w_fresh P, (P.setO (s' := { s with fresh := t }) rfl).1, (P.setO (s' := { s with fresh := t }) rfl).2⟩
theorem cls_o : clsN (.obj o) h = 1 := by simp only [clsN, P.ob]
end
theorem f_str {h : Hp} {n : Nat} (hn : n < 100000) : bfn .str [.int (n : Int)] h = some (.str (digs n), h) := by
  show (match (Int.ofNat n) with | .ofNat n => if n < 10 ^ 30 then some (W.str (digs n), h) else none | _ => none) = _
  simp only
  rw [if_pos (Nat.lt_trans hn (by decide))]
theorem digs_len {n : Nat} (hn : n < 1000) : (digs n).length ≤ 3 := by
  have q := digs_all n hn
  unfold digOk at q
  simp only [Bool.and_eq_true, decide_eq_true_eq] at q
  exact q.1.1.1.1
theorem close_ok {F k : Nat} {o l : Nat} {s : PS} {h : Hp} (P : PAt o l s h) (hs : s.sm) : Wp (run src.pg F (k + 2) 39 [.obj o] h) fun w h' => w = .non ∧ PAt o l s.close h' ∧ ExtQ o l h h' := by
  rw [run_s src (d := d39) rfl rfl, show d39.body = _ from t39, wp_fin]
  show WpS (evSs _ _ [some (.obj o)] h) _
  -- the first two tests
  have add : ∀ (x n : Nat), n < 1000 → binop .add (.str [x]) (.str (digs n)) = fun h => some (.str (x :: digs n), h) := fun x n hn => by
    funext h
    exact b_addS (Nat.le_trans (show [x].length + (digs n).length ≤ 4 by have := digs_len hn; simp; omega) (by decide))
  have A : ∀ (s1 : PS) (h1 : Hp), PAt o l s1 h1 → ExtQ o l h h1 → s1.kept = s.kept → s1.dropped = s.dropped → s1.fresh = s.fresh → s1.told = s.told ++ ((if s.kept = 0 then [] else [.k s.kept]) ++ (if s.dropped = 0 then [] else [.d s.dropped]) ++ (if s.fresh = [] then [] else [.p s.fresh])) →
      WpS (evSs ⟨src.pg, F, run src.pg F (k + 1), run src.pg F k, lamOf src.pg F k⟩ (.cons (.asg (.tp (.cons (.at (.var 0) 9) (.cons (.at (.var 0) 10) (.cons (.at (.var 0) 11) .nil)))) (.tup (.cons (.cst (.int 0)) (.cons (.cst (.int 0)) (.cons (.cst (.str [])) .nil))))) .nil) [some (.obj o)] h1) (fnl fun w h' => w = .non ∧ PAt o l s.close h' ∧ ExtQ o l h h') := fun s1 h1 P1 X1 e1 e2 e3 e4 => by
    rw [wpS_cons]
    obtain ⟨h2, q2, P2, X2⟩ := x_kept P1 (n := 0) (i := 0) rfl
    obtain ⟨h3, q3, P3, X3⟩ := x_dropped P2 (n := 0) (i := 0) rfl
    obtain ⟨h4, q4, P4, X4⟩ := x_fresh P3 (t := [])
    simp [LIM, seq_tup, q2, q3, q4]
    refine ⟨?_, X1.trans (X2.trans (X3.trans X4))⟩
    have : s.close = { s1 with kept := 0, dropped := 0, fresh := [] } := by
      unfold PS.close PS.pend pend3
      rw [← e4]
    rw [this]
    exact P4
  have B : ∀ (s1 : PS) (h1 : Hp), PAt o l s1 h1 → ExtQ o l h h1 → s1.kept = s.kept → s1.dropped = s.dropped → s1.fresh = s.fresh → s1.told = s.told ++ ((if s.kept = 0 then [] else [.k s.kept]) ++ (if s.dropped = 0 then [] else [.d s.dropped])) →
      WpS (evSs ⟨src.pg, F, run src.pg F (k + 1), run src.pg F k, lamOf src.pg F k⟩ (.cons (.iff (.att (.var 0) 11) (.cons (.exp (.mth (.att (.var 0) 8) 0 (.cons (.bin .add (.cst (.str [112])) (.att (.var 0) 11)) .nil))) .nil) .nil) (.cons (.asg (.tp (.cons (.at (.var 0) 9) (.cons (.at (.var 0) 10) (.cons (.at (.var 0) 11) .nil)))) (.tup (.cons (.cst (.int 0)) (.cons (.cst (.int 0)) (.cons (.cst (.str [])) .nil))))) .nil)) [some (.obj o)] h1) (fnl fun w h' => w = .non ∧ PAt o l s.close h' ∧ ExtQ o l h h') := fun s1 h1 P1 X1 e1 e2 e3 e4 => by
    rw [wpS_cons]
    have hf : s1.fresh.length ≤ LIM := by rw [e3]; exact Nat.le_trans (Nat.le_of_lt hs.f) (by decide)
    have tr : tru h1 (.str s1.fresh) = some (!s1.fresh.isEmpty) := by simp only [tru, if_pos hf]
    simp [a_fresh P1, tr]
    cases ef : s.fresh with
    | nil =>
      rw [e3, ef]
      simp
      refine A s1 h1 P1 X1 e1 e2 e3 ?_
      rw [e4, ef]; simp
    | cons x r =>
      rw [e3, ef]
      simp
      rw [wpS_cons]
      have ad : binop .add (.str [112]) (.str s1.fresh) h1 = some (.str (112 :: s1.fresh), h1) := b_addS (Nat.le_trans (show [112].length + s1.fresh.length ≤ 1001 by rw [e3]; have := hs.f; simp; omega) (by decide))
      have hl1 : s1.told.length < 6000 := by
        rw [e4]
        have := hs.t
        simp only [List.length_append]
        split <;> split <;> simp <;> omega
      obtain ⟨h2, q2, P2, X2⟩ := b_app P1 (p := .p s1.fresh) (w := .str (112 :: s1.fresh)) rfl hl1
      simp [a_words P1, m_app P1, a_fresh P1, ad, q2]
      refine A _ h2 P2 (X1.trans X2) e1 e2 e3 ?_
      show s1.told ++ [.p s1.fresh] = _
      rw [e4, e3, ef]
      simp
  have C : ∀ (s1 : PS) (h1 : Hp), PAt o l s1 h1 → ExtQ o l h h1 → s1.kept = s.kept → s1.dropped = s.dropped → s1.fresh = s.fresh → s1.told = s.told ++ (if s.kept = 0 then [] else [.k s.kept]) →
      WpS (evSs ⟨src.pg, F, run src.pg F (k + 1), run src.pg F k, lamOf src.pg F k⟩ (.cons (.iff (.att (.var 0) 10) (.cons (.exp (.mth (.att (.var 0) 8) 0 (.cons (.bin .add (.cst (.str [100])) (.bfn .str (.cons (.att (.var 0) 10) .nil))) .nil))) .nil) .nil) (.cons (.iff (.att (.var 0) 11) (.cons (.exp (.mth (.att (.var 0) 8) 0 (.cons (.bin .add (.cst (.str [112])) (.att (.var 0) 11)) .nil))) .nil) .nil) (.cons (.asg (.tp (.cons (.at (.var 0) 9) (.cons (.at (.var 0) 10) (.cons (.at (.var 0) 11) .nil)))) (.tup (.cons (.cst (.int 0)) (.cons (.cst (.int 0)) (.cons (.cst (.str [])) .nil))))) .nil))) [some (.obj o)] h1) (fnl fun w h' => w = .non ∧ PAt o l s.close h' ∧ ExtQ o l h h') := fun s1 h1 P1 X1 e1 e2 e3 e4 => by
    rw [wpS_cons]
    simp [a_dropped P1]
    refine br_n (fun hd => ?_) (fun hd => ?_)
    · rw [wpS_cons]
      have hl1 : s1.told.length < 6000 := by
        rw [e4]
        have := hs.t
        simp only [List.length_append]
        split <;> simp <;> omega
      have hd1 : s1.dropped < 1000 := by rw [e2]; exact hs.d
      obtain ⟨h2, q2, P2, X2⟩ := b_app P1 (p := .d s1.dropped) (w := .str (100 :: digs s1.dropped)) rfl hl1
      simp [a_words P1, m_app P1, a_dropped P1, f_str (Nat.lt_trans hd1 (by decide)), add 100 _ hd1, q2]
      refine B _ h2 P2 (X1.trans X2) e1 e2 e3 ?_
      show s1.told ++ [.d s1.dropped] = _
      have hd' : ¬ s.dropped = 0 := e2 ▸ hd
      rw [e4, e2, if_neg hd', List.append_assoc]
    · refine B s1 h1 P1 X1 e1 e2 e3 ?_
      have hd' : s.dropped = 0 := e2 ▸ hd
      rw [e4, if_pos hd', List.append_nil]
  rw [wpS_cons]
  simp [a_kept P]
  refine br_n (fun hd => ?_) (fun hd => ?_)
  · rw [wpS_cons]
    obtain ⟨h2, q2, P2, X2⟩ := b_app P (p := .k s.kept) (w := .str (107 :: digs s.kept)) rfl (Nat.lt_trans hs.t (by decide))
    simp [a_words P, m_app P, a_kept P, f_str (Nat.lt_trans hs.k (by decide)), add 107 _ hs.k, q2]
    refine C _ h2 P2 X2 rfl rfl rfl ?_
    rw [if_neg hd]
  · refine C s h P .refl rfl rfl rfl ?_
    rw [if_pos hd, List.append_nil]
end K74
end
section
set_option maxRecDepth 100000
set_option linter.unusedVariables false
set_option linter.unusedSimpArgs false
namespace K74
open TX
theorem i_addI {h : Hp} {i j : Int} : iop .add (.int i) (.int j) h = some (.int (i + j), h) := rfl
theorem i_addS {h : Hp} {x y : List Nat} (e : x.length + y.length ≤ LIM) : iop .add (.str x) (.str y) h = some (.str (x ++ y), h) := by simp only [iop, if_pos e]
theorem drop_ok {F k : Nat} {o l : Nat} {s : PS} {h : Hp} {n : Nat} (P : PAt o l s h) : Wp (run src.pg F (k + 2) 41 [.obj o, .int n] h) fun w h' => w = .non ∧ PAt o l (s.drop n) h' ∧ ExtQ o l h h' := by
  rw [run_s src (d := d41) rfl rfl, show d41.body = _ from t41, wp_fin]
  show WpS (evSs _ _ [some (.obj o), some (.int n)] h) _
  rw [wpS_cons]
  obtain ⟨h2, q2, P2, X2⟩ := x_dropped P (n := s.dropped + n) (i := (s.dropped : Int) + n) (by omega)
  simp [a_dropped P, i_addI, q2]
  exact ⟨P2, X2⟩
theorem put_ok {F k : Nat} {o l : Nat} {s : PS} {h : Hp} {t : List Nat} (P : PAt o l s h) (hs : s.sm) (ht : t.length ≤ 1000) : Wp (run src.pg F (k + 2) 42 [.obj o, .str t] h) fun w h' => w = .non ∧ PAt o l (s.put t) h' ∧ ExtQ o l h h' := by
  rw [run_s src (d := d42) rfl rfl, show d42.body = _ from t42, wp_fin]
  show WpS (evSs _ _ [some (.obj o), some (.str t)] h) _
  rw [wpS_cons]
  obtain ⟨h2, q2, P2, X2⟩ := x_fresh P (t := s.fresh ++ t)
  have e : s.fresh.length + t.length ≤ LIM := Nat.le_trans (show _ ≤ 2000 by have := hs.f; omega) (by decide)
  simp [a_fresh P, i_addS e, q2]
  exact ⟨P2, X2⟩
theorem keep_ok {F k : Nat} {o l : Nat} {s : PS} {h : Hp} {n : Nat} (P : PAt o l s h) (hs : s.sm) : Wp (run src.pg F (k + 3) 40 [.obj o, .int n] h) fun w h' => w = .non ∧ PAt o l (s.keep n) h' ∧ ExtQ o l h h' := by
  rw [run_s src (d := d40) rfl rfl, show d40.body = _ from t40, wp_fin]
  show WpS (evSs _ _ [some (.obj o), some (.int n)] h) _
  have fin : ∀ (s1 : PS) (h1 : Hp), PAt o l s1 h1 → ExtQ o l h h1 → { s1 with kept := s1.kept + n } = s.keep n → WpS (evSs ⟨src.pg, F, run src.pg F (k + 2), run src.pg F (k + 1), lamOf src.pg F (k + 1)⟩ (.cons (.agf (.var 0) 9 .add (.var 1)) .nil) [some (.obj o), some (.int n)] h1) (fnl fun w h' => w = .non ∧ PAt o l (s.keep n) h' ∧ ExtQ o l h h') := fun s1 h1 P1 X1 e => by
    rw [wpS_cons]
    obtain ⟨h2, q2, P2, X2⟩ := x_kept P1 (n := s1.kept + n) (i := (s1.kept : Int) + n) (by omega)
    simp [a_kept P1, i_addI, q2]
    rw [e] at P2
    exact ⟨P2, X1.trans X2⟩
  have hf : s.fresh.length ≤ LIM := Nat.le_trans (Nat.le_of_lt hs.f) (by decide)
  have tr : tru h (.str s.fresh) = some (!s.fresh.isEmpty) := by simp only [tru, if_pos hf]
  have op : s.open → WpS (evSs ⟨src.pg, F, run src.pg F (k + 2), run src.pg F (k + 1), lamOf src.pg F (k + 1)⟩ (.cons (.exp (.mth (.var 0) 12 .nil)) .nil) [some (.obj o), some (.int n)] h) (nxt (fun τ h9 => WpS (evSs ⟨src.pg, F, run src.pg F (k + 2), run src.pg F (k + 1), lamOf src.pg F (k + 1)⟩ (.cons (.agf (.var 0) 9 .add (.var 1)) .nil) τ h9) (fnl fun w h' => w = .non ∧ PAt o l (s.keep n) h' ∧ ExtQ o l h h')) (fnl fun w h' => w = .non ∧ PAt o l (s.keep n) h' ∧ ExtQ o l h h')) := fun hop => by
    rw [wpS_cons]
    simp [m_close P]
    refine (close_ok P hs).imp fun w h1 ⟨e, P1, X1⟩ => ?_
    refine fin _ h1 P1 X1 ?_
    unfold PS.keep
    rw [if_pos hop]
    simp [PS.close]
  rw [wpS_cons]
  simp [a_dropped P, a_fresh P]
  refine br_n (fun hd => ?_) (fun hd => ?_)
  · rw [decide_eq_false hd]
    simp
    exact op (.inl hd)
  · simp [tr]
    cases ef : s.fresh with
    | nil =>
      simp
      refine fin s h P .refl ?_
      unfold PS.keep
      rw [if_neg (by unfold PS.open; rw [ef]; simp [hd])]
    | cons x r =>
      simp
      exact op (.inr (by rw [ef]; simp))
theorem told_ok {F k : Nat} {o l : Nat} {s : PS} {h : Hp} (P : PAt o l s h) (hs : s.sm) : Wp (run src.pg F (k + 3) 43 [.obj o] h) fun w h' => w = .tup ((s.told ++ s.pend).map enc) ∧ ExtQ o l h h' := by
  rw [run_s src (d := d43) rfl rfl, show d43.body = _ from t43, wp_fin]
  show WpS (evSs _ _ [some (.obj o)] h) _
  rw [wpS_cons]
  simp [m_close P]
  refine (close_ok P hs).imp fun w h1 ⟨e, P1, X1⟩ => ?_
  rw [wpS_cons]
  have tp : bfn .tuple [.obj l] h1 = some (.tup (s.close.told.map enc), h1) := by simp only [bfn, seq?, Hp.lst_of P1.ls]
  simp [a_words P1, tp, PS.close]
  exact X1
theorem init_ok {F k : Nat} {o : Nat} {h : Hp} (e : h.get o = some (.ins 0 [])) (lo : o < h.n) : Wp (run src.pg F (k + 2) 38 [.obj o] h) fun w h' => w = .non ∧ PAt o h.n .init h' ∧ (∀ i, i < h.n → i ≠ o → h'.get i = h.get i) ∧ h.n ≤ h'.n := by
  rw [run_s src (d := d38) rfl rfl, show d38.body = _ from t38, wp_fin]
  show WpS (evSs _ _ [some (.obj o)] h) _
  have e1 : (h.new (.lst [])).get o = some (.ins 0 []) := by rw [Hp.get_new, if_neg (by omega)]; exact e
  have st : ∀ (g : Hp) (fs : List (Nat × W)) (f : Nat) (v : W), g.get o = some (.ins 0 fs) → fs.length < 100 → src.pg.na 0 f = true → setat src.pg.na (.obj o) f v g = some (g.set o (.ins 0 (putF f v fs))) := fun g fs f v e1 e2 e3 => by
    simp only [setat, e1]
    rw [if_pos ⟨e2, e3⟩]
  have gs : ∀ (g : Hp) (x : Ob), (g.set o x).get o = some x := fun g x => by rw [Hp.get_set, if_pos rfl]
  have q1 := st _ [] 8 (.obj h.n) e1 (by decide) (by decide)
  have q2 := st _ (putF 8 (.obj h.n) []) 9 (.int 0) (gs (h.new (.lst [])) _) (show 1 < 100 by decide) (by decide)
  have q3 := st _ (putF 9 (.int 0) (putF 8 (.obj h.n) [])) 10 (.int 0) (gs ((h.new (.lst [])).set o (.ins 0 (putF 8 (.obj h.n) []))) _) (show 2 < 100 by decide) (by decide)
  have q4 := st _ (putF 10 (.int 0) (putF 9 (.int 0) (putF 8 (.obj h.n) []))) 11 (.str []) (gs (((h.new (.lst [])).set o (.ins 0 (putF 8 (.obj h.n) []))).set o (.ins 0 (putF 9 (.int 0) (putF 8 (.obj h.n) [])))) _) (show 3 < 100 by decide) (by decide)
  rw [wpS_cons]
  simp [LIM, q1]
  rw [wpS_cons]
  simp [q2]
  rw [wpS_cons]
  simp [q3]
  rw [wpS_cons]
  simp [q4]
  refine ⟨⟨by rw [gs]; rfl, ?_, ?_, ?_, by omega⟩, fun i hi hne => ?_, ?_⟩
  · simp only [Hp.get_set, Hp.get_new]
    have ne : ¬ h.n = o := by omega
    simp only [if_neg ne, if_true]
    rfl
  · simp only [Hp.n_set, Hp.n_new]; omega
  · simp only [Hp.n_set, Hp.n_new]; omega
  · simp only [Hp.get_set, Hp.get_new, if_neg hne]
    rw [if_neg (by omega)]
  · simp only [Hp.n_set, Hp.n_new]; omega
theorem ini0 : src.pg.ini 0 = some 38 := by decide
/-- Plain() -/
theorem new_ok {F k : Nat} {τ : Sl} {h : Hp} {Q : W → Hp → Prop} (hq : ∀ h' o l, PAt o l .init h' → Ext h h' → h.n ≤ o → h.n ≤ l → Q (.obj o) h') : Wp (evE ⟨src.pg, F, run src.pg F (k + 3), run src.pg F (k + 2), lamOf src.pg F (k + 2)⟩ (.new 0 .nil) τ h) Q := by
  rw [evE_new]
  simp [ini0]
  refine (init_ok (get_new_self) (by rw [Hp.n_new]; omega)).imp fun w h' ⟨e, P, X, le⟩ => ?_
  subst e
  simp
  refine hq h' _ _ P ⟨by rw [Hp.n_new] at le; omega, fun i hi => ?_⟩ (Nat.le_refl _) (by rw [Hp.n_new]; omega)
  rw [X i (by rw [Hp.n_new]; omega) (by omega), Hp.get_new, if_neg (by omega)]
end K74
end
section
set_option maxRecDepth 100000
set_option linter.unusedVariables false
set_option linter.unusedSimpArgs false
namespace K74
open TX
def sizeO : Op → Nat | .k n => n | .d n => n | .p t => t.length
/-- what a plain edit weighs -/
def PS.wt (s : PS) : Nat := s.kept + s.dropped + s.fresh.length
theorem pend_len (k d : Nat) (f : List Nat) : (pend3 k d f).length ≤ 3 := by
  unfold pend3
  simp only [List.length_append]
  split <;> split <;> split <;> simp
theorem step_bd (s : PS) (o : Op) : (s.step o).wt ≤ s.wt + sizeO o ∧ (s.step o).told.length ≤ s.told.length + 3 := by
  have hp : s.pend.length ≤ 3 := pend_len _ _ _
  cases o with
  | k n =>
    show (s.keep n).wt ≤ _ ∧ (s.keep n).told.length ≤ _
    unfold PS.keep
    split
    · refine ⟨by simp only [PS.wt, sizeO, List.length_nil]; omega, ?_⟩
      rw [List.length_append]; omega
    · exact ⟨by simp only [PS.wt, sizeO]; omega, by simp only; omega⟩
  | d n => exact ⟨by simp only [PS.step, PS.drop, PS.wt, sizeO]; omega, by simp only [PS.step, PS.drop]; omega⟩
  | p t => exact ⟨by simp only [PS.step, PS.put, PS.wt, sizeO, List.length_append]; omega, by simp only [PS.step, PS.put]; omega⟩
theorem run_bd : ∀ (os : List Op) (s : PS), (s.run os).wt ≤ s.wt + sumO sizeO os ∧ (s.run os).told.length ≤ s.told.length + 3 * os.length
  | [], s => ⟨by simp [PS.run, sumO], by simp [PS.run]⟩
  | o :: os, s => by
    have h1 := step_bd s o
    have h2 := run_bd os (s.step o)
    have e : s.run (o :: os) = (s.step o).run os := rfl
    have e2 : sumO sizeO (o :: os) = sizeO o + sumO sizeO os := by simp [sumO]
    rw [e, e2, List.length_cons]
    omega
theorem run_sm {os : List Op} (h1 : sumO sizeO os < 1000) (h2 : os.length ≤ 1000) : (PS.init.run os).sm := by
  obtain ⟨a, b⟩ := run_bd os .init
  have c : PS.init.wt = 0 := rfl
  have d : PS.init.told.length = 0 := rfl
  have e : (PS.init.run os).wt = (PS.init.run os).kept + (PS.init.run os).dropped + (PS.init.run os).fresh.length := rfl
  exact ⟨by omega, by omega, by omega, by omega⟩
theorem sumO_take (f : Op → Nat) : ∀ (os : List Op) (i : Nat), sumO f (os.take i) ≤ sumO f os
  | [], i => by simp [sumO]
  | o :: os, 0 => by simp [sumO]
  | o :: os, i + 1 => by
    have := sumO_take f os i
    simp only [List.take_succ_cons, sumO, List.map_cons, List.sum_cons] at *
    omega
theorem run_snoc (s : PS) (os : List Op) (o : Op) : s.run (os ++ [o]) = (s.run os).step o := by simp [PS.run]
theorem take_snoc {α : Type} {l : List α} {i : Nat} {x : α} (e : l[i]? = some x) : l.take (i + 1) = l.take i ++ [x] := by rw [List.take_add_one, e]; rfl
theorem pairs_at {os : List Op} {i : Nat} {x : W} (e : (os.map val)[i]? = some x) : ∃ o, os[i]? = some o ∧ x = val o := by
  rw [List.getElem?_map] at e
  cases q : os[i]? with
  | none => rw [q] at e; cases e
  | some o => rw [q] at e; exact ⟨o, rfl, (Option.some.inj e).symm⟩
/-- the plain edit of an edit -/
theorem plain_ok {F k : Nat} {h : Hp} {os : List Op} (ho : ∀ o ∈ os, o.num) (h1 : sumO sizeO os < 1000) (h2 : os.length ≤ 1000) : Pu (run src.pg F (k + 5) 13 [.tup (os.map enc)] h) (.tup (((PS.init.run os).told ++ (PS.init.run os).pend).map enc)) h := by
  unfold Pu
  rw [run_s src (d := d13) rfl rfl, show d13.body = _ from t13, wp_fin]
  show WpS (evSs _ _ [some (.tup (os.map enc)), none, none, none] h) _
  have hL : (os.map val).length ≤ LIM := by rw [List.length_map]; exact Nat.le_trans h2 (by decide)
  rw [wpS_cons, evS_asg, wpS_s]
  refine new_ok (k := k + 1) fun hA o l P X ho1 hl1 => ?_
  simp
  rw [wpS_cons]
  simp
  refine (pairs_ok (k := k + 2) (.inl rfl) ho h2).imp fun w h' ⟨h0, e1, e2, X0⟩ => ?_
  subst e1 e2
  simp [w_lst get_new_self hL]
  have Xn : Ext hA (h0.new (.lst (os.map val))) := X0.trans (.new _)
  have P0 : PAt o l .init (h0.new (.lst (os.map val))) := ⟨(Xn.get o P.lo).trans P.ob, (Xn.get l P.ll).trans P.ls, Nat.lt_of_lt_of_le P.lo Xn.le, Nat.lt_of_lt_of_le P.ll Xn.le, P.ne⟩
  have no : h0.n ≠ o := by have := P.lo; have := X0.le; omega
  have nl : h0.n ≠ l := by have := P.ll; have := X0.le; omega
  refine wp_forQL (xs := os.map val) (fun i τ h' => (∃ a b, τ = [some (.tup (os.map enc)), some (.obj o), a, b]) ∧ PAt o l (PS.init.run (os.take i)) h' ∧ ExtQ o l (h0.new (.lst (os.map val))) h') get_new_self ⟨⟨_, _, rfl⟩, by simpa [PS.run] using P0, .refl⟩ (fun i τ h' q => (q.2.2.get h0.n (by rw [Hp.n_new]; omega) no nl).trans get_new_self) (fun i x τ h' e q => ?_) (fun τ h' q => ?_)
  · obtain ⟨⟨a, b, rfl⟩, P1, X1⟩ := q
    obtain ⟨p, ep, rfl⟩ := pairs_at e
    have sm : (PS.init.run (os.take i)).sm := run_sm (Nat.lt_of_le_of_lt (sumO_take _ _ _) h1) (Nat.le_trans (List.length_take_le' _ _) h2)
    have hp := ho p (List.mem_of_getElem? ep)
    rw [take_snoc ep, run_snoc]
    simp only [wpS_s]
    cases p with
    | k n =>
      simp [val, seq_tup]
      rw [wpS_cons]
      simp
      rw [wpS_cons]
      simp [m_keep P1]
      refine (keep_ok (k := k + 1) P1 sm).imp fun w h3 ⟨e3, P3, X3⟩ => ?_
      exact ⟨P3, X1.trans X3⟩
    | d n =>
      simp [val, seq_tup]
      rw [wpS_cons]
      simp
      rw [wpS_cons]
      simp
      rw [wpS_cons]
      simp [m_drop P1]
      refine (drop_ok (k := k + 2) P1).imp fun w h3 ⟨e3, P3, X3⟩ => ?_
      exact ⟨P3, X1.trans X3⟩
    | p t =>
      simp [val, seq_tup]
      rw [wpS_cons]
      simp
      rw [wpS_cons]
      simp
      rw [wpS_cons]
      simp [m_put P1]
      refine (put_ok (k := k + 2) P1 sm (Nat.le_of_lt hp)).imp fun w h3 ⟨e3, P3, X3⟩ => ?_
      exact ⟨P3, X1.trans X3⟩
  · obtain ⟨⟨a, b, rfl⟩, P1, X1⟩ := q
    rw [List.length_map, List.take_length] at P1
    have sm : (PS.init.run os).sm := run_sm h1 h2
    simp
    rw [wpS_cons]
    simp [m_told P1]
    refine (told_ok (k := k + 1) P1 sm).imp fun w h3 ⟨e3, X3⟩ => ?_
    subst e3
    simp
    exact (X1.trans X3).ext ho1 hl1 (X.trans Xn)
theorem plain_edit_ok {F k : Nat} {h : Hp} {s : List Nat} {os : List Op} (hs : Signs s) (ho : ∀ o ∈ os, o.ok s) (h1 : sumO sizeO os < 1000) (h2 : os.length ≤ 1000) : Pu (run src.pg F (k + 6) 14 [.str s, .tup (os.map enc)] h) (.tup (((PS.init.run os).told ++ (PS.init.run os).pend).map enc)) h := by
  unfold Pu
  rw [run_s src (d := d14) rfl rfl, show d14.body = _ from t14, wp_fin]
  show WpS (evSs _ _ [some (.str s), some (.tup (os.map enc))] h) _
  rw [wpS_cons]
  simp
  refine (need_edit_ok hs ho h2).imp fun x h1' ⟨e, X1⟩ => ?_
  rw [wpS_cons]
  simp
  refine (plain_ok (fun o m => (ho o m).num) h1 h2).imp fun w h3 ⟨e3, X3⟩ => ?_
  subst e3
  simp
  exact X1.trans X3
end K74
end
section
set_option maxRecDepth 100000
set_option linter.unusedVariables false
set_option linter.unusedSimpArgs false
namespace K74
open TX
/-- an edit done: what is found, the place -/
def ap1 (x : List Nat) (s : List Nat × Nat) : Op → List Nat × Nat
  | .k n => (s.1 ++ (x.drop s.2).take n, s.2 + n)
  | .d n => (s.1, s.2 + n)
  | .p t => (s.1 ++ t, s.2)
def ap (x : List Nat) (os : List Op) : List Nat × Nat := os.foldl (ap1 x) ([], 0)
theorem ap_snoc (x : List Nat) (os : List Op) (o : Op) : ap x (os ++ [o]) = ap1 x (ap x os) o := by simp [ap]
theorem ap_at (x : List Nat) : ∀ (os : List Op) (s : List Nat × Nat), (os.foldl (ap1 x) s).2 = s.2 + sumO takenO os
  | [], s => by simp [sumO]
  | o :: os, s => by
    rw [List.foldl_cons, ap_at x os]
    have e2 : sumO takenO (o :: os) = takenO o + sumO takenO os := by simp [sumO]
    rw [e2]
    cases o <;> simp only [ap1, takenO] <;> omega
theorem ap_len (x : List Nat) : ∀ (os : List Op) (s : List Nat × Nat), (os.foldl (ap1 x) s).1.length ≤ s.1.length + sumO sizeO os
  | [], s => by simp [sumO]
  | o :: os, s => by
    rw [List.foldl_cons]
    have := ap_len x os (ap1 x s o)
    have e2 : sumO sizeO (o :: os) = sizeO o + sumO sizeO os := by simp [sumO]
    rw [e2]
    cases o with
    | k n => simp only [ap1, List.length_append, List.length_take, sizeO] at this ⊢; omega
    | d n => simp only [ap1, sizeO] at this ⊢; omega
    | p t => simp only [ap1, List.length_append, sizeO] at this ⊢; omega
theorem sumO_snoc (f : Op → Nat) (os : List Op) (o : Op) : sumO f (os ++ [o]) = sumO f os + f o := by simp [sumO]
theorem taken_take {os : List Op} {i : Nat} {o : Op} (e : os[i]? = some o) : sumO takenO (os.take i) + takenO o ≤ sumO takenO os := by
  have := sumO_take takenO os (i + 1)
  rw [take_snoc e, sumO_snoc] at this
  exact this
theorem cut_mid {x : List Nat} {a n : Nat} (h : a + n ≤ x.length) : cutL x (some (a : Int)) (some ((a : Int) + n)) = (x.drop a).take n := by
  have e1 : sIx x.length 0 (some (a : Int)) = a := by
    simp only [sIx]
    rw [if_neg (by omega)]
    omega
  have e2 : sIx x.length x.length (some ((a : Int) + n)) = a + n := by
    simp only [sIx]
    rw [if_neg (by omega)]
    omega
  unfold cutL
  rw [e1, e2]
  congr 1
  omega
theorem sl_mid {h : Hp} {x : List Nat} {a n : Nat} (hl : x.length ≤ LIM) (e : a + n ≤ x.length) : getsl (.str x) (some (a : Int)) (some ((a : Int) + n)) h = some (.str ((x.drop a).take n), h) := by
  simp only [getsl, if_pos hl, cut_mid e]
theorem applied_in_ok {F k : Nat} {h : Hp} {os : List Op} {x : List Nat} (ho : ∀ o ∈ os, o.num) (h1 : sumO sizeO os < 1000) (h2 : os.length ≤ 1000) (hx : x.length ≤ 1000) (ht : sumO takenO os ≤ x.length) : Pu (run src.pg F (k + 3) 15 [.tup (os.map enc), .str x] h) (.str (ap x os).1) h := by
  unfold Pu
  rw [run_s src (d := d15) rfl rfl, show d15.body = _ from t15, wp_fin]
  show WpS (evSs _ _ [some (.tup (os.map enc)), some (.str x), none, none, none, none] h) _
  have hL : (os.map val).length ≤ LIM := by rw [List.length_map]; exact Nat.le_trans h2 (by decide)
  have hxL : x.length ≤ LIM := Nat.le_trans hx (by decide)
  rw [wpS_cons]
  simp [LIM, seq_tup]
  rw [wpS_cons]
  simp
  refine (pairs_ok (.inl rfl) ho h2).imp fun w h' ⟨h0, e1, e2, X0⟩ => ?_
  subst e1 e2
  simp [w_lst get_new_self hL]
  refine wp_forQL (xs := os.map val) (fun i τ h' => (∃ a b, τ = [some (.tup (os.map enc)), some (.str x), some (.str (ap x (os.take i)).1), some (.int (ap x (os.take i)).2), a, b]) ∧ Ext (h0.new (.lst (os.map val))) h') get_new_self ⟨⟨_, _, rfl⟩, .refl⟩ (fun i τ h' q => (q.2.get h0.n (by rw [Hp.n_new]; omega)).trans get_new_self) (fun i y τ h' e q => ?_) (fun τ h' q => ?_)
  · obtain ⟨⟨a, b, rfl⟩, X1⟩ := q
    obtain ⟨p, ep, rfl⟩ := pairs_at e
    have hp := ho p (List.mem_of_getElem? ep)
    have hat : (ap x (os.take i)).2 = sumO takenO (os.take i) := by rw [ap, ap_at]; simp
    have htk := taken_take ep
    have hlen : (ap x (os.take i)).1.length ≤ 1000 := Nat.le_trans (ap_len x _ _) (by have := sumO_take sizeO os i; simp; omega)
    rw [take_snoc ep, ap_snoc]
    generalize ap x (os.take i) = st at *
    simp only [wpS_s]
    cases p with
    | k n =>
      simp only [takenO] at htk
      have ad : st.1.length + ((x.drop st.2).take n).length ≤ LIM := Nat.le_trans (show _ ≤ 2000 by simp; omega) (by decide)
      simp [val, seq_tup]
      rw [wpS_cons]
      simp
      rw [wpS_cons]
      simp [sl_mid hxL (show st.2 + n ≤ x.length by omega), i_addS ad]
      rw [wpS_cons]
      simp [i_addI, ap1]
      exact X1
    | d n =>
      have ad : st.1.length + ([] : List Nat).length ≤ LIM := Nat.le_trans (show _ ≤ 2000 by simp; omega) (by decide)
      simp [val, seq_tup]
      rw [wpS_cons]
      simp
      rw [wpS_cons]
      simp [i_addS ad]
      rw [wpS_cons]
      simp [i_addI, ap1]
      exact X1
    | p t =>
      have ad : st.1.length + t.length ≤ LIM := Nat.le_trans (show _ ≤ 2000 by have : t.length < 1000 := hp; omega) (by decide)
      simp [val, seq_tup]
      rw [wpS_cons]
      simp
      rw [wpS_cons]
      simp [i_addS ad, ap1]
      exact X1
  · obtain ⟨⟨a, b, rfl⟩, X1⟩ := q
    rw [List.length_map, List.take_length]
    simp
    rw [wpS_cons]
    simp
    exact (X0.trans (.new _)).trans X1
theorem applied_ok {F k : Nat} {h : Hp} {s : List Nat} {os : List Op} {x : List Nat} (hs : Signs s) (ho : ∀ o ∈ os, o.ok s) (h1 : sumO sizeO os < 1000) (h2 : os.length ≤ 1000) (hx : x.length ≤ 1000) (hx2 : ∀ c ∈ x, c ∈ s) (ht : sumO takenO os = x.length) : Pu (run src.pg F (k + 6) 17 [.str s, .tup (os.map enc), .str x] h) (.str (ap x os).1) h := by
  unfold Pu
  rw [run_s src (d := d17) rfl rfl, show d17.body = _ from t17, wp_fin]
  show WpS (evSs _ _ [some (.str s), some (.tup (os.map enc)), some (.str x)] h) _
  have hxL : x.length ≤ LIM := Nat.le_trans hx (by decide)
  rw [wpS_cons]
  simp
  refine (need_edit_ok hs ho h2).imp fun w g1 ⟨e, X1⟩ => ?_
  rw [wpS_cons]
  simp
  refine (need_text_ok (k := k + 2) hx2 hxL).imp fun w g2 ⟨e, X2⟩ => ?_
  rw [wpS_cons]
  simp [f_lenS hxL]
  refine (need_taken_ok (k := k + 1) (fun o m => (ho o m).num) h2 (by rw [ht])).imp fun w g3 ⟨e, X3⟩ => ?_
  rw [wpS_cons]
  simp
  refine (applied_in_ok (k := k + 2) (fun o m => (ho o m).num) h1 h2 hx (Nat.le_of_eq ht)).imp fun w g4 ⟨e, X4⟩ => ?_
  subst e
  simp
  exact X1.trans (X2.trans (X3.trans X4))
end K74
end
section
set_option maxRecDepth 100000
set_option linter.unusedVariables false
set_option linter.unusedSimpArgs false
namespace K74
open TX
def turn1 (x : List Nat) (a : Nat) : Op → Op
  | .k n => .k n
  | .d n => .p ((x.drop a).take n)
  | .p t => .d t.length
def turnL (x : List Nat) : List Op → Nat → List Op
  | [], _ => []
  | o :: os, a => turn1 x a o :: turnL x os (a + takenO o)
theorem turn_snoc (x : List Nat) : ∀ (os : List Op) (a : Nat) (o : Op), turnL x (os ++ [o]) a = turnL x os a ++ [turn1 x (a + sumO takenO os) o]
  | [], a, o => by simp [turnL, sumO]
  | q :: os, a, o => by
    have e : sumO takenO (q :: os) = takenO q + sumO takenO os := by simp [sumO]
    rw [List.cons_append, turnL, turnL, turn_snoc x os, e, List.cons_append, Nat.add_assoc]
theorem turn_size (x : List Nat) : ∀ (os : List Op) (a : Nat), sumO sizeO (turnL x os a) ≤ sumO sizeO os ∧ (turnL x os a).length = os.length
  | [], a => ⟨Nat.le_refl _, rfl⟩
  | o :: os, a => by
    obtain ⟨h1, h2⟩ := turn_size x os (a + takenO o)
    have e : sumO sizeO (o :: os) = sizeO o + sumO sizeO os := by simp [sumO]
    have e2 : sumO sizeO (turnL x (o :: os) a) = sizeO (turn1 x a o) + sumO sizeO (turnL x os (a + takenO o)) := by simp [sumO, turnL]
    rw [e, e2]
    refine ⟨?_, by simp [turnL, h2]⟩
    have : sizeO (turn1 x a o) ≤ sizeO o := by
      cases o with
      | k n => exact Nat.le_refl _
      | d n => simp only [turn1, sizeO, List.length_take]; omega
      | p t => exact Nat.le_refl _
    omega
theorem turned_ok {F k : Nat} {h : Hp} {s : List Nat} {os : List Op} {x : List Nat} (hs : Signs s) (ho : ∀ o ∈ os, o.ok s) (h1 : sumO sizeO os < 1000) (h2 : os.length ≤ 1000) (hx : x.length ≤ 1000) (hx2 : ∀ c ∈ x, c ∈ s) (ht : sumO takenO os = x.length) :
    Pu (run src.pg F (k + 6) 21 [.str s, .tup (os.map enc), .str x] h) (.tup (((PS.init.run (turnL x os 0)).told ++ (PS.init.run (turnL x os 0)).pend).map enc)) h := by
  unfold Pu
  rw [run_s src (d := d21) rfl rfl, show d21.body = _ from t21, wp_fin]
  show WpS (evSs _ _ [some (.str s), some (.tup (os.map enc)), some (.str x), none, none, none, none] h) _
  have hL : (os.map val).length ≤ LIM := by rw [List.length_map]; exact Nat.le_trans h2 (by decide)
  have hxL : x.length ≤ LIM := Nat.le_trans hx (by decide)
  have hon : ∀ o ∈ os, o.num := fun o m => (ho o m).num
  rw [wpS_cons]
  simp
  refine (need_edit_ok hs ho h2).imp fun w g1 ⟨e, X1⟩ => ?_
  rw [wpS_cons]
  simp
  refine (need_text_ok (k := k + 2) hx2 hxL).imp fun w g2 ⟨e, X2⟩ => ?_
  rw [wpS_cons]
  simp [f_lenS hxL]
  refine (need_taken_ok (k := k + 1) hon h2 (by rw [ht])).imp fun w g3 ⟨e, X3⟩ => ?_
  have X13 := X1.trans (X2.trans X3)
  rw [wpS_cons, evS_asg, wpS_s, evE_tup, wp_b, evEs_cons, wp_b]
  refine new_ok (k := k + 2) fun hA o l P X ho1 hl1 => ?_
  simp [LIM, seq_tup]
  rw [wpS_cons]
  simp
  refine (pairs_ok (k := k + 3) (.inl rfl) hon h2).imp fun w h' ⟨h0, e1, e2, X0⟩ => ?_
  subst e1 e2
  simp [w_lst get_new_self hL]
  have Xn : Ext hA (h0.new (.lst (os.map val))) := X0.trans (.new _)
  have P0 : PAt o l .init (h0.new (.lst (os.map val))) := ⟨(Xn.get o P.lo).trans P.ob, (Xn.get l P.ll).trans P.ls, Nat.lt_of_lt_of_le P.lo Xn.le, Nat.lt_of_lt_of_le P.ll Xn.le, P.ne⟩
  have no : h0.n ≠ o := by have := P.lo; have := X0.le; omega
  have nl : h0.n ≠ l := by have := P.ll; have := X0.le; omega
  refine wp_forQL (xs := os.map val) (fun i τ h' => (∃ a b, τ = [some (.str s), some (.tup (os.map enc)), some (.str x), some (.obj o), some (.int (sumO takenO (os.take i))), a, b]) ∧ PAt o l (PS.init.run (turnL x (os.take i) 0)) h' ∧ ExtQ o l (h0.new (.lst (os.map val))) h') get_new_self ⟨⟨_, _, rfl⟩, by simpa [PS.run, turnL] using P0, .refl⟩ (fun i τ h' q => (q.2.2.get h0.n (by rw [Hp.n_new]; omega) no nl).trans get_new_self) (fun i y τ h' e q => ?_) (fun τ h' q => ?_)
  · obtain ⟨⟨a, b, rfl⟩, P1, X1⟩ := q
    obtain ⟨p, ep, rfl⟩ := pairs_at e
    have tsz := turn_size x (os.take i) 0
    have sm : (PS.init.run (turnL x (os.take i) 0)).sm := run_sm (Nat.lt_of_le_of_lt tsz.1 (Nat.lt_of_le_of_lt (sumO_take _ _ _) h1)) (by rw [tsz.2]; exact Nat.le_trans (List.length_take_le' _ _) h2)
    have hp := hon p (List.mem_of_getElem? ep)
    have htk := taken_take ep
    rw [take_snoc ep, turn_snoc, run_snoc, sumO_snoc, Nat.zero_add]
    generalize sumO takenO (os.take i) = at_ at *
    generalize PS.init.run (turnL x (os.take i) 0) = st at *
    simp only [wpS_s]
    cases p with
    | k n =>
      simp [val, seq_tup]
      rw [wpS_cons]
      simp
      rw [wpS_cons]
      simp
      rw [wpS_cons]
      simp [m_keep P1]
      refine (keep_ok (k := k + 2) P1 sm).imp fun w h3 ⟨e3, P3, X3⟩ => ?_
      rw [wpS_cons]
      simp [i_addI, takenO, turn1, PS.step]
      exact ⟨P3, X1.trans X3⟩
    | d n =>
      simp only [takenO] at htk
      simp [val, seq_tup]
      rw [wpS_cons]
      simp
      rw [wpS_cons]
      simp
      rw [wpS_cons]
      simp [m_put P1, sl_mid hxL (show at_ + n ≤ x.length by omega)]
      refine (put_ok (k := k + 3) P1 sm (by simp; omega)).imp fun w h3 ⟨e3, P3, X3⟩ => ?_
      rw [wpS_cons]
      simp [i_addI, takenO, turn1, PS.step]
      exact ⟨P3, X1.trans X3⟩
    | p t =>
      have htl : t.length ≤ LIM := Nat.le_trans (Nat.le_of_lt (show t.length < 1000 from hp)) (by decide)
      simp [val, seq_tup]
      rw [wpS_cons]
      simp
      rw [wpS_cons]
      simp [m_drop P1, f_lenS htl]
      refine (drop_ok (k := k + 3) P1).imp fun w h3 ⟨e3, P3, X3⟩ => ?_
      simp [takenO, turn1, PS.step]
      exact ⟨P3, X1.trans X3⟩
  · obtain ⟨⟨a, b, rfl⟩, P1, X1⟩ := q
    rw [List.length_map, List.take_length] at *
    have tsz := turn_size x os 0
    have sm : (PS.init.run (turnL x os 0)).sm := run_sm (Nat.lt_of_le_of_lt tsz.1 h1) (by rw [tsz.2]; exact h2)
    simp
    rw [wpS_cons]
    simp [m_told P1]
    refine (told_ok (k := k + 2) P1 sm).imp fun w h3 ⟨e3, X3⟩ => ?_
    subst e3
    simp
    have := X13.le
    exact (X1.trans X3).ext (by omega) (by omega) (X13.trans (X.trans Xn))
end K74
end
section
set_option maxRecDepth 100000
set_option linter.unusedVariables false
set_option linter.unusedSimpArgs false
namespace K74
open TX
def plainOf (os : List Op) : List Op := (PS.init.run os).told ++ (PS.init.run os).pend
theorem run_app (s : PS) (a b : List Op) : s.run (a ++ b) = (s.run a).run b := by simp [PS.run]
theorem sumO_app (f : Op → Nat) (a b : List Op) : sumO f (a ++ b) = sumO f a + sumO f b := by simp [sumO]
end K74
end
section
set_option maxRecDepth 100000
set_option linter.unusedVariables false
set_option linter.unusedSimpArgs false
namespace K74
open TX
/-- a sum that does not mind how words are put together -/
structure Add (f : Op → Nat) : Prop where
  k : ∀ a b, f (.k (a + b)) = f (.k a) + f (.k b)
  d : ∀ a b, f (.d (a + b)) = f (.d a) + f (.d b)
  p : ∀ a b, f (.p (a ++ b)) = f (.p a) + f (.p b)
theorem Add.k0 {f : Op → Nat} (h : Add f) : f (.k 0) = 0 := by have := h.k 0 0; simp at this; exact this
theorem Add.d0 {f : Op → Nat} (h : Add f) : f (.d 0) = 0 := by have := h.d 0 0; simp at this; exact this
theorem Add.p0 {f : Op → Nat} (h : Add f) : f (.p []) = 0 := by have := h.p [] []; simp at this; exact this
theorem add_taken : Add takenO := ⟨fun _ _ => rfl, fun _ _ => rfl, fun _ _ => rfl⟩
theorem add_left : Add leftO := ⟨fun _ _ => rfl, fun _ _ => rfl, fun a b => by simp [leftO]⟩
theorem add_cost : Add costO := ⟨fun _ _ => rfl, fun _ _ => rfl, fun a b => by simp [costO]⟩
theorem add_size : Add sizeO := ⟨fun _ _ => rfl, fun _ _ => rfl, fun a b => by simp [sizeO]⟩
theorem sum_pend {f : Op → Nat} (h : Add f) (k d : Nat) (t : List Nat) : sumO f (pend3 k d t) = f (.k k) + f (.d d) + f (.p t) := by
  unfold pend3
  rw [sumO_app, sumO_app]
  have e1 : sumO f (if k = 0 then [] else [.k k]) = f (.k k) := by
    split
    · rename_i e; subst e; rw [h.k0]; rfl
    · simp [sumO]
  have e2 : sumO f (if d = 0 then [] else [.d d]) = f (.d d) := by
    split
    · rename_i e; subst e; rw [h.d0]; rfl
    · simp [sumO]
  have e3 : sumO f (if t = [] then [] else [.p t]) = f (.p t) := by
    split
    · rename_i e; subst e; rw [h.p0]; rfl
    · simp [sumO]
  rw [e1, e2, e3]
def PS.all (s : PS) : List Op := s.told ++ s.pend
theorem sum_step {f : Op → Nat} (h : Add f) (s : PS) (o : Op) : sumO f (s.step o).all = sumO f s.all + f o := by
  unfold PS.all
  rw [sumO_app, sumO_app]
  unfold PS.pend
  rw [sum_pend h, sum_pend h]
  cases o with
  | k n =>
    show sumO f (s.keep n).told + (f (.k (s.keep n).kept) + f (.d (s.keep n).dropped) + f (.p (s.keep n).fresh)) = _
    unfold PS.keep
    split
    · simp only
      rw [sumO_app]
      unfold PS.pend
      rw [sum_pend h, h.d0, h.p0]
      omega
    · simp only
      rw [h.k]
      omega
  | d n =>
    show sumO f s.told + (f (.k s.kept) + f (.d (s.dropped + n)) + f (.p s.fresh)) = _
    rw [h.d]; omega
  | p t =>
    show sumO f s.told + (f (.k s.kept) + f (.d s.dropped) + f (.p (s.fresh ++ t))) = _
    rw [h.p]; omega
theorem sum_run {f : Op → Nat} (h : Add f) : ∀ (os : List Op) (s : PS), sumO f (s.run os).all = sumO f s.all + sumO f os
  | [], s => by simp [PS.run, sumO]
  | o :: os, s => by
    have e : s.run (o :: os) = (s.step o).run os := rfl
    have e2 : sumO f (o :: os) = f o + sumO f os := by simp [sumO]
    rw [e, sum_run h os, sum_step h, e2]
    omega
theorem sum_plain {f : Op → Nat} (h : Add f) (os : List Op) : sumO f (plainOf os) = sumO f os := by
  have := sum_run h os .init
  have e : sumO f PS.init.all = 0 := by
    show sumO f ([] ++ pend3 0 0 []) = 0
    rw [List.nil_append, sum_pend h, h.k0, h.d0, h.p0]
  rw [e, Nat.zero_add] at this
  exact this
/-- what it does -/
theorem ap_pend (x : List Nat) (s : List Nat × Nat) (k d : Nat) (t : List Nat) : (pend3 k d t).foldl (ap1 x) s = (s.1 ++ (x.drop s.2).take k ++ t, s.2 + k + d) := by
  unfold pend3
  rw [List.foldl_append, List.foldl_append]
  have e1 : (if k = 0 then [] else [Op.k k]).foldl (ap1 x) s = (s.1 ++ (x.drop s.2).take k, s.2 + k) := by
    split
    · rename_i e; subst e; simp
    · rfl
  rw [e1]
  have e2 : ∀ s, (if d = 0 then [] else [Op.d d]).foldl (ap1 x) s = (s.1, s.2 + d) := fun s => by
    split
    · rename_i e; subst e; simp
    · rfl
  rw [e2]
  split
  · rename_i e; subst e; simp
  · rfl
theorem take_add' {α : Type} (l : List α) (a b : Nat) : l.take (a + b) = l.take a ++ (l.drop a).take b := by
  rw [List.take_add]
theorem ap_step (x : List Nat) (s : PS) (o : Op) : ap x (s.step o).all = ap1 x (ap x s.all) o := by
  unfold ap PS.all
  rw [List.foldl_append, List.foldl_append]
  unfold PS.pend
  rw [ap_pend, ap_pend]
  cases o with
  | k n =>
    show ((((s.keep n).told.foldl (ap1 x) ([], 0)).1 ++ (x.drop ((s.keep n).told.foldl (ap1 x) ([], 0)).2).take (s.keep n).kept ++ (s.keep n).fresh, ((s.keep n).told.foldl (ap1 x) ([], 0)).2 + (s.keep n).kept + (s.keep n).dropped)) = _
    unfold PS.keep
    split
    · simp only
      rw [List.foldl_append]
      unfold PS.pend
      rw [ap_pend]
      simp [ap1]
    · rename_i hn
      unfold PS.open at hn
      have h1 : s.dropped = 0 := by
        cases q : s.dropped with
        | zero => rfl
        | succ m => exact absurd (.inl (by omega)) hn
      have h2 : s.fresh = [] := by
        cases q : s.fresh with
        | nil => rfl
        | cons a r => exact absurd (.inr (by rw [q]; simp)) hn
      simp only [h1, h2, ap1, List.append_nil, Nat.add_zero]
      rw [take_add', List.drop_drop, List.append_assoc, Nat.add_assoc]
  | d n => simp only [PS.step, PS.drop, ap1, Nat.add_assoc]
  | p t => simp only [PS.step, PS.put, ap1, List.append_assoc]
theorem ap_run (x : List Nat) : ∀ (os : List Op) (s : PS), ap x (s.run os).all = os.foldl (ap1 x) (ap x s.all)
  | [], s => rfl
  | o :: os, s => by
    have e : s.run (o :: os) = (s.step o).run os := rfl
    rw [e, ap_run x os, ap_step]
    rfl
theorem ap_plain (x : List Nat) (os : List Op) : ap x (plainOf os) = ap x os := ap_run x os .init
end K74
end
section
set_option maxRecDepth 100000
set_option linter.unusedVariables false
set_option linter.unusedSimpArgs false
namespace K74
open TX
/-- no empty word -/
def Op.pos : Op → Prop
  | .k n => 0 < n
  | .d n => 0 < n
  | .p t => t ≠ []
theorem run_pend {s : PS} (h : ∀ x, 0 < x → (PS.init.run s.told).keep x = ⟨s.told, x, 0, []⟩) (h0 : s.kept = 0 → PS.init.run s.told = ⟨s.told, 0, 0, []⟩) : PS.init.run s.all = s := by
  unfold PS.all
  rw [run_app]
  unfold PS.pend pend3
  rw [run_app, run_app]
  have e1 : (PS.init.run s.told).run (if s.kept = 0 then [] else [.k s.kept]) = ⟨s.told, s.kept, 0, []⟩ := by
    split
    · rename_i e; rw [e]; exact h0 e
    · rename_i e; exact h _ (by omega)
  rw [e1]
  have e2 : PS.run ⟨s.told, s.kept, 0, []⟩ (if s.dropped = 0 then [] else [.d s.dropped]) = ⟨s.told, s.kept, s.dropped, []⟩ := by
    split
    · rename_i e; rw [e]; rfl
    · simp [PS.run, PS.step, PS.drop]
  rw [e2]
  split
  · rename_i e
    show (⟨s.told, s.kept, s.dropped, []⟩ : PS) = s
    rw [← e]
  · simp [PS.run, PS.step, PS.put]
theorem again : ∀ (os : List Op) (s : PS), (∀ o ∈ os, o.pos) → (∀ x, 0 < x → (PS.init.run s.told).keep x = ⟨s.told, x, 0, []⟩) → (s.kept = 0 → PS.init.run s.told = ⟨s.told, 0, 0, []⟩) → PS.init.run (s.run os).all = s.run os
  | [], s, _, h, h0 => run_pend h h0
  | o :: os, s, hp, h, h0 => by
    have e : s.run (o :: os) = (s.step o).run os := rfl
    rw [e]
    have hp' : ∀ o ∈ os, o.pos := fun o ho => hp o (List.mem_cons_of_mem _ ho)
    have ho := hp o List.mem_cons_self
    cases o with
    | k n =>
      have hn : 0 < n := ho
      show PS.init.run ((s.keep n).run os).all = (s.keep n).run os
      unfold PS.keep
      split
      · rename_i hop
        have e1 : PS.init.run (s.told ++ s.pend) = s := run_pend h h0
        refine again os _ hp' (fun x hx => ?_) (fun z => ?_)
        · rw [e1]
          unfold PS.keep
          rw [if_pos hop]
        · simp only at z; omega
      · exact again os _ hp' h (fun z => by simp only at z; omega)
    | d n => exact again os _ hp' h h0
    | p t => exact again os _ hp' h h0
theorem plain_again {os : List Op} (hp : ∀ o ∈ os, o.pos) : plainOf (plainOf os) = plainOf os := by
  have := again os .init hp (fun x hx => by unfold PS.keep; rw [if_neg (by unfold PS.open; simp [PS.run, PS.init])]; simp [PS.run, PS.init]) (fun _ => rfl)
  show (PS.init.run (PS.init.run os).all).all = (PS.init.run os).all
  rw [this]
/-- texts of signs -/
def Op.in_ (s : List Nat) : Op → Prop
  | .p t => ∀ c ∈ t, c ∈ s
  | _ => True
structure PS.good (s : List Nat) (p : PS) : Prop where
  t : ∀ o ∈ p.told, o.pos ∧ o.in_ s
  f : ∀ c ∈ p.fresh, c ∈ s
theorem good_pend {s : List Nat} {p : PS} (h : p.good s) : ∀ o ∈ p.pend, o.pos ∧ o.in_ s := by
  intro o ho
  unfold PS.pend pend3 at ho
  rw [List.mem_append, List.mem_append] at ho
  rcases ho with (ho | ho) | ho
  · split at ho
    · simp at ho
    · simp at ho; subst ho; exact ⟨by show 0 < p.kept; omega, trivial⟩
  · split at ho
    · simp at ho
    · simp at ho; subst ho; exact ⟨by show 0 < p.dropped; omega, trivial⟩
  · split at ho
    · simp at ho
    · simp at ho; subst ho; exact ⟨by assumption, h.f⟩
theorem good_step {s : List Nat} {p : PS} (h : p.good s) {o : Op} (ho : o.in_ s) : (p.step o).good s := by
  cases o with
  | k n =>
    show (p.keep n).good s
    unfold PS.keep
    split
    · exact ⟨fun o ho => (List.mem_append.mp ho).elim (h.t o) (good_pend h o), fun c hc => by simp at hc⟩
    · exact ⟨h.t, h.f⟩
  | d n => exact ⟨h.t, h.f⟩
  | p t => exact ⟨h.t, fun c hc => (List.mem_append.mp hc).elim (h.f c) (ho c)⟩
theorem good_run {s : List Nat} : ∀ (os : List Op) (p : PS), p.good s → (∀ o ∈ os, o.in_ s) → (p.run os).good s
  | [], p, h, _ => h
  | o :: os, p, h, ho => good_run os (p.step o) (good_step h (ho o List.mem_cons_self)) fun o m => ho o (List.mem_cons_of_mem _ m)
theorem good_plain {s : List Nat} {os : List Op} (ho : ∀ o ∈ os, o.in_ s) : ∀ o ∈ plainOf os, o.pos ∧ o.in_ s := by
  have g := good_run os .init ⟨fun o h => by simp [PS.init] at h, fun c h => by simp [PS.init] at h⟩ ho
  intro o m
  rcases List.mem_append.mp m with m | m
  · exact g.t o m
  · exact good_pend g o m
theorem size_le {os : List Op} {o : Op} (h : o ∈ os) : sizeO o ≤ sumO sizeO os := by
  induction os with
  | nil => simp at h
  | cons q os ih =>
    have e2 : sumO sizeO (q :: os) = sizeO q + sumO sizeO os := by simp [sumO]
    rw [e2]
    rcases List.mem_cons.mp h with rfl | h
    · omega
    · have := ih h; omega
theorem plain_okay {s : List Nat} {os : List Op} (ho : ∀ o ∈ os, o.in_ s) (hs : sumO sizeO os < 1000) : ∀ o ∈ plainOf os, o.ok s := by
  intro o m
  obtain ⟨h1, h2⟩ := good_plain ho o m
  have h3 := size_le m
  rw [sum_plain add_size] at h3
  cases o with
  | k n => exact ⟨h1, by simp only [sizeO] at h3; omega⟩
  | d n => exact ⟨h1, by simp only [sizeO] at h3; omega⟩
  | p t => exact ⟨h1, by simp only [sizeO] at h3; omega, h2⟩
theorem plain_len (os : List Op) : (plainOf os).length ≤ 3 * os.length + 3 := by
  have h := (run_bd os .init).2
  have h2 : (PS.init.run os).pend.length ≤ 3 := pend_len _ _ _
  have h3 : PS.init.told.length = 0 := rfl
  unfold plainOf
  rw [List.length_append]
  omega
/-! ### the path -/
end K74
end
section
set_option maxRecDepth 100000
set_option linter.unusedVariables false
set_option linter.unusedSimpArgs false
namespace K74
open TX
def out (x : List Nat) : List Op → Nat → List Nat
  | [], _ => []
  | .k n :: os, a => (x.drop a).take n ++ out x os (a + n)
  | .d n :: os, a => out x os (a + n)
  | .p t :: os, a => t ++ out x os a
theorem ap_out (x : List Nat) : ∀ (os : List Op) (f : List Nat) (a : Nat), (os.foldl (ap1 x) (f, a)).1 = f ++ out x os a
  | [], f, a => by simp [out]
  | .k n :: os, f, a => by rw [List.foldl_cons]; show (os.foldl (ap1 x) (f ++ (x.drop a).take n, a + n)).1 = _; rw [ap_out x os, out, List.append_assoc]
  | .d n :: os, f, a => by rw [List.foldl_cons]; show (os.foldl (ap1 x) (f, a + n)).1 = _; rw [ap_out x os, out]
  | .p t :: os, f, a => by rw [List.foldl_cons]; show (os.foldl (ap1 x) (f ++ t, a)).1 = _; rw [ap_out x os, out, List.append_assoc]
theorem turn_ap (x y : List Nat) : ∀ (os : List Op) (g : List Nat) (a b : Nat), a + sumO takenO os ≤ x.length → y.drop b = out x os a → ((turnL x os a).foldl (ap1 y) (g, b)).1 = g ++ (x.drop a).take (sumO takenO os)
  | [], g, a, b, _, _ => by simp [turnL, sumO]
  | .k n :: os, g, a, b, h, e => by
    have e2 : sumO takenO (.k n :: os) = n + sumO takenO os := by simp [sumO, takenO]
    rw [e2] at h ⊢
    have hl : ((x.drop a).take n).length = n := by simp; omega
    rw [out] at e
    have e3 : (y.drop b).take n = (x.drop a).take n := by rw [e, List.take_append_of_le_length (by omega), List.take_of_length_le (by omega)]
    have e4 : y.drop (b + n) = out x os (a + n) := by
      rw [← List.drop_drop, e]
      rw [List.drop_append_of_le_length (by omega), List.drop_eq_nil_of_le (by omega)]
      rfl
    rw [turnL, List.foldl_cons]
    show ((turnL x os (a + n)).foldl (ap1 y) (g ++ (y.drop b).take n, b + n)).1 = _
    rw [turn_ap x y os _ _ _ (by omega) e4, e3, List.append_assoc, take_add', List.drop_drop]
  | .d n :: os, g, a, b, h, e => by
    have e2 : sumO takenO (.d n :: os) = n + sumO takenO os := by simp [sumO, takenO]
    rw [e2] at h ⊢
    rw [out] at e
    rw [turnL, List.foldl_cons]
    show ((turnL x os (a + n)).foldl (ap1 y) (g ++ (x.drop a).take n, b)).1 = _
    rw [turn_ap x y os _ _ _ (by omega) e, List.append_assoc, take_add', List.drop_drop]
  | .p t :: os, g, a, b, h, e => by
    have e2 : sumO takenO (.p t :: os) = sumO takenO os := by simp [sumO, takenO]
    rw [e2] at h ⊢
    rw [out] at e
    have e4 : y.drop (b + t.length) = out x os a := by
      rw [← List.drop_drop, e]
      simp
    rw [turnL, List.foldl_cons]
    show ((turnL x os a).foldl (ap1 y) (g, b + t.length)).1 = _
    rw [turn_ap x y os _ _ _ h e4]
theorem turn_back {x : List Nat} {os : List Op} (h : sumO takenO os = x.length) : (ap (ap x os).1 (turnL x os 0)).1 = x := by
  have e := turn_ap x (ap x os).1 os [] 0 0 (by omega) (by
    rw [List.drop_zero]
    unfold ap
    rw [ap_out]; simp)
  unfold ap at e ⊢
  rw [e, h]
  simp
theorem turn_taken (x : List Nat) : ∀ (os : List Op) (a : Nat), sumO takenO (turnL x os a) = sumO leftO os
  | [], _ => rfl
  | o :: os, a => by
    have e1 : sumO takenO (turnL x (o :: os) a) = takenO (turn1 x a o) + sumO takenO (turnL x os (a + takenO o)) := by simp [sumO, turnL]
    have e2 : sumO leftO (o :: os) = leftO o + sumO leftO os := by simp [sumO]
    rw [e1, e2, turn_taken x os]
    cases o <;> rfl
theorem turn_in {s x : List Nat} (hx : ∀ c ∈ x, c ∈ s) : ∀ (os : List Op) (a : Nat), ∀ o ∈ turnL x os a, o.in_ s
  | [], _, o, m => by simp [turnL] at m
  | q :: os, a, o, m => by
    rw [turnL] at m
    rcases List.mem_cons.mp m with rfl | m
    · cases q with
      | k n => trivial
      | d n => exact fun c hc => hx c (List.mem_of_mem_drop (List.mem_of_mem_take hc))
      | p t => trivial
    · exact turn_in hx os _ o m
end K74
end
section
set_option maxRecDepth 100000
set_option linter.unusedVariables false
set_option linter.unusedSimpArgs false
namespace K74
open TX
/-- what an edit leaves, sign by sign -/
inductive Im where | old (i : Nat) | new (c : Nat)
def encI : Im → W
  | .old i => .tup [.str [111, 108, 100], .int i]
  | .new c => .tup [.str [110, 101, 119], .str [c]]
/-- the items of a path, from a place on -/
def itm : List Op → Nat → List Im
  | [], _ => []
  | .k _ :: os, a => .old a :: itm os (a + 1)
  | .d _ :: os, a => itm os (a + 1)
  | .p t :: os, a => t.map .new ++ itm os a
/-- a path's words: one sign each -/
def Op.unit : Op → Prop
  | .k n => n = 1
  | .d n => n = 1
  | .p t => t.length = 1
end K74
end
section
set_option maxRecDepth 100000
set_option linter.unusedVariables false
set_option linter.unusedSimpArgs false
namespace K74
open TX
/-- the law's own telling: words, place, fresh signs, kept -/
structure LS where
  ws : List Op
  at_ : Nat
  fr : List Nat
  kp : Nat
def LS.step (n : Nat) (s : LS) : Im → LS
  | .new c => { s with fr := s.fr ++ [c] }
  | .old v => if s.at_ < v ∨ s.fr ≠ [] then ⟨s.ws ++ pend3 s.kp (v - s.at_) s.fr, v + 1, [], if v < n then 1 else 0⟩ else ⟨s.ws, v + 1, s.fr, s.kp + if v < n then 1 else 0⟩
def LS.end_ (s : LS) : List Op := s.ws ++ if s.kp = 0 then [] else [.k s.kp]
/-- the two tellings go along -/
theorem along {n : Nat} : ∀ (os : List Op) (a : Nat) (p : PS) (at_ : Nat), (∀ o ∈ os, o.unit) → at_ + p.dropped = a → a + sumO takenO os = n →
    ((itm os a ++ [Im.old n]).foldl (LS.step n) ⟨p.told, at_, p.fresh, p.kept⟩).end_ = (p.run os).all
  | [], a, p, at_, _, h, hn => by
    have hn' : a = n := by simpa [sumO] using hn
    subst hn'
    show (LS.step a ⟨p.told, at_, p.fresh, p.kept⟩ (.old a)).end_ = p.told ++ pend3 p.kept p.dropped p.fresh
    unfold LS.step
    simp only
    have hd : a - at_ = p.dropped := by omega
    split
    · rw [hd]; simp [LS.end_]
    · rename_i hn
      have h1 : p.dropped = 0 := by
        cases q : p.dropped with
        | zero => rfl
        | succ m => exact absurd (.inl (by omega)) hn
      have h2 : p.fresh = [] := by
        cases q : p.fresh with
        | nil => rfl
        | cons b r => exact absurd (.inr (by rw [q]; simp)) hn
      rw [h1, h2]
      simp [LS.end_, pend3]
  | .k m :: os, a, p, at_, hu, h, hn => by
    have hm : m = 1 := hu (.k m) List.mem_cons_self
    subst hm
    have e2 : sumO takenO (.k 1 :: os) = 1 + sumO takenO os := by simp [sumO, takenO]
    rw [e2] at hn
    rw [itm, List.cons_append, List.foldl_cons]
    have hu' : ∀ o ∈ os, o.unit := fun o ho => hu o (List.mem_cons_of_mem _ ho)
    have hd : a - at_ = p.dropped := by omega
    have e : p.run (.k 1 :: os) = (p.keep 1).run os := rfl
    rw [e]
    unfold PS.keep LS.step
    simp only
    have hlt : a < n := by omega
    by_cases ho : p.open
    · have ho' : at_ < a ∨ p.fresh ≠ [] := ho.elim (fun q => .inl (by omega)) .inr
      rw [if_pos ho, if_pos ho', hd, if_pos hlt]
      exact along os (a + 1) ⟨p.told ++ p.pend, 1, 0, []⟩ (a + 1) hu' rfl (by omega)
    · have ho' : ¬ (at_ < a ∨ p.fresh ≠ []) := fun q => ho (q.elim (fun q => .inl (by omega)) .inr)
      rw [if_neg ho, if_neg ho', if_pos hlt]
      have h1 : p.dropped = 0 := by
        cases q : p.dropped with
        | zero => rfl
        | succ m => exact absurd (.inl (by omega)) ho
      exact along os (a + 1) ⟨p.told, p.kept + 1, p.dropped, p.fresh⟩ (a + 1) hu' (by simp only; omega) (by omega)
  | .d m :: os, a, p, at_, hu, h, hn => by
    have hm : m = 1 := hu (.d m) List.mem_cons_self
    subst hm
    have e2 : sumO takenO (.d 1 :: os) = 1 + sumO takenO os := by simp [sumO, takenO]
    rw [e2] at hn
    rw [itm]
    exact along os (a + 1) (p.drop 1) at_ (fun o ho => hu o (List.mem_cons_of_mem _ ho)) (by simp only [PS.drop]; omega) (by omega)
  | .p t :: os, a, p, at_, hu, h, hn => by
    have hm : t.length = 1 := hu (.p t) List.mem_cons_self
    obtain ⟨c, rfl⟩ := List.length_eq_one_iff.mp hm
    have e2 : sumO takenO (.p [c] :: os) = sumO takenO os := by simp [sumO, takenO]
    rw [e2] at hn
    rw [itm]
    exact along os a (p.put [c]) at_ (fun o ho => hu o (List.mem_cons_of_mem _ ho)) h hn
end K74
end
section
set_option maxRecDepth 100000
set_option linter.unusedVariables false
set_option linter.unusedSimpArgs false
namespace K74
open TX
structure LS.sm (s : LS) (t : Nat) : Prop where
  w : s.ws.length ≤ 3 * t
  f : s.fr.length ≤ t
  k : s.kp ≤ t
theorem lstep_sm {n t : Nat} {s : LS} (h : s.sm t) (i : Im) : (s.step n i).sm (t + 1) := by
  obtain ⟨a, b, c⟩ := h
  cases i with
  | new x => exact ⟨by simp only [LS.step]; omega, by simp only [LS.step, List.length_append, List.length_cons, List.length_nil]; omega, by simp only [LS.step]; omega⟩
  | old v =>
    unfold LS.step
    simp only
    split
    · refine ⟨?_, by simp, by simp only; split <;> omega⟩
      have := pend_len s.kp (v - s.at_) s.fr
      simp only [List.length_append]
      omega
    · exact ⟨by simp only; omega, by simp only; omega, by simp only; split <;> omega⟩
/-- two lists put together -/
theorem b_cat {h : Hp} {a b : Nat} {xs ys : List W} (e1 : h.get a = some (.lst xs)) (e2 : h.get b = some (.lst ys)) (hl : xs.length + ys.length ≤ 100000) : binop .add (.obj a) (.obj b) h = some (.obj h.n, h.new (.lst (xs ++ ys))) := by
  simp only [binop, e1, e2]
  rw [if_pos (Nat.le_trans hl (by decide))]
def LW (wn : Nat) (ws : List Op) (h : Hp) : Prop := h.get wn = some (.lst (ws.map enc)) ∧ wn < h.n
theorem LW.ext {wn : Nat} {ws : List Op} {h h' : Hp} (l : LW wn ws h) (x : Ext h h') : LW wn ws h' := ⟨(x.get wn l.2).trans l.1, Nat.lt_of_lt_of_le l.2 x.le⟩
/-- a piece made -/
def Pc (c0 : Cf) (e : E) (τ : Sl) (h : Hp) (ad : List Op) : Prop := ∀ Q : W → Hp → Prop, (∀ h2 b, LW b ad h2 → Ext h h2 → Q (.obj b) h2) → Wp (evE c0 e τ h) Q
theorem pc_var {c0 : Cf} {τ : Sl} {h : Hp} {i wn : Nat} {ws : List Op} (t : τ[i]? = some (some (.obj wn))) (l : LW wn ws h) : Pc c0 (.var i) τ h ws := fun Q hq => by
  rw [evE_var, t]
  exact hq h wn l .refl
theorem pc_cat {c0 : Cf} {τ : Sl} {h : Hp} {a b : E} {x y : List Op} (ha : Pc c0 a τ h x) (hb : ∀ h2, Ext h h2 → Pc c0 b τ h2 y) (hl : x.length + y.length ≤ 100000) : Pc c0 (.bin .add a b) τ h (x ++ y) := fun Q hq => by
  rw [evE_bin, wp_b]
  refine ha _ fun h2 b1 l1 x1 => ?_
  rw [wp_b]
  refine hb h2 x1 _ fun h3 b2 l2 x2 => ?_
  rw [b_cat (l1.ext x2).1 l2.1 (by rw [List.length_map, List.length_map]; exact hl), lf_some, wp_ok]
  refine hq _ _ ⟨by rw [get_new_self, List.map_append], by rw [Hp.n_new]; omega⟩ (x1.trans (x2.trans (.new _)))
theorem pc_ite {c0 : Cf} {τ : Sl} {h : Hp} {d e : E} {w : W} {o : Op} {p : Prop} [Decidable p] (hw : enc o = w) (hd : ∀ Q : W → Hp → Prop, Q (.bl (decide p)) h → Wp (evE c0 d τ h) Q) (he : p → ∀ Q : W → Hp → Prop, Q w h → Wp (evE c0 e τ h) Q) : Pc c0 (.ite d (.lst (.cons e .nil)) (.lst .nil)) τ h (if p then [o] else []) := fun Q hq => by
  rw [wp_ite]
  refine hd _ ?_
  rw [tru_bl]
  refine br_d (fun hp => ?_) (fun hp => ?_)
  · rw [evE_lst, evEs_cons, wp_b, wp_b]
    refine he hp _ ?_
    simp [LIM]
    refine hq _ _ ⟨?_, by rw [Hp.n_new]; omega⟩ (.new _)
    rw [get_new_self, if_pos hp, ← hw]; rfl
  · rw [evE_lst, evEs_nil]
    simp [LIM]
    refine hq _ _ ⟨?_, by rw [Hp.n_new]; omega⟩ (.new _)
    rw [get_new_self, if_neg hp]; rfl
end K74
end
section
set_option maxRecDepth 100000
set_option linter.unusedVariables false
set_option linter.unusedSimpArgs false
namespace K74
open TX
theorem wp_or2 {c0 : Cf} {τ : Sl} {h : Hp} {d e : E} {p q : Prop} [Decidable p] [Decidable q] {A B : Prop} (hd : ∀ Q : W → Hp → Prop, Q (.bl (decide p)) h → Wp (evE c0 d τ h) Q) (he : ∀ Q : W → Hp → Prop, Q (.bl (decide q)) h → Wp (evE c0 e τ h) Q) (a : p ∨ q → A) (b : ¬ (p ∨ q) → B) (C : Bool → Hp → Prop) (hc : ∀ t, (t = true → A) → (t = false → B) → C t h) : Wp (evE c0 (.or d e) τ h) fun x h' => ∃ t, x = .bl t ∧ C t h' := by
  rw [wp_or]
  refine hd _ ?_
  rw [tru_bl]
  refine br_d (fun hp => ?_) (fun hp => ?_)
  · exact ⟨_, rfl, hc _ (fun _ => a (.inl hp)) (fun q => by simp [hp] at q)⟩
  · refine he _ ?_
    exact ⟨_, rfl, hc _ (fun q => a (.inr (by simpa using q))) (fun q => b (by simp at q; exact fun r => r.elim hp q))⟩
/-- the words that a state holds at its end -/
theorem pc_k {c0 : Cf} {τ : Sl} {h : Hp} {kp : Nat} (t5 : τ[5]? = some (some (.int (kp : Nat)))) (hk : kp ≤ 1000) : Pc c0 (.ite (.cmp .gt (.var 5) (.cst (.int 0))) (.lst (.cons (.bin .add (.cst (.str [107])) (.bfn .str (.cons (.var 5) .nil))) .nil)) (.lst .nil)) τ h (if 0 < (kp : Int) then [.k kp] else []) := by
  refine pc_ite (o := .k kp) rfl (fun Q q => ?_) (fun hp Q q => ?_)
  · simp [t5]; simpa using q
  · have hl : (digs kp).length ≤ 4 := by
      by_cases e : kp < 1000
      · have := digs_len e; omega
      · have : kp = 1000 := by omega
        subst this; decide
    simp [t5, f_str (show kp < 100000 by omega)]
    rw [b_addS (by simp; exact Nat.le_trans (show _ ≤ 5 by omega) (by decide))]
    simp
    exact q
theorem told26_ok {F k n : Nat} {h : Hp} {its : List Im} {m : Nat} (e : h.get n = some (.lst (its.map encI))) (hn : n < h.n) (hl : its.length ≤ 200) (hm : m ≤ 900) (hv : ∀ v, Im.old v ∈ its → v ≤ 900) :
    Pu (run src.pg F (k + 2) 30 [.obj n, .int (m : Nat)] h) (.tup ((((its ++ [Im.old m]).foldl (LS.step m) ⟨[], 0, [], 0⟩).end_).map enc)) h := by
  unfold Pu
  obtain ⟨L, eLL⟩ : ∃ L, its ++ [Im.old m] = L := ⟨_, rfl⟩
  rw [eLL]
  rw [run_s src (d := d30) rfl rfl, show d30.body = _ from t30, wp_fin]
  show WpS (evSs _ _ [some (.obj n), some (.int (m : Nat)), none, none, none, none, none, none] h) _
  rw [wpS_cons]
  simp [LIM, seq_tup]
  have X0 : Ext h (h.new (.lst [])) := .new _
  have g0 : LW h.n [] (h.new (.lst [])) := ⟨get_new_self, by rw [Hp.n_new]; omega⟩
  generalize h.new (.lst []) = h1 at *
  rw [wpS_cons]
  simp [LIM, seq_tup]
  have X1 : Ext h1 (h1.new (.lst [.tup [.str [111, 108, 100], .int (m : Nat)]])) := .new _
  have e1 : (h1.new (.lst [.tup [.str [111, 108, 100], .int (m : Nat)]])).get n = some (.lst (its.map encI)) := ((X0.trans X1).get n hn).trans e
  have e2 : (h1.new (.lst [.tup [.str [111, 108, 100], .int (m : Nat)]])).get h1.n = some (.lst [.tup [.str [111, 108, 100], .int (m : Nat)]]) := get_new_self
  generalize h1.new (.lst [.tup [.str [111, 108, 100], .int (m : Nat)]]) = h2 at *
  rw [b_cat e1 e2 (by simp; omega)]
  have eL : its.map encI ++ [.tup [.str [111, 108, 100], .int (m : Nat)]] = (its ++ [Im.old m]).map encI := by simp [encI]
  rw [eL, eLL]
  have hv' : ∀ v, Im.old v ∈ its ++ [Im.old m] → v ≤ 900 := fun v hm' => by
    rcases List.mem_append.mp hm' with q | q
    · exact hv v q
    · simp at q; omega
  have hlL : (its ++ [Im.old m]).length ≤ 201 := by simp; omega
  rw [eLL] at hv' hlL eL
  have X2 : Ext h2 (h2.new (.lst (L.map encI))) := .new _
  have g2 : (h2.new (.lst (L.map encI))).get h2.n = some (.lst (L.map encI)) := get_new_self
  have n2 : h2.n < (h2.new (.lst (L.map encI))).n := by rw [Hp.n_new]; omega
  have XA : Ext h (h2.new (.lst (L.map encI))) := X0.trans (X1.trans X2)
  have gA : LW h.n [] (h2.new (.lst (L.map encI))) := g0.ext (X1.trans X2)
  simp [w_lst g2 (show (L.map encI).length ≤ LIM by rw [List.length_map]; exact Nat.le_trans hlL (by decide))]
  generalize h2.new (.lst (L.map encI)) = hL at *
  refine wp_forQL (xs := L.map encI) (fun i τ h' => ∃ a b wn s, τ = [some (.obj n), some (.int (m : Nat)), some (.obj wn), some (.int (s.at_ : Nat)), some (.str s.fr), some (.int (s.kp : Nat)), a, b] ∧ s = (L.take i).foldl (LS.step m) ⟨[], 0, [], 0⟩ ∧ s.sm i ∧ s.at_ ≤ 901 ∧ LW wn s.ws h' ∧ Ext hL h') g2 ⟨_, _, _, ⟨[], 0, [], 0⟩, rfl, rfl, ⟨by simp, by simp, by simp⟩, by simp, gA, .refl⟩ (fun i τ h' ⟨_, _, _, _, _, _, _, _, _, X⟩ => (X.get _ n2).trans g2) (fun i x τ h' e q => ?_) (fun τ h' q => ?_)
  · obtain ⟨a, b, wn, s, rfl, es, sm, sa, lw, X⟩ := q
    have hi := (List.getElem?_eq_some_iff.mp e).1
    rw [List.length_map] at hi
    rw [List.getElem?_map] at e
    have e' : L[i]? = some L[i] := List.getElem?_eq_getElem hi
    rw [e'] at e
    simp at e
    subst e
    have hmem : L[i] ∈ L := List.getElem_mem hi
    have es' : s.step m L[i] = (L.take (i + 1)).foldl (LS.step m) ⟨[], 0, [], 0⟩ := by
      rw [take_snoc e', List.foldl_append, ← es]; rfl
    have sm' := lstep_sm (n := m) sm L[i]
    generalize L[i] = it at *
    have hf : s.fr.length ≤ 201 := by have := sm.f; omega
    have hk : s.kp ≤ 201 := by have := sm.k; omega
    have hw : s.ws.length ≤ 603 := by have := sm.w; omega
    cases it with
    | new c =>
      simp [encI, seq_tup]
      rw [wpS_cons]
      simp
      rw [wpS_cons]
      simp
      rw [b_addS (by simp; exact Nat.le_trans (show _ ≤ 202 by omega) (by decide))]
      simp
      rw [wpS_cons]
      simp
      exact ⟨_, _, wn, s.step m (.new c), ⟨rfl, rfl, rfl, rfl, rfl, rfl⟩, es', sm', sa, lw, X⟩
    | old v =>
      have hv1 := hv' v hmem
      simp only [encI, evT_tp, seq_tup]
      simp
      rw [wpS_cons]
      simp
      rw [wpS_cons, wpS_iff]
      have tail : ∀ (D : Fl → Hp → Prop) (s' : LS) (w' : Nat) (h3 : Hp), LW w' s'.ws h3 → Ext hL h3 → s.step m (.old v) = ⟨s'.ws, v + 1, s'.fr, s'.kp + if v < m then 1 else 0⟩ → WpS (evSs ⟨src.pg, F, run src.pg F (k + 1), run src.pg F k, lamOf src.pg F k⟩ (.cons (.asg (.tp (.cons (.nm 5) (.cons (.nm 3) .nil))) (.tup (.cons (.bin .add (.var 5) (.ite (.cmp .lt (.var 7) (.var 1)) (.cst (.int 1)) (.cst (.int 0)))) (.cons (.bin .add (.var 7) (.cst (.int 1))) .nil)))) .nil) [some (.obj n), some (.int (m : Nat)), some (.obj w'), some (.int (s.at_ : Nat)), some (.str s'.fr), some (.int (s'.kp : Nat)), some (.str [111, 108, 100]), some (.int (v : Nat))] h3) (trn (fun τ h' => ∃ a b wn s, τ = [some (.obj n), some (.int (m : Nat)), some (.obj wn), some (.int (s.at_ : Nat)), some (.str s.fr), some (.int (s.kp : Nat)), a, b] ∧ s = (L.take (i + 1)).foldl (LS.step m) ⟨[], 0, [], 0⟩ ∧ s.sm (i + 1) ∧ s.at_ ≤ 901 ∧ LW wn s.ws h' ∧ Ext hL h') D) := fun D s' w' h3 l3 x3 es3 => by
        rw [wpS_cons]
        simp
        rw [es3] at es' sm'
        refine br_d (fun hq => ?_) (fun hq => ?_)
        · rw [if_pos (by omega)] at es' sm'
          simp [LIM, seq_tup]
          exact ⟨_, _, w', ⟨s'.ws, v + 1, s'.fr, s'.kp + 1⟩, ⟨rfl, rfl, rfl, rfl, rfl, rfl⟩, es', sm', by simp only; omega, l3, x3⟩
        · rw [if_neg (by omega)] at es' sm'
          simp [LIM, seq_tup]
          exact ⟨_, _, w', ⟨s'.ws, v + 1, s'.fr, s'.kp + 0⟩, ⟨rfl, by simp, by simp, rfl, rfl, rfl⟩, es', sm', by simp only; omega, l3, x3⟩
      have eo : s.step m (.old v) = if s.at_ < v ∨ s.fr ≠ [] then ⟨s.ws ++ pend3 s.kp (v - s.at_) s.fr, v + 1, [], if v < m then 1 else 0⟩ else ⟨s.ws, v + 1, s.fr, s.kp + if v < m then 1 else 0⟩ := rfl
      have go : (s.at_ < v ∨ s.fr ≠ []) → WpS (evSs ⟨src.pg, F, run src.pg F (k + 1), run src.pg F k, lamOf src.pg F k⟩ (.cons (.asg (.nm 2) (.bin .add (.var 2) (.ite (.cmp .gt (.var 5) (.cst (.int 0))) (.lst (.cons (.bin .add (.cst (.str [107])) (.bfn .str (.cons (.var 5) .nil))) .nil)) (.lst .nil)))) (.cons (.asg (.nm 2) (.bin .add (.bin .add (.var 2) (.ite (.cmp .gt (.var 7) (.var 3)) (.lst (.cons (.bin .add (.cst (.str [100])) (.bfn .str (.cons (.bin .sub (.var 7) (.var 3)) .nil))) .nil)) (.lst .nil))) (.ite (.cmp .ne (.var 4) (.cst (.str []))) (.lst (.cons (.bin .add (.cst (.str [112])) (.var 4)) .nil)) (.lst .nil)))) (.cons (.asg (.tp (.cons (.nm 4) (.cons (.nm 5) .nil))) (.tup (.cons (.cst (.str [])) (.cons (.cst (.int 0)) .nil)))) .nil))) [some (.obj n), some (.int (m : Nat)), some (.obj wn), some (.int (s.at_ : Nat)), some (.str s.fr), some (.int (s.kp : Nat)), some (.str [111, 108, 100]), some (.int (v : Nat))] h') (fun f h3 => ∃ w3, LW w3 (s.ws ++ pend3 s.kp (v - s.at_) s.fr) h3 ∧ Ext hL h3 ∧ f = .nx [some (.obj n), some (.int (m : Nat)), some (.obj w3), some (.int (s.at_ : Nat)), some (.str []), some (.int 0), some (.str [111, 108, 100]), some (.int (v : Nat))]) := fun hop => by
        rw [wpS_cons, evS_asg, wpS_s]
        refine pc_cat (pc_var rfl lw) (fun h2 x2 => pc_k rfl (by omega)) (by split <;> simp <;> omega) _ fun h3 b3 l3 x3 => ?_
        simp
        rw [wpS_cons, evS_asg, wpS_s]
        have hl3 : (s.ws ++ if 0 < (s.kp : Int) then [Op.k s.kp] else []).length ≤ 604 := by split <;> simp <;> omega
        refine pc_cat (y := if s.fr ≠ [] then [.p s.fr] else []) (pc_cat (y := if s.at_ < v then [.d (v - s.at_)] else []) (pc_var rfl l3) (fun h4 x4 => pc_ite (o := .d (v - s.at_)) rfl (fun Q q => ?_) (fun hp Q q => ?_)) ?_) (fun h4 x4 => pc_ite (o := .p s.fr) rfl (fun Q q => ?_) (fun hp Q q => ?_)) ?_ _ fun h5 b5 l5 x5 => ?_
        · simp; exact q
        · have hd : ((v : Int) - s.at_) = ((v - s.at_ : Nat) : Int) := by omega
          have hdl : (digs (v - s.at_)).length ≤ 3 := digs_len (by omega)
          simp [hd, f_str (show v - s.at_ < 100000 by omega)]
          rw [b_addS (by simp; exact Nat.le_trans (show _ ≤ 4 by omega) (by decide))]
          simp
          exact q
        · have : ∀ (a : List Op), a.length ≤ 1 → (s.ws ++ if 0 < (s.kp : Int) then [Op.k s.kp] else []).length + a.length ≤ 100000 := fun a ha => by omega
          exact this _ (by split <;> simp)
        · simp; simpa using q
        · simp
          rw [b_addS (by simp; exact Nat.le_trans (show _ ≤ 202 by omega) (by decide))]
          simp
          exact q
        · have : ∀ (a b : List Op), a.length ≤ 1 → b.length ≤ 1 → ((s.ws ++ if 0 < (s.kp : Int) then [Op.k s.kp] else []) ++ a).length + b.length ≤ 100000 := fun a b ha hb => by rw [List.length_append]; omega
          exact this _ _ (by split <;> simp) (by split <;> simp)
        · simp
          rw [wpS_cons]
          simp [LIM, seq_tup]
          refine ⟨?_, x5 |> fun x => X.trans (x3.trans x)⟩
          have e7 : s.ws ++ pend3 s.kp (v - s.at_) s.fr = (((s.ws ++ if 0 < (s.kp : Int) then [Op.k s.kp] else []) ++ if s.at_ < v then [Op.d (v - s.at_)] else []) ++ if s.fr ≠ [] then [Op.p s.fr] else []) := by
            unfold pend3
            simp only [List.append_assoc]
            congr 1
            congr 1
            · by_cases q : s.kp = 0
              · rw [if_pos q, if_neg (by omega)]
              · rw [if_neg q, if_pos (by omega)]
            · congr 1
              · by_cases q : v - s.at_ = 0
                · rw [if_pos q, if_neg (by omega)]
                · rw [if_neg q, if_pos (by omega)]
              · by_cases q : s.fr = []
                · rw [if_pos q, if_neg (fun z => z q)]
                · rw [if_neg q, if_pos q]
          rw [e7]; exact l5
      simp
      have gone : ∀ (D : Fl → Hp → Prop) (q : s.at_ < v ∨ s.fr ≠ []), _ := fun D q => (go q).imp (D' := nxt (fun τ h => WpS (evSs ⟨src.pg, F, run src.pg F (k + 1), run src.pg F k, lamOf src.pg F k⟩ (.cons (.asg (.tp (.cons (.nm 5) (.cons (.nm 3) .nil))) (.tup (.cons (.bin .add (.var 5) (.ite (.cmp .lt (.var 7) (.var 1)) (.cst (.int 1)) (.cst (.int 0)))) (.cons (.bin .add (.var 7) (.cst (.int 1))) .nil)))) .nil) τ h) (trn (fun τ h' => ∃ a b wn s, τ = [some (.obj n), some (.int (m : Nat)), some (.obj wn), some (.int (s.at_ : Nat)), some (.str s.fr), some (.int (s.kp : Nat)), a, b] ∧ s = (L.take (i + 1)).foldl (LS.step m) ⟨[], 0, [], 0⟩ ∧ s.sm (i + 1) ∧ s.at_ ≤ 901 ∧ LW wn s.ws h' ∧ Ext hL h') D)) (trn (fun τ h' => ∃ a b wn s, τ = [some (.obj n), some (.int (m : Nat)), some (.obj wn), some (.int (s.at_ : Nat)), some (.str s.fr), some (.int (s.kp : Nat)), a, b] ∧ s = (L.take (i + 1)).foldl (LS.step m) ⟨[], 0, [], 0⟩ ∧ s.sm (i + 1) ∧ s.at_ ≤ 901 ∧ LW wn s.ws h' ∧ Ext hL h') D)) fun f h3 ⟨w3, l3, x3, ef⟩ => by
        subst ef
        exact tail D ⟨s.ws ++ pend3 s.kp (v - s.at_) s.fr, 0, [], 0⟩ w3 h3 l3 x3 (by rw [eo, if_pos q]; simp)
      refine br_d (fun q => ?_) (fun q => ?_)
      · rw [decide_eq_true q]
        exact gone _ (.inl q)
      · refine br_n (fun q2 => ?_) (fun q2 => ?_)
        · exact gone _ (.inr q2)
        · exact tail _ s wn h' lw X (by rw [eo, if_neg (fun z => z.elim q (fun z => z q2))])
  · obtain ⟨a, b, wn, s, rfl, es, sm, sa, lw, X⟩ := q
    rw [List.length_map, List.take_length] at es
    rw [List.length_map] at sm
    simp
    rw [wpS_cons]
    simp only [evS_ret, wpS_s]
    rw [evE_bfn, wp_b, evEs_cons, wp_b]
    have hw : s.ws.length ≤ 603 := by have := sm.w; omega
    have hk : s.kp ≤ 201 := by have := sm.k; omega
    refine pc_cat (pc_var rfl lw) (fun h2 x2 => pc_k rfl (by omega)) (by split <;> simp <;> omega) _ fun h3 b3 l3 x3 => ?_
    have tp : bfn .tuple [.obj b3] h3 = some (.tup ((s.ws ++ if 0 < (s.kp : Int) then [Op.k s.kp] else []).map enc), h3) := by simp only [bfn, seq?, Hp.lst_of l3.1]
    rw [evEs_nil, wp_b, wp_ok, wp_ok, tp]
    have e8 : (s.ws ++ if 0 < (s.kp : Int) then [Op.k s.kp] else []) = s.end_ := by
      unfold LS.end_
      by_cases q : s.kp = 0
      · rw [if_pos q, if_neg (by omega)]
      · rw [if_neg q, if_pos (by omega)]
    rw [e8, es]
    exact ⟨rfl, XA.trans (X.trans x3)⟩
end K74
end
section
set_option maxRecDepth 100000
set_option linter.unusedVariables false
set_option linter.unusedSimpArgs false
namespace K74
open TX
theorem Pen.set {p q : Nat} {B : Int} {h : Hp} (P : Pen p B h) (hq : p < q) (o : Ob) : Pen p B (h.set q o) := by
  obtain ⟨c, a, dg, cn, fo, ns, e1, e2, h1, h2, h3, h4, h5, h6, h7, h8, h9⟩ := P
  exact ⟨c, a, dg, cn, fo, ns, by rw [Hp.get_set, if_neg (by omega)]; exact e1, by rw [Hp.get_set, if_neg (by omega)]; exact e2, h1, h2, h3, h4, h5, h6, h7, h8, h9⟩
theorem Pen.ex {p : Nat} {B : Int} {h h' : Hp} (P : Pen p B h) (X : Ext h h') : Pen p B h' := by
  obtain ⟨c, a, dg, cn, fo, ns, e1, e2, h1, h2, h3, h4, h5, h6, h7, h8, h9⟩ := P
  exact ⟨c, a, dg, cn, fo, ns, (X.get p h1).trans e1, (X.get c h2).trans e2, Nat.lt_of_lt_of_le h1 X.le, Nat.lt_of_lt_of_le h2 X.le, h3, h4, h5, h6, h7, h8, h9⟩
theorem ExtP.set {p : Nat} {h h' : Hp} (a : ExtP p h h') {i : Nat} (hi : h.n ≤ i) (o : Ob) : ExtP p h (h'.set i o) := ⟨a.le, fun j hj hp => by rw [Hp.get_set, if_neg (by omega)]; exact a.get j hj hp⟩
theorem f_tupL {h : Hp} {n : Nat} {xs : List W} (e : h.get n = some (.lst xs)) : bfn .tuple [.obj n] h = some (.tup xs, h) := by simp only [bfn, seq?, Hp.lst_of e]
theorem cut_all {α : Type} {xs : List α} {n : Nat} (h : xs.length ≤ n) : cutL xs none (some (n : Int)) = xs := by
  unfold cutL
  have e2 : sIx xs.length xs.length (some (n : Int)) = xs.length := by
    simp only [sIx]
    rw [if_neg (by omega)]
    omega
  rw [e2]
  simp [sIx]
theorem digs4 {n : Nat} (hn : n < 1000) : (digs n).length ≤ 3 := digs_len hn
def SE (p : Nat) (s : List Nat) (m : Nat) (h : Hp) (B : Int) (t : Nat) (τ : Sl) (h' : Hp) : Prop := ∃ a b d, ∃ at_ : Nat, ∃ os : List Op, τ = [some (.obj p), some (.str s), some (.int (m : Nat)), a, some (.obj h.n), some (.int (at_ : Nat)), b, d] ∧ at_ ≤ m ∧ (t ≤ at_ ∨ at_ = m) ∧ (∀ o ∈ os, o.ok s) ∧ sumO takenO os = at_ ∧ os.length ≤ 2 * t ∧ sumO sizeO os ≤ at_ + 2 * os.length ∧ h'.get h.n = some (.lst (os.map enc)) ∧ Pen p (B + 10 * t) h' ∧ ExtP p h h' ∧ h.n < h'.n
theorem some_edit_ok {F K p : Nat} {B : Int} {h : Hp} {s : List Nat} {m : Nat} (hK : 4 ≤ K) (P : Pen p B h) (h1 : s ≠ []) (h2' : s.length ≤ 1000) (hm : m ≤ 20) (hB : B < 2 ^ 39) :
    Wp (run src.pg F K 32 [.obj p, .str s, .int (m : Nat)] h) fun w h' => ∃ os, w = .tup (os.map enc) ∧ (∀ o ∈ os, o.ok s) ∧ sumO takenO os = m ∧ os.length ≤ 20 ∧ sumO sizeO os ≤ m + 2 * os.length ∧ Pen p (B + 1000) h' ∧ ExtP p h h' := by
  obtain ⟨k, rfl⟩ : ∃ k, K = k + 4 := ⟨K - 4, by omega⟩
  rw [run_s src (d := d32) rfl rfl, show d32.body = _ from t32, wp_fin]
  show WpS (evSs _ _ [some (.obj p), some (.str s), some (.int (m : Nat)), none, none, none, none, none] h) _
  rw [wpS_cons]
  simp [LIM, seq_tup]
  have X0 : ExtP p h (h.new (.lst [])) := .of (.new _)
  have P0 : Pen p B (h.new (.lst [])) := P.new _
  have g0 : (h.new (.lst [])).get h.n = some (.lst (([] : List Op).map enc)) := get_new_self
  have n0 : h.n < (h.new (.lst [])).n := by rw [Hp.n_new]; omega
  have hp := P.lt
  generalize h.new (.lst []) = hA at *
  rw [wpS_cons]
  simp
  rw [b_mulI (by rw [show okI 2 = true by decide]; simp)]
  simp
  rw [rng1 (by omega) (by omega)]
  simp
  rw [show (2 * (m : Int) + 3).toNat = 2 * m + 3 by omega]
  have tail : ∀ (a b d : Option W) (os : List Op) (h' : Hp), (∀ o ∈ os, o.ok s) → sumO takenO os = m → os.length ≤ 2 * (2 * m + 3) → sumO sizeO os ≤ m + 2 * os.length → h'.get h.n = some (.lst (os.map enc)) → Pen p (B + 1000) h' → ExtP p h h' → h.n < h'.n →
      WpS (evSs ⟨src.pg, F, run src.pg F (k + 3), run src.pg F (k + 2), lamOf src.pg F (k + 2)⟩ (.cons (.ret (.ite (.cmp .lt (.bfn .len (.cons (.var 4) .nil)) (.cst (.int 21))) (.bfn .tuple (.cons (.sl (.var 4) .non (.som (.cst (.int 20)))) .nil)) (.bfn .tuple (.cons (.ite (.cmp .gt (.var 2) (.cst (.int 0))) (.lst (.cons (.bin .add (.cst (.str [107])) (.bfn .str (.cons (.var 2) .nil))) .nil)) (.lst .nil)) .nil)))) .nil) [some (.obj p), some (.str s), some (.int (m : Nat)), a, some (.obj h.n), some (.int (m : Nat)), b, d] h') (fnl fun w h' => ∃ os, w = .tup (os.map enc) ∧ (∀ o ∈ os, o.ok s) ∧ sumO takenO os = m ∧ os.length ≤ 20 ∧ sumO sizeO os ≤ m + 2 * os.length ∧ Pen p (B + 1000) h' ∧ ExtP p h h') := fun a b d os h' ho hs hl hz gl P X nl => by
    rw [wpS_cons]
    simp [f_lenL gl]
    refine br_d (fun hq => ?_) (fun hq => ?_)
    · have e20 : (os.map enc).length ≤ 20 := by simp; omega
      have gs : getsl (.obj h.n) none (some 20) h' = some (.obj h'.n, h'.new (.lst (os.map enc))) := by
        simp only [getsl, Hp.lst_of gl]
        rw [show (20 : Int) = ((20 : Nat) : Int) by rfl, cut_all e20]
      simp [gs, f_tupL get_new_self]
      exact ⟨os, rfl, ho, hs, by simpa using e20, hz, P.new _, X.trans (.of (.new _))⟩
    · by_cases hm0 : 0 < m
      · simp [hm0, f_str (show m < 100000 by omega), b_addS (x := [107]) (y := digs m) (Nat.le_trans (show 1 + (digs m).length ≤ 4 by have := digs4 (show m < 1000 by omega); omega) (by decide)), LIM, f_tupL get_new_self]
        exact ⟨[.k m], rfl, by simp [Op.ok]; omega, by simp [sumO, takenO], by simp, by simp [sumO, sizeO], P.new _, X.trans (.of (.new _))⟩
      · simp [hm0, LIM, f_tupL get_new_self]
        exact ⟨by simp [sumO]; omega, by simp [sumO], P.new _, X.trans (.of (.new _))⟩
  refine wp_forQS (SE p s m h B) ⟨_, _, _, 0, [], rfl, Nat.zero_le _, .inl (Nat.le_refl _), by simp, by simp [sumO], by simp, by simp [sumO], g0, by simpa using P0, X0, n0⟩ (fun t y τ h' e q => ?_) (fun τ h' q => ?_)
  · obtain ⟨a, b, d, at_, os, rfl, hat, hta, ho, hs, hl, hz, gl, P1, X1, nl⟩ := q
    have hlt : t < 2 * m + 3 := by
      have := (List.getElem?_eq_some_iff.mp e).1
      rw [rngL_len] at this; exact this
    simp only [evT_nm, wpS_s, wp_ok]
    have rest : ∀ (os : List Op) (h2 : Hp), (∀ o ∈ os, o.ok s) → sumO takenO os = at_ → os.length ≤ 2 * t + 1 → sumO sizeO os ≤ at_ + 2 * os.length → h2.get h.n = some (.lst (os.map enc)) → Pen p (B + 10 * t + 4) h2 → ExtP p h h2 → h.n < h2.n →
        WpS (evSs ⟨src.pg, F, run src.pg F (k + 3), run src.pg F (k + 2), lamOf src.pg F (k + 2)⟩ (.cons (.iff (.cmp .lt (.var 5) (.var 2)) (.cons (.asg (.nm 6) (.bin .add (.cst (.int 1)) (.cal 26 (.cons (.var 0) (.cons (.bfn .min (.cons (.cst (.int 3)) (.cons (.bin .sub (.var 2) (.var 5)) .nil))) .nil))))) (.cons (.exp (.mth (.var 4) 0 (.cons (.bin .add (.cal 27 (.cons (.var 0) (.cons (.lst (.cons (.cst (.str [107])) (.cons (.cst (.str [107])) (.cons (.cst (.str [100])) .nil)))) .nil))) (.bfn .str (.cons (.var 6) .nil))) .nil))) (.cons (.asg (.nm 5) (.bin .add (.var 5) (.var 6))) .nil))) (.cons (.iff (.cmp .eq (.cal 26 (.cons (.var 0) (.cons (.cst (.int 2)) .nil))) (.cst (.int 0))) (.cons .brk .nil) .nil) .nil)) .nil) [some (.obj p), some (.str s), some (.int (m : Nat)), some y, some (.obj h.n), some (.int (at_ : Nat)), b, d] h2)
          (trn (SE p s m h B (t + 1))
            (nxt (fun τ hh => WpS (evSs ⟨src.pg, F, run src.pg F (k + 3), run src.pg F (k + 2), lamOf src.pg F (k + 2)⟩ (.cons (.ret (.ite (.cmp .lt (.bfn .len (.cons (.var 4) .nil)) (.cst (.int 21))) (.bfn .tuple (.cons (.sl (.var 4) .non (.som (.cst (.int 20)))) .nil)) (.bfn .tuple (.cons (.ite (.cmp .gt (.var 2) (.cst (.int 0))) (.lst (.cons (.bin .add (.cst (.str [107])) (.bfn .str (.cons (.var 2) .nil))) .nil)) (.lst .nil)) .nil)))) .nil) τ hh) (fnl fun w h' => ∃ os, w = .tup (os.map enc) ∧ (∀ o ∈ os, o.ok s) ∧ sumO takenO os = m ∧ os.length ≤ 20 ∧ sumO sizeO os ≤ m + 2 * os.length ∧ Pen p (B + 1000) h' ∧ ExtP p h h')) (fnl fun w h' => ∃ os, w = .tup (os.map enc) ∧ (∀ o ∈ os, o.ok s) ∧ sumO takenO os = m ∧ os.length ≤ 20 ∧ sumO sizeO os ≤ m + 2 * os.length ∧ Pen p (B + 1000) h' ∧ ExtP p h h'))) := fun os h2 ho hs hl hz gl P2 X2 nl => by
      rw [wpS_cons]
      simp
      refine br_d (fun hq => ?_) (fun hq => ?_)
      · rw [wpS_cons]
        simp
        refine (draw_ok (k := k + 1) P2 (m := if (m : Int) - at_ < 3 then (m : Int) - at_ else 3) (by split <;> omega) (by split <;> omega) (by omega)).imp fun w h3 ⟨i, e1, i0, i1, P3, X3⟩ => ?_
        subst e1
        obtain ⟨n, rfl⟩ : ∃ n : Nat, i = n := ⟨i.toNat, by omega⟩
        have hn : n < 3 ∧ at_ + 1 + n ≤ m := by split at i1 <;> omega
        simp
        rw [wpS_cons]
        have g3 : h3.get h.n = some (.lst (os.map enc)) := (X3.get _ nl (by omega)).trans gl
        have mk : mkind src.pg h3 0 (.obj h.n) = .bt .lst := by simp only [mkind, g3]
        simp [mk, LIM]
        have nl3 : h.n < h3.n := Nat.lt_of_lt_of_le nl X3.le
        have P4 := P3.new (.lst [.str [107], .str [107], .str [100]])
        have X4 : ExtP p h3 (h3.new (.lst [.str [107], .str [107], .str [100]])) := .of (.new _)
        have g4 : (h3.new (.lst [.str [107], .str [107], .str [100]])).get h3.n = some (.lst [.str [107], .str [107], .str [100]]) := get_new_self
        have n4 : h3.n < (h3.new (.lst [.str [107], .str [107], .str [100]])).n := by rw [Hp.n_new]; omega
        generalize h3.new (.lst [.str [107], .str [107], .str [100]]) = h4 at *
        refine (pick_l (k := k) P4 g4 n4 (by have := P3.lt; omega) (by simp) (by simp) (by omega)).imp fun w h5 ⟨hw, P5, X5⟩ => ?_
        have g5 : h5.get h.n = some (.lst (os.map enc)) := (X5.get _ (by omega) (by omega)).trans ((X4.get _ nl3 (by omega)).trans g3)
        have X6 : ExtP p h h5 := X2.trans (X3.trans (X4.trans X5))
        have nl5 : h.n < h5.n := Nat.lt_of_lt_of_le nl3 (Nat.le_trans X4.le X5.le)
        have fin : ∀ (o : Op) (hk : o.ok s) (h1 : takenO o = n + 1) (h2 : sizeO o = n + 1) (x : Nat) (e : enc o = .str (x :: digs (n + 1))) (ew : w = .str [x]), _ := fun o hk h1 h2 x e ew => trivial
        have eo : ∃ o : Op, o.ok s ∧ takenO o = n + 1 ∧ sizeO o = n + 1 ∧ ∃ x, enc o = .str (x :: digs (n + 1)) ∧ w = .str [x] := by
          simp at hw
          rcases hw with rfl | rfl
          · exact ⟨.k (n + 1), ⟨by omega, by omega⟩, rfl, rfl, _, rfl, rfl⟩
          · exact ⟨.d (n + 1), ⟨by omega, by omega⟩, rfl, rfl, _, rfl, rfl⟩
        obtain ⟨o, hk, ht, hz2, x, ex, rfl⟩ := eo
        have hd3 := digs4 (show n + 1 < 1000 by omega)
        have bst : bfn .str [.int (1 + (n : Int))] h5 = some (.str (digs (n + 1)), h5) := by
          rw [show (1 : Int) + n = ((n + 1 : Nat) : Int) by omega]; exact f_str (by omega)
        have bap : bmeth .lst (.obj h.n) 0 [.str (x :: digs (n + 1))] h5 = some (.non, h5.set h.n (.lst ((os ++ [o]).map enc))) := by
          simp only [bmeth, g5]
          rw [if_pos (by rw [List.length_map]; exact Nat.lt_of_le_of_lt (show _ ≤ 200 by omega) (by decide))]
          simp [ex]
        have P7 := P5.set (q := h.n) (by omega) (.lst ((os ++ [o]).map enc))
        have X7 : ExtP p h (h5.set h.n (.lst ((os ++ [o]).map enc))) := X6.set (Nat.le_refl _) _
        have g7 : (h5.set h.n (.lst ((os ++ [o]).map enc))).get h.n = some (.lst ((os ++ [o]).map enc)) := by rw [Hp.get_set, if_pos rfl]
        have n7 : h.n < (h5.set h.n (.lst ((os ++ [o]).map enc))).n := nl5
        generalize h5.set h.n (.lst ((os ++ [o]).map enc)) = h7 at *
        simp [bst, b_addS (x := [x]) (y := digs (n + 1)) (Nat.le_trans (show 1 + (digs (n + 1)).length ≤ 4 by omega) (by decide)), bap]
        rw [wpS_cons]
        simp
        refine ⟨_, _, _, at_ + n + 1, os ++ [o], by rw [show ((at_ + n + 1 : Nat) : Int) = at_ + (1 + n) by omega], by omega, by omega, ?_, by rw [sumO_snoc, hs, ht]; omega, by simp; omega, by rw [sumO_snoc, hz2]; simp; omega, g7, P7.mono (by omega), X7, n7⟩
        intro o' ho'
        rcases List.mem_append.mp ho' with q | q
        · exact ho o' q
        · simp at q; subst q; exact hk
      · have hm' : at_ = m := by omega
        subst hm'
        rw [wpS_cons]
        simp
        refine (draw_ok (k := k + 1) P2 (m := 2) (by decide) (by decide) (by omega)).imp fun w h3 ⟨i, e1, i0, i1, P3, X3⟩ => ?_
        subst e1
        have g3 : h3.get h.n = some (.lst (os.map enc)) := (X3.get _ nl (by omega)).trans gl
        have nl3 : h.n < h3.n := Nat.lt_of_lt_of_le nl X3.le
        simp
        refine br_d (fun hq => ?_) (fun hq => ?_)
        · rw [wpS_cons]
          simp
          exact tail _ _ _ os h3 ho hs (by omega) hz g3 (P3.mono (by omega)) (X2.trans X3) nl3
        · exact ⟨_, _, _, at_, os, rfl, Nat.le_refl _, .inr rfl, ho, hs, by omega, hz, g3, P3.mono (by omega), X2.trans X3, nl3⟩
    show WpS (evSs _ _ [some (.obj p), some (.str s), some (.int (m : Nat)), some y, some (.obj h.n), some (.int (at_ : Nat)), b, d] h') _
    rw [wpS_cons]
    simp
    refine (draw_ok (k := k + 1) P1 (m := 3) (by decide) (by decide) (by omega)).imp fun w h2 ⟨i, e1, i0, i1, P2, X2⟩ => ?_
    subst e1
    have g2 : h2.get h.n = some (.lst (os.map enc)) := (X2.get _ nl (by omega)).trans gl
    have nl2 : h.n < h2.n := Nat.lt_of_lt_of_le nl X2.le
    have mk : mkind src.pg h2 0 (.obj h.n) = .bt .lst := by simp only [mkind, g2]
    simp
    refine br_d (fun hq => ?_) (fun hq => ?_)
    · rw [wpS_cons]
      simp [mk]
      refine (draw_ok (k := k + 1) P2 (m := 2) (by decide) (by decide) (by omega)).imp fun w h3 ⟨j, e1, j0, j1, P3, X3⟩ => ?_
      subst e1
      simp [rng1 (show (0 : Int) ≤ 1 + j by omega) (by omega)]
      refine picks (F := F) (k := k) (s := s) rfl P3 h1 h2' (by rw [rngL_len]; omega) (fun x h => by simp [wipe]) fun ts h4 a b P4 X4 => ?_
      rw [rngL_len] at b P4
      simp [join_one get_new_self (show ts.length ≤ LIM by rw [b]; exact Nat.le_trans (show (1 + j).toNat ≤ 100 by omega) (by decide))]
      rw [b_addS (by simp; exact Nat.le_trans (show _ ≤ 100 by omega) (by decide))]
      have X5 : ExtP p h2 (h4.new (.lst (ts.map fun c => .str [c]))) := X3.trans (X4.trans (.of (.new _)))
      have g5 : (h4.new (.lst (ts.map fun c => .str [c]))).get h.n = some (.lst (os.map enc)) := (X5.get _ nl2 (by omega)).trans g2
      have nl5 : h.n < (h4.new (.lst (ts.map fun c => .str [c]))).n := Nat.lt_of_lt_of_le nl2 X5.le
      have P5 := P4.new (.lst (ts.map fun c => .str [c]))
      generalize h4.new (.lst (ts.map fun c => .str [c])) = h5 at *
      have bap : bmeth .lst (.obj h.n) 0 [.str (112 :: ts)] h5 = some (.non, h5.set h.n (.lst ((os ++ [Op.p ts]).map enc))) := by
        simp only [bmeth, g5]
        rw [if_pos (by rw [List.length_map]; exact Nat.lt_of_le_of_lt (show _ ≤ 200 by omega) (by decide))]
        simp [enc]
      have P7 := P5.set (q := h.n) (by omega) (.lst ((os ++ [Op.p ts]).map enc))
      have X7 : ExtP p h (h5.set h.n (.lst ((os ++ [Op.p ts]).map enc))) := (X1.trans (X2.trans X5)).set (Nat.le_refl _) _
      have g7 : (h5.set h.n (.lst ((os ++ [Op.p ts]).map enc))).get h.n = some (.lst ((os ++ [Op.p ts]).map enc)) := by rw [Hp.get_set, if_pos rfl]
      have n7 : h.n < (h5.set h.n (.lst ((os ++ [Op.p ts]).map enc))).n := nl5
      generalize h5.set h.n (.lst ((os ++ [Op.p ts]).map enc)) = h7 at *
      simp [bap]
      have hts : ts.length = 1 + j.toNat := by omega
      refine rest (os ++ [Op.p ts]) h7 (fun o' ho' => ?_) (by rw [sumO_snoc, hs]; rfl) (by simp; omega) (by rw [sumO_snoc]; simp [sizeO]; omega) g7 (P7.mono (by omega)) X7 n7
      rcases List.mem_append.mp ho' with q | q
      · exact ho o' q
      · simp at q; subst q; exact ⟨fun z => by subst z; simp at hts; omega, by omega, a⟩
    · exact rest os h2 ho hs (by omega) hz g2 (P2.mono (by omega)) (X1.trans X2) nl2
  · obtain ⟨a, b, d, at_, os, rfl, hat, hta, ho, hs, hl, hz, gl, P1, X1, nl⟩ := q
    rw [rngL_len] at hta hl P1
    have : at_ = m := by omega
    subst this
    exact tail a b d os h' ho hs hl hz gl (P1.mono (by omega)) X1 nl
end K74
end
section
set_option maxRecDepth 100000
set_option linter.unusedVariables false
set_option linter.unusedSimpArgs false
namespace K74
open TX
/-- what an edit leaves, sign by sign, from a place on -/
def itms : List Op → Nat → List Im
  | [], _ => []
  | .k n :: os, a => ((List.range n).map fun i => .old (a + i)) ++ itms os (a + n)
  | .d n :: os, a => itms os (a + n)
  | .p t :: os, a => t.map .new ++ itms os a
def itm1 (a : Nat) : Op → List Im
  | .k n => (List.range n).map fun i => .old (a + i)
  | .d _ => []
  | .p t => t.map .new
theorem itms_cons (o : Op) (os : List Op) (a : Nat) : itms (o :: os) a = itm1 a o ++ itms os (a + takenO o) := by
  cases o <;> simp [itms, itm1, takenO]
theorem itms_app : ∀ (xs ys : List Op) (a : Nat), itms (xs ++ ys) a = itms xs a ++ itms ys (a + sumO takenO xs)
  | [], ys, a => by simp [itms, sumO]
  | o :: xs, ys, a => by
    rw [List.cons_append, itms_cons, itms_cons, itms_app xs ys, List.append_assoc]
    have : sumO takenO (o :: xs) = takenO o + sumO takenO xs := by simp [sumO]
    rw [this, Nat.add_assoc]
theorem itms_snoc (xs : List Op) (o : Op) : itms (xs ++ [o]) 0 = itms xs 0 ++ itm1 (sumO takenO xs) o := by
  rw [itms_app, itms_cons]; simp [itms]
theorem itm1_len (a : Nat) (o : Op) : (itm1 a o).length ≤ sizeO o := by cases o <;> simp [itm1, sizeO]
theorem itms_len : ∀ (os : List Op) (a : Nat), (itms os a).length ≤ sumO sizeO os
  | [], a => by simp [itms]
  | o :: os, a => by
    have := itms_len os (a + takenO o)
    have h1 := itm1_len a o
    have : sumO sizeO (o :: os) = sizeO o + sumO sizeO os := by simp [sumO]
    rw [itms_cons, List.length_append]; omega
/-- list addition, made anew -/
theorem b_cat2 {h : Hp} {a b : Nat} {xs ys : List W} (e1 : h.get a = some (.lst xs)) (e2 : h.get b = some (.lst ys)) (hl : xs.length + ys.length ≤ 100000) : binop .add (.obj a) (.obj b) h = some (.obj h.n, h.new (.lst (xs ++ ys))) := b_cat e1 e2 hl
def ItI (os : List Op) (hB : Hp) (i : Nat) (τ : Sl) (h' : Hp) : Prop := ∃ wn a b c d, τ = [some (.tup (os.map enc)), some (.obj wn), some (.int (sumO takenO (os.take i) : Nat)), a, b, c, d] ∧ h'.get wn = some (.lst ((itms (os.take i) 0).map encI)) ∧ wn < h'.n ∧ Ext hB h'
theorem rngL_eq (n : Nat) : rngL n 0 1 = (List.range n).map fun i => .int (i : Nat) := by
  refine List.ext_getElem? fun i => ?_
  rw [rngL_get, List.getElem?_map]
  by_cases h : i < n
  · rw [if_pos h, List.getElem?_range h]; simp
  · rw [if_neg h, List.getElem?_eq_none (by simp; omega)]; rfl
theorem items_ok {F k : Nat} {h : Hp} {os : List Op} (ho : ∀ o ∈ os, o.num) (h1 : sumO sizeO os < 1000) (h2 : os.length ≤ 1000) :
    Wp (run src.pg F (k + 3) 29 [.tup (os.map enc)] h) fun w h' => Ext h h' ∧ ∃ n, w = .obj n ∧ n < h'.n ∧ h'.get n = some (.lst ((itms os 0).map encI)) := by
  rw [run_s src (d := d29) rfl rfl, show d29.body = _ from t29, wp_fin]
  show WpS (evSs _ _ [some (.tup (os.map enc)), none, none, none, none, none, none] h) _
  have hL : (os.map val).length ≤ LIM := by rw [List.length_map]; exact Nat.le_trans h2 (by decide)
  rw [wpS_cons]
  simp [LIM, seq_tup]
  have X0 : Ext h (h.new (.lst [])) := .new _
  have g0 : (h.new (.lst [])).get h.n = some (.lst (([] : List Im).map encI)) := get_new_self
  have n0 : h.n < (h.new (.lst [])).n := by rw [Hp.n_new]; omega
  generalize hw0 : h.n = w0 at *
  generalize h.new (.lst []) = hA at *
  rw [wpS_cons]
  simp
  refine (pairs_ok (k := k) (.inr rfl) ho h2).imp fun w h' ⟨h0, e1, e2, X1⟩ => ?_
  subst e1 e2
  simp [w_lst get_new_self hL]
  have Xn : Ext hA (h0.new (.lst (os.map val))) := X1.trans (.new _)
  have gn : (h0.new (.lst (os.map val))).get h0.n = some (.lst (os.map val)) := get_new_self
  have nn : h0.n < (h0.new (.lst (os.map val))).n := by rw [Hp.n_new]; omega
  generalize h0.new (.lst (os.map val)) = hB at *
  refine wp_forQL (xs := os.map val) (ItI os hB) gn ⟨w0, none, none, none, none, by simp [sumO], by simpa [itms] using (Xn.get w0 n0).trans g0, Nat.lt_of_lt_of_le n0 Xn.le, .refl⟩ (fun i τ h' ⟨_, _, _, _, _, _, _, _, X⟩ => (X.get _ nn).trans gn) (fun i x τ h' e q => ?_) (fun τ h' q => ?_)
  · obtain ⟨wn, a, b, c, d, rfl, gw, nw, X⟩ := q
    obtain ⟨p, ep, rfl⟩ := pairs_at e
    have hp := ho p (List.mem_of_getElem? ep)
    have hz := sumO_take sizeO os i
    have hz2 := sumO_take sizeO os (i + 1)
    have hlen := itms_len (os.take i) 0
    have e3 := itms_snoc (os.take i) p
    rw [take_snoc ep, sumO_snoc] at hz2
    have e4 : sumO takenO (os.take (i + 1)) = sumO takenO (os.take i) + takenO p := by rw [take_snoc ep, sumO_snoc]
    rw [← take_snoc ep] at e3
    simp only [wpS_s]
    have room : ∀ l : List Im, l.length ≤ sizeO p → ((itms (os.take i) 0).map encI).length + (l.map encI).length ≤ 100000 := fun l hl => by
      rw [List.length_map, List.length_map]; omega
    cases p with
    | p t =>
      have ht : t.length ≤ LIM := Nat.le_trans (Nat.le_of_lt (show t.length < 1000 from hp)) (by decide)
      simp [val, seq_tup]
      rw [wpS_cons]
      simp
      rw [wpS_cons]
      simp [w_str ht]
      refine wp_lcG (g := fun x => some (.tup [.str [110, 101, 119], x])) _ h' (fun x hx h2 X2 => ?_) fun h2 X2 => ?_
      · rw [wp_lcB0]
        simp [wipe, LIM]
        exact .refl
      · rw [filterMap_some]
        have e5 : ((t.map fun c => W.str [c]).map fun x => W.tup [.str [110, 101, 119], x]) = (t.map Im.new).map encI := by
          rw [List.map_map, List.map_map]; rfl
        rw [e5]
        have X3 : Ext h' (h2.new (.lst ((t.map Im.new).map encI))) := X2.trans (.new _)
        have g3 : (h2.new (.lst ((t.map Im.new).map encI))).get h2.n = some (.lst ((t.map Im.new).map encI)) := get_new_self
        generalize h2.new (.lst ((t.map Im.new).map encI)) = h3 at *
        rw [b_cat ((X3.get _ nw).trans gw) g3 (room _ (by simp [sizeO]))]
        simp
        refine ⟨_, _, _, _, _, by rw [e4]; rfl, ?_, by rw [Hp.n_new]; omega, X.trans (X3.trans (.new _))⟩
        rw [e3]; simp [itm1]
    | d n =>
      simp [val, seq_tup]
      rw [wpS_cons]
      simp
      rw [wpS_cons]
      simp [LIM]
      have X3 : Ext h' (h'.new (.lst [])) := .new _
      have g3 : (h'.new (.lst [])).get h'.n = some (.lst []) := get_new_self
      generalize h'.new (.lst []) = h3 at *
      rw [b_cat (ys := []) ((X3.get _ nw).trans gw) g3 (by simpa using room [] (by simp))]
      simp
      rw [wpS_cons]
      simp
      refine ⟨_, _, _, _, _, by rw [e4]; rfl, ?_, by rw [Hp.n_new]; omega, X.trans (X3.trans (.new _))⟩
      rw [e3]; simp [itm1]
    | k n =>
      have hn : n < 1000 := hp.2
      simp [val, seq_tup]
      rw [wpS_cons]
      simp
      rw [wpS_cons]
      simp [rng1 (show (0 : Int) ≤ n by omega) (by omega)]
      refine wp_lcG (g := fun x => match x with | .int j => some (.tup [.str [111, 108, 100], .int ((sumO takenO (os.take i) : Nat) + j)]) | _ => none) _ h' (fun x hx h2 X2 => ?_) fun h2 X2 => ?_
      · rw [rngL_eq] at hx
        obtain ⟨j, hj, rfl⟩ := List.mem_map.mp hx
        rw [wp_lcB0]
        simp [wipe, LIM]
        exact .refl
      · rw [rngL_eq]
        have e5 : ((List.range n).map fun i => W.int (i : Nat)).filterMap (fun x => match x with | .int j => some (.tup [.str [111, 108, 100], .int ((sumO takenO (os.take i) : Nat) + j)]) | _ => none) = ((List.range n).map fun j => Im.old (sumO takenO (os.take i) + j)).map encI := by
          rw [List.filterMap_map, List.map_map]
          exact filterMap_some _ _
        rw [e5]
        have X3 : Ext h' (h2.new (.lst (((List.range n).map fun j => Im.old (sumO takenO (os.take i) + j)).map encI))) := X2.trans (.new _)
        have g3 : (h2.new (.lst (((List.range n).map fun j => Im.old (sumO takenO (os.take i) + j)).map encI))).get h2.n = some (.lst (((List.range n).map fun j => Im.old (sumO takenO (os.take i) + j)).map encI)) := get_new_self
        generalize h2.new (.lst (((List.range n).map fun j => Im.old (sumO takenO (os.take i) + j)).map encI)) = h3 at *
        rw [b_cat ((X3.get _ nw).trans gw) g3 (room _ (by simp [sizeO]))]
        simp
        rw [wpS_cons]
        simp
        refine ⟨_, _, _, _, _, by rw [e4]; rfl, ?_, by rw [Hp.n_new]; omega, X.trans (X3.trans (.new _))⟩
        rw [e3]; simp [itm1]
  · obtain ⟨wn, a, b, c, d, rfl, gw, nw, X⟩ := q
    rw [List.length_map, List.take_length] at gw
    simp
    rw [wpS_cons]
    simp
    exact ⟨X0.trans (Xn.trans X), nw, gw⟩
end K74
end
section
set_option maxRecDepth 100000
set_option linter.unusedVariables false
set_option linter.unusedSimpArgs false
namespace K74
open TX
/-- the sign of an item -/
def sgn (x : List Nat) : Im → Nat
  | .old v => x.getD v 0
  | .new c => c
theorem itms_old : ∀ (os : List Op) (a v : Nat), Im.old v ∈ itms os a → a ≤ v ∧ v < a + sumO takenO os
  | [], a, v, h => by simp [itms] at h
  | o :: os, a, v, h => by
    have e : sumO takenO (o :: os) = takenO o + sumO takenO os := by simp [sumO]
    rw [itms_cons] at h
    rw [e]
    rcases List.mem_append.mp h with q | q
    · cases o with
      | k n => simp [itm1] at q; obtain ⟨i, hi, rfl⟩ := q; simp only [takenO]; omega
      | d n => simp [itm1] at q
      | p t => simp [itm1] at q
    · have := itms_old os _ v q
      omega
theorem itms_new {s : List Nat} : ∀ (os : List Op) (a c : Nat), (∀ o ∈ os, o.ok s) → Im.new c ∈ itms os a → c ∈ s
  | [], a, c, _, h => by simp [itms] at h
  | o :: os, a, c, ho, h => by
    rw [itms_cons] at h
    rcases List.mem_append.mp h with q | q
    · cases o with
      | k n => simp [itm1] at q
      | d n => simp [itm1] at q
      | p t => simp [itm1] at q; exact (ho _ List.mem_cons_self).2.2 c q
    · exact itms_new os _ c (fun o m => ho o (List.mem_cons_of_mem _ m)) q
theorem sgn_in {s x : List Nat} {os : List Op} (hx : ∀ c ∈ x, c ∈ s) (ho : ∀ o ∈ os, o.ok s) (ht : sumO takenO os ≤ x.length) : ∀ c ∈ (itms os 0).map (sgn x), c ∈ s := fun c hc => by
  obtain ⟨i, hi, rfl⟩ := List.mem_map.mp hc
  cases i with
  | new c => exact itms_new os 0 c ho hi
  | old v =>
    have := itms_old os 0 v hi
    have hv : v < x.length := by omega
    show x.getD v 0 ∈ s
    rw [List.getD_eq_getElem?_getD, List.getElem?_eq_getElem hv]
    exact hx _ (List.getElem_mem hv)
theorem law_applied_ok {F k n : Nat} {h : Hp} {its : List Im} {x : List Nat} (e : h.get n = some (.lst (its.map encI))) (hn : n < h.n) (hl : its.length ≤ 1000) (hx : x.length ≤ 1000) (hv : ∀ v, Im.old v ∈ its → v < x.length) :
    Pu (run src.pg F (k + 2) 31 [.obj n, .str x] h) (.str (its.map (sgn x))) h := by
  unfold Pu
  rw [run_s src (d := d31) rfl rfl, show d31.body = _ from t31, wp_fin]
  show WpS (evSs _ _ [some (.obj n), some (.str x), none, none] h) _
  have hL : (its.map encI).length ≤ LIM := by rw [List.length_map]; exact Nat.le_trans hl (by decide)
  have hxL : x.length ≤ LIM := Nat.le_trans hx (by decide)
  rw [wpS_cons]
  simp [w_lst e hL]
  refine wp_lcGL (g := fun w => match w with | .tup [.str _, .int i] => some (.str [x.getD i.toNat 0]) | .tup [_, v] => some v | _ => none) (its.map encI) _ e hn (fun w hw h' X => ?_) fun h' X => ?_
  · obtain ⟨i, hi, rfl⟩ := List.mem_map.mp hw
    rw [wp_lcB0]
    cases i with
    | new c => simp [encI, seq_tup, wipe]; exact .refl
    | old v =>
      have hv' := hv v hi
      have e2 : x[v]? = some (x.getD v 0) := by rw [List.getD_eq_getElem?_getD, List.getElem?_eq_getElem hv']; rfl
      simp [encI, seq_tup, wipe, g_ixS (show (0 : Int) ≤ v by omega) hxL e2]
      exact .refl
  · have e5 : (its.map encI).filterMap (fun w => match w with | .tup [.str _, .int i] => some (.str [x.getD i.toNat 0]) | .tup [_, v] => some v | _ => none) = (its.map (sgn x)).map fun c => .str [c] := by
      rw [List.filterMap_map, List.map_map]
      have : ((fun w => match w with | W.tup [.str _, .int i] => some (.str [x.getD i.toNat 0]) | .tup [_, v] => some v | _ => none) ∘ encI) = fun i => some (W.str [sgn x i]) := by
        funext i
        cases i <;> simp [encI, sgn]
      rw [this]
      exact filterMap_some _ _
    rw [e5, join_one get_new_self (by simp; exact Nat.le_trans hl (by decide))]
    simp
    exact X.trans (.new _)
end K74
end
section
set_option maxRecDepth 100000
set_option linter.unusedVariables false
set_option linter.unusedSimpArgs false
namespace K74
open TX
/-- the script in memory: its items -/
theorem script_it {ns : List Int} {v : W} {h : Hp} (hl : ns.length ≤ 63) (s : Script ns v h) : (∃ q, (walk? h v = some q) ∧ ∀ (body : W → Sl → Hp → RS) (τ : Sl) (I : Nat → Sl → Prop) (D : Fl → Hp → Prop), I 0 τ → (∀ i (x : Int) τ, ns[i]? = some x → I i τ → WpS (body (.int x) τ h) (trn (fun τ' h' => I (i + 1) τ' ∧ h' = h) D)) → (∀ τ, I ns.length τ → D (.nx τ) h) → WpS (forQ q body τ h) D) ∧
    bfn .list [v] h = some (.obj h.n, h.new (.lst (ns.map .int))) := by
  have hL : (ns.map W.int).length ≤ LIM := by rw [List.length_map]; exact Nat.le_trans hl (by decide)
  have items : ∀ {i : Nat} {x : W}, (ns.map W.int)[i]? = some x → ∃ n, ns[i]? = some n ∧ x = .int n := fun {i x} e => by
    rw [List.getElem?_map] at e
    cases q : ns[i]? with
    | none => rw [q] at e; cases e
    | some n => rw [q] at e; exact ⟨n, rfl, (Option.some.inj e).symm⟩
  rcases s with ⟨rfl, rfl⟩ | ⟨rfl, rfl⟩
  · refine ⟨⟨_, w_lis hL, fun body τ I D hi hs hd => ?_⟩, rfl⟩
    refine wp_forQS (fun i τ h' => I i τ ∧ h' = ⟨0, .lf⟩) ⟨hi, rfl⟩ (fun i x τ h' e q => ?_) (fun τ h' q => ?_)
    · obtain ⟨n, e1, rfl⟩ := items e
      obtain ⟨q1, rfl⟩ := q
      exact hs i n τ e1 q1
    · obtain ⟨q1, rfl⟩ := q
      rw [List.length_map] at q1
      exact hd τ q1
  · have g : ((⟨0, .lf⟩ : Hp).new (.lst (ns.map .int))).get 0 = some (.lst (ns.map .int)) := get_new_self
    refine ⟨⟨_, w_lst g hL, fun body τ I D hi hs hd => ?_⟩, ?_⟩
    · refine wp_forQL (fun i τ h' => I i τ ∧ h' = (⟨0, .lf⟩ : Hp).new (.lst (ns.map .int))) g ⟨hi, rfl⟩ (fun i τ h' q => by rw [q.2]; exact g) (fun i x τ h' e q => ?_) (fun τ h' q => ?_)
      · obtain ⟨n, e1, rfl⟩ := items e
        obtain ⟨q1, rfl⟩ := q
        exact hs i n τ e1 q1
      · obtain ⟨q1, rfl⟩ := q
        rw [List.length_map] at q1
        exact hd τ q1
    · simp only [bfn, seq?, Hp.lst_of g]
theorem pen_ok {F k : Nat} {h : Hp} {ns : List Int} {v : W} (hl : ns.length ≤ 63) (hs : Script ns v h) : Wp (run src.pg F (k + 2) 25 [v] h) fun w h' => ∃ p, w = .obj p ∧ Pen p 0 h' ∧ Ext h h' := by
  rw [run_s src (d := d25) rfl rfl, show d25.body = _ from t25, wp_fin]
  show WpS (evSs _ _ [some v, none, none] h) _
  obtain ⟨⟨q, hq, loop⟩, hlist⟩ := script_it hl hs
  rw [wpS_cons]
  simp
  rw [wpS_cons]
  simp [hq]
  refine loop _ _ (fun i τ => ∃ f : Int, ∃ a, τ = [some v, some (.int f), a] ∧ 0 ≤ f ∧ f < 1000000087) _ ⟨0, none, rfl, by decide, by decide⟩ (fun t y τ e q => ?_) (fun τ q => ?_)
  · obtain ⟨f, a, rfl, f0, f1⟩ := q
    simp
    rw [wpS_cons]
    simp
    rw [b_mulI (by rw [show okI 67 = true by decide]; simp)]
    simp [b_modI (j := 1000000087) (by decide)]
    exact ⟨Int.emod_nonneg _ (by decide), Int.emod_lt_of_pos _ (by decide)⟩
  · obtain ⟨f, a, rfl, f0, f1⟩ := q
    simp
    rw [wpS_cons]
    simp [hlist]
    rw [show pairsOf [.str sCells, .obj h.n, .str sAt, .int 0, .str sDig, .int 0, .str sCnt, .int 0, .str sFold, .int f] = some (pend h.n 0 0 0 f) from rfl]
    simp only
    rw [if_pos ⟨rfl, by show (5 : Nat) ≤ 15; decide⟩, show List.foldl (fun d p => put keyEq p.1 p.2 d) [] (pend h.n 0 0 0 f) = pend h.n 0 0 0 f from rfl, wp_ok]
    have X1 : Ext h (h.new (.lst (ns.map .int))) := .new _
    have g1 : (h.new (.lst (ns.map .int))).get h.n = some (.lst (ns.map .int)) := get_new_self
    have n1 : (h.new (.lst (ns.map .int))).n = h.n + 1 := Hp.n_new _ _
    generalize h.new (.lst (ns.map .int)) = h2 at *
    refine ⟨h2.n, rfl, ⟨h.n, 0, 0, 0, f, ns, get_new_self, ?_, by rw [Hp.n_new]; omega, by rw [Hp.n_new]; omega, by omega, by decide, by decide, by decide, by decide, f0, by omega⟩, X1.trans (.new _)⟩
    rw [Hp.get_new, if_neg (by omega)]; exact g1
end K74
end
section
set_option maxRecDepth 100000
set_option linter.unusedVariables false
set_option linter.unusedSimpArgs false
namespace K74
open TX
/-- sign by sign -/
def exp1 : Op → List Op
  | .k n => List.replicate n (.k 1)
  | .d n => List.replicate n (.d 1)
  | .p t => t.map fun c => .p [c]
def exps (os : List Op) : List Op := os.flatMap exp1
def Op.kpos : Op → Prop
  | .k n => 0 < n
  | _ => True
theorem exp_unit (os : List Op) : ∀ o ∈ exps os, o.unit := fun o h => by
  obtain ⟨p, hp, h⟩ := List.mem_flatMap.mp h
  cases p with
  | k n => rw [(List.mem_replicate.mp h).2]; exact rfl
  | d n => rw [(List.mem_replicate.mp h).2]; exact rfl
  | p t => obtain ⟨c, _, rfl⟩ := List.mem_map.mp h; exact rfl
theorem run_ks (s : PS) : ∀ n, 0 < n → s.run (List.replicate n (.k 1)) = s.keep n
  | 1, _ => rfl
  | n + 2, _ => by
    rw [List.replicate_succ']
    rw [run_app, run_ks s (n + 1) (by omega)]
    show (s.keep (n + 1)).keep 1 = s.keep (n + 2)
    by_cases h0 : s.open
    · have e1 : s.keep (n + 1) = ⟨s.told ++ s.pend, n + 1, 0, []⟩ := by unfold PS.keep; rw [if_pos h0]
      have e2 : s.keep (n + 2) = ⟨s.told ++ s.pend, n + 2, 0, []⟩ := by unfold PS.keep; rw [if_pos h0]
      rw [e1, e2]
      unfold PS.keep
      rw [if_neg (by unfold PS.open; simp)]
    · have e1 : s.keep (n + 1) = { s with kept := s.kept + (n + 1) } := by unfold PS.keep; rw [if_neg h0]
      have e2 : s.keep (n + 2) = { s with kept := s.kept + (n + 2) } := by unfold PS.keep; rw [if_neg h0]
      rw [e1, e2]
      unfold PS.keep
      rw [if_neg (by unfold PS.open; exact h0)]
      simp [Nat.add_assoc]
theorem run_ds (s : PS) : ∀ n, s.run (List.replicate n (.d 1)) = s.drop n
  | 0 => by simp [PS.run, PS.drop]
  | n + 1 => by
    rw [List.replicate_succ', run_app, run_ds s n]
    show (s.drop n).drop 1 = _
    simp [PS.drop, Nat.add_assoc]
theorem run_ps (s : PS) : ∀ t : List Nat, s.run (t.map fun c => .p [c]) = s.put t
  | [] => by simp [PS.run, PS.put]
  | c :: t => by
    show (s.put [c]).run (t.map fun c => .p [c]) = _
    rw [run_ps (s.put [c]) t]
    simp [PS.put]
theorem run_exp : ∀ (os : List Op) (s : PS), (∀ o ∈ os, o.kpos) → s.run (exps os) = s.run os
  | [], s, _ => rfl
  | o :: os, s, h => by
    have ih := fun s => run_exp os s fun o m => h o (List.mem_cons_of_mem _ m)
    show s.run (exp1 o ++ exps os) = (s.step o).run os
    rw [run_app, ih]
    congr 1
    have ho := h o List.mem_cons_self
    cases o with
    | k n => exact run_ks s n ho
    | d n => exact run_ds s n
    | p t => exact run_ps s t
theorem itm_app : ∀ (xs ys : List Op) (a : Nat), (∀ o ∈ xs, o.unit) → itm (xs ++ ys) a = itm xs a ++ itm ys (a + sumO takenO xs)
  | [], ys, a, _ => by simp [itm, sumO]
  | o :: xs, ys, a, h => by
    have ih := fun a => itm_app xs ys a fun o m => h o (List.mem_cons_of_mem _ m)
    have ho := h o List.mem_cons_self
    have e : sumO takenO (o :: xs) = takenO o + sumO takenO xs := by simp [sumO]
    rw [e]
    cases o with
    | k n => cases (show n = 1 from ho); simp only [List.cons_append, itm, ih, takenO]; rw [Nat.add_assoc]
    | d n => cases (show n = 1 from ho); simp only [List.cons_append, itm, ih, takenO]; rw [Nat.add_assoc]
    | p t => simp only [List.cons_append, itm, ih, takenO, List.append_assoc, Nat.zero_add]
theorem itm_exp1 (o : Op) (a : Nat) : itm (exp1 o) a = itm1 a o := by
  cases o with
  | k n =>
    simp only [exp1, itm1]
    induction n generalizing a with
    | zero => rfl
    | succ n ih =>
      rw [List.replicate_succ, itm, ih, List.range_succ_eq_map]
      simp [Function.comp_def]
      intro b _; omega
  | d n =>
    simp only [exp1, itm1]
    induction n generalizing a with
    | zero => rfl
    | succ n ih => rw [List.replicate_succ, itm, ih]
  | p t =>
    simp only [exp1, itm1]
    induction t with
    | nil => rfl
    | cons c t ih => rw [List.map_cons, itm, ih]; rfl
theorem taken_exp1 (o : Op) : sumO takenO (exp1 o) = takenO o := by
  cases o with
  | k n => simp [exp1, sumO, takenO]
  | d n => simp [exp1, sumO, takenO]
  | p t =>
    induction t with
    | nil => rfl
    | cons c t ih => simpa [exp1, sumO, takenO] using ih
theorem itm_exp : ∀ (os : List Op) (a : Nat), itm (exps os) a = itms os a
  | [], a => rfl
  | o :: os, a => by
    show itm (exp1 o ++ exps os) a = _
    rw [itm_app _ _ _ (fun p hp => exp_unit [o] p (by simpa [exps] using hp)), itm_exp1, taken_exp1, itm_exp os, itms_cons]
theorem taken_exp : ∀ os : List Op, sumO takenO (exps os) = sumO takenO os
  | [] => rfl
  | o :: os => by
    show sumO takenO (exp1 o ++ exps os) = _
    rw [sumO_app, taken_exp1, taken_exp os]; simp [sumO]
/-- the law's telling of what an edit leaves is its plain edit -/
theorem told_gen {os : List Op} (h : ∀ o ∈ os, o.kpos) : ((itms os 0 ++ [Im.old (sumO takenO os)]).foldl (LS.step (sumO takenO os)) ⟨[], 0, [], 0⟩).end_ = plainOf os := by
  have := along (n := sumO takenO os) (exps os) 0 .init 0 (exp_unit os) rfl (by rw [taken_exp]; omega)
  rw [itm_exp, run_exp os .init h] at this
  exact this
/-! ### the items of a plain edit -/
theorem itms_pend (k d : Nat) (t : List Nat) (a : Nat) : itms (pend3 k d t) a = ((List.range k).map fun i => Im.old (a + i)) ++ t.map .new := by
  unfold pend3
  by_cases h1 : k = 0 <;> by_cases h2 : d = 0 <;> by_cases h3 : t = [] <;> simp [h1, h2, h3, itms]
theorem range_add {k n a : Nat} : ((List.range (k + n)).map fun i => Im.old (a + i)) = ((List.range k).map fun i => Im.old (a + i)) ++ (List.range n).map fun i => Im.old (a + k + i) := by
  rw [List.range_add, List.map_append, List.map_map]
  simp [Function.comp_def, Nat.add_assoc]
theorem itms_step (s : PS) (o : Op) : itms (s.step o).all 0 = itms s.all 0 ++ itm1 (sumO takenO s.all) o := by
  have et : sumO takenO s.all = sumO takenO s.told + s.kept + s.dropped := by
    unfold PS.all PS.pend
    rw [sumO_app, sum_pend add_taken]
    simp [takenO]; omega
  cases o with
  | k n =>
    show itms (s.keep n).all 0 = _
    unfold PS.keep
    split
    · unfold PS.all PS.pend
      simp only
      rw [itms_app (s.told ++ _), itms_pend n 0 []]
      have : sumO takenO (s.told ++ pend3 s.kept s.dropped s.fresh) = sumO takenO s.all := rfl
      simp [itm1, this]
    · rename_i h
      have h1 : s.dropped = 0 := by
        cases q : s.dropped with
        | zero => rfl
        | succ m => exact absurd (.inl (by omega)) h
      have h2 : s.fresh = [] := by
        cases q : s.fresh with
        | nil => rfl
        | cons b r => exact absurd (.inr (by rw [q]; simp)) h
      unfold PS.all PS.pend
      simp only
      rw [itms_app, itms_app, itms_pend, itms_pend, h2]
      simp only [List.map_nil, List.append_nil, itm1, Nat.zero_add]
      rw [range_add, List.append_assoc]
      congr 2
      have : sumO takenO (s.told ++ pend3 s.kept s.dropped []) = sumO takenO s.told + s.kept := by
        rw [sumO_app, sum_pend add_taken, h1]; simp [takenO]
      rw [this]
  | d n =>
    show itms (s.drop n).all 0 = _
    unfold PS.all PS.pend PS.drop
    simp only
    rw [itms_app, itms_app, itms_pend, itms_pend]
    simp [itm1]
  | p t =>
    show itms (s.put t).all 0 = _
    unfold PS.all PS.pend PS.put
    simp only
    rw [itms_app, itms_app, itms_pend, itms_pend]
    simp [itm1]
theorem itms_run : ∀ (os : List Op) (s : PS), itms (s.run os).all 0 = itms s.all 0 ++ itms os (sumO takenO s.all)
  | [], s => by simp [PS.run, itms]
  | o :: os, s => by
    show itms ((s.step o).run os).all 0 = _
    rw [itms_run os, itms_step, itms_cons, sum_step add_taken, List.append_assoc]
theorem itms_plain (os : List Op) : itms (plainOf os) 0 = itms os 0 := by
  have := itms_run os .init
  exact this
theorem taken_plain (os : List Op) : sumO takenO (plainOf os) = sumO takenO os := sum_plain add_taken os
end K74
end
section
set_option maxRecDepth 100000
set_option linter.unusedVariables false
set_option linter.unusedSimpArgs false
namespace K74
open TX
theorem eqL_self {α : Type} {p : α → α → Bool} : ∀ xs : List α, (∀ x ∈ xs, p x x = true) → eqL p xs xs = true
  | [], _ => rfl
  | x :: xs, h => by
    rw [eqL, h x List.mem_cons_self, eqL_self xs fun y hy => h y (List.mem_cons_of_mem _ hy)]; rfl
theorem natEq_self (s : List Nat) : natEq s s = true := by rw [natEq_eq]; simp
theorem eqD_self {h : Hp} : ∀ (f : Nat) (w : W), dataQ h f w = true → eqD h f w w = true
  | 0, w, e => by simp [dataQ] at e
  | f + 1, w, e => by
    cases w with
    | non => rfl
    | bl b => simp [eqD]
    | int i => simp [eqD]
    | str s => rw [eqD]; exact natEq_self s
    | tup xs =>
      rw [dataQ] at e
      rw [eqD]
      exact eqL_self xs fun x hx => eqD_self f x (List.all_eq_true.mp e x hx)
    | obj n =>
      rw [dataQ] at e
      rw [eqD]
      cases q : h.lst? n with
      | none => rw [q] at e; simp at e
      | some xs =>
        rw [q] at e
        simp only at e ⊢
        exact eqL_self xs fun x hx => eqD_self f x (List.all_eq_true.mp e x hx)
    | _ => simp [dataQ] at e
theorem eqW_tup {h : Hp} {xs : List W} (hd : ∀ x ∈ xs, dataQ h 19 x = true) : eqW h (.tup xs) (.tup xs) = some true := by
  have e : dataQ h DEEP (.tup xs) = true := by
    show dataQ h (19 + 1) (.tup xs) = true
    rw [dataQ]; exact List.all_eq_true.mpr hd
  unfold eqW
  simp only
  rw [e, eqD_self _ _ e]; rfl
def Codes (s : List Nat) : Prop := ∀ c ∈ s, c < 1114112
theorem dstr {h : Hp} {s : List Nat} {f : Nat} (hc : Codes s) : dataQ h (f + 1) (.str s) = true := by
  rw [dataQ]
  refine List.all_eq_true.mpr fun c m => ?_
  have := hc c m
  exact Nat.ble_eq_true_of_le this
theorem digs_codes {n : Nat} (h0 : 0 < n) (hn : n < 1000) : Codes (digs n) := by
  obtain ⟨x, r, e, _, _, _, hd⟩ := digs_ok hn h0
  rw [e]
  intro c hc
  have := hd c hc
  simp at this
  omega
theorem enc_data {h : Hp} {s : List Nat} {o : Op} (hs : Codes s) (ho : o.ok s) : dataQ h 19 (enc o) = true := by
  have num : ∀ (y n : Nat), y < 1000 → 0 < n → n < 1000 → dataQ h 19 (.str (y :: digs n)) = true := fun y n hy h0 h1 => by
    refine dstr fun c hc => ?_
    rcases List.mem_cons.mp hc with rfl | q
    · omega
    · exact digs_codes h0 h1 c q
  cases o with
  | k n => exact num 107 n (by decide) ho.1 ho.2
  | d n => exact num 100 n (by decide) ho.1 ho.2
  | p t =>
    refine dstr fun c hc => ?_
    rcases List.mem_cons.mp hc with rfl | q
    · omega
    · exact hs c (ho.2.2 c q)
theorem ne_edit {h : Hp} {s : List Nat} {os : List Op} (hs : Codes s) (ho : ∀ o ∈ os, o.ok s) : cmpop .ne (.tup (os.map enc)) (.tup (os.map enc)) h = some false := by
  show (eqW h _ _).map _ = _
  rw [eqW_tup fun x hx => by obtain ⟨o, m, rfl⟩ := List.mem_map.mp hx; exact enc_data hs (ho o m)]; rfl
theorem eq_edit {h : Hp} {s : List Nat} {os : List Op} (hs : Codes s) (ho : ∀ o ∈ os, o.ok s) : cmpop .eq (.tup (os.map enc)) (.tup (os.map enc)) h = some true := by
  show eqW h (.tup (os.map enc)) (.tup (os.map enc)) = _
  rw [eqW_tup fun x hx => by obtain ⟨o, m, rfl⟩ := List.mem_map.mp hx; exact enc_data hs (ho o m)]
end K74
end
section
set_option maxRecDepth 100000
set_option linter.unusedVariables false
set_option linter.unusedSimpArgs false
namespace K74
open TX
/-! ### what is raised -/
def Xe {α : Type} (r : R α) (Q : Xn → Hp → Prop) : Prop := match r with
  | .ex e h => Q e h
  | _ => False
def XeS (r : RS) (Q : Xn → Hp → Prop) : Prop := match r with
  | .ex e _ h => Q e h
  | _ => False
theorem Xe.imp {α : Type} {r : R α} {Q Q' : Xn → Hp → Prop} (p : Xe r Q) (i : ∀ e h, Q e h → Q' e h) : Xe r Q' := by
  cases r with
  | ex e h => exact i e h p
  | _ => exact p
theorem xe_b1 {α β : Type} {x : R α} {f : α → Hp → R β} {Q : Xn → Hp → Prop} (p : Xe x Q) : Xe (x.b f) Q := by
  cases x with
  | ex e h => exact p
  | _ => exact p.elim
theorem xe_b2 {α β : Type} {x : R α} {f : α → Hp → R β} {Q : Xn → Hp → Prop} (p : Wp x fun a h => Xe (f a h) Q) : Xe (x.b f) Q := by
  cases x with
  | ok a h => exact p
  | _ => exact p.elim
theorem xeS_s1 {α : Type} {x : R α} {τ : Sl} {f : α → Hp → RS} {Q : Xn → Hp → Prop} (p : Xe x Q) : XeS (x.s τ f) Q := by
  cases x with
  | ex e h => exact p
  | _ => exact p.elim
theorem xeS_s2 {α : Type} {x : R α} {τ : Sl} {f : α → Hp → RS} {Q : Xn → Hp → Prop} (p : Wp x fun a h => XeS (f a h) Q) : XeS (x.s τ f) Q := by
  cases x with
  | ok a h => exact p
  | _ => exact p.elim
theorem xe_fin {r : RS} {Q : Xn → Hp → Prop} (p : XeS r Q) : Xe (fin r) Q := by
  cases r with
  | ex e τ h => exact p
  | _ => exact p.elim
theorem xeS_c1 {c : Cf} {s : S} {ss : Ss} {τ : Sl} {h : Hp} {Q : Xn → Hp → Prop} (p : XeS (evS c s τ h) Q) : XeS (evSs c (.cons s ss) τ h) Q := by
  rw [evSs]
  generalize evS c s τ h = r at *
  cases r with
  | ex e τ h => exact p
  | _ => exact p.elim
theorem xeS_c2 {c : Cf} {s : S} {ss : Ss} {τ : Sl} {h : Hp} {Q : Xn → Hp → Prop} (p : WpS (evS c s τ h) (nxt (fun τ h => XeS (evSs c ss τ h) Q) fun _ _ => False)) : XeS (evSs c (.cons s ss) τ h) Q := by
  rw [evSs]
  generalize evS c s τ h = r at *
  cases r with
  | fl f h => cases f <;> exact p
  | _ => exact p.elim
end K74
end
section
set_option maxRecDepth 100000
set_option linter.unusedVariables false
set_option linter.unusedSimpArgs false
namespace K74
open TX
theorem cost_ok {F k : Nat} {h : Hp} {s : List Nat} {os : List Op} (hs : Signs s) (ho : ∀ o ∈ os, o.ok s) (hl : os.length ≤ 1000) : Pu (run src.pg F (k + 6) 12 [.str s, .tup (os.map enc)] h) (.int (sumO costO os)) h := by
  unfold Pu
  rw [run_s src (d := d12) rfl rfl, show d12.body = _ from t12, wp_fin]
  show WpS (evSs _ _ [some (.str s), some (.tup (os.map enc)), none, none] h) _
  have hL : (os.map val).length ≤ LIM := by rw [List.length_map]; exact Nat.le_trans hl (by decide)
  have hon : ∀ o ∈ os, o.num := fun o m => (ho o m).num
  rw [wpS_cons]
  simp
  refine (need_edit_ok hs ho hl).imp fun w g1 ⟨e, X1⟩ => ?_
  rw [wpS_cons]
  simp
  refine (pairs_ok (.inl rfl) hon hl).imp fun w h' ⟨h0, e1, e2, X⟩ => ?_
  subst e1 e2
  simp [w_lst get_new_self hL]
  refine sum_lc (f := costO) (p := fun o => match o with | .k _ => false | _ => true) (fun o e => by cases o <;> simp at e; rfl) X (fun o hm h' => ?_) fun h' X => ?_
  · rw [wp_lcB1]
    cases o with
    | p t =>
      have : t.length ≤ LIM := Nat.le_trans (Nat.le_of_lt (show t.length < 1000 from hon _ hm)) (by decide)
      simp [val, seq_tup, wipe, costO, f_lenS this]
      exact .refl
    | _ => simp [val, seq_tup, wipe, costO]; exact .refl
  · simp
    exact X1.trans X
theorem is_edit_ok {F k : Nat} {h : Hp} {s : List Nat} {os : List Op} (hs : Signs s) (ho : ∀ o ∈ os, o.ok s) (hl : os.length ≤ 1000) : Pu (run src.pg F (k + 5) 7 [.str s, .tup (os.map enc)] h) (.bl true) h := by
  unfold Pu
  rw [run_s src (d := d7) rfl rfl, show d7.body = _ from t7, wp_fin]
  show WpS (evSs _ _ [some (.str s), some (.tup (os.map enc))] h) _
  rw [wpS_cons]
  simp
  refine (need_signs_ok (k := k + 1) hs).imp fun w g1 ⟨e, X1⟩ => ?_
  rw [wpS_cons]
  simp
  refine (edit_in_ok ho hl).imp fun w g2 ⟨e, X2⟩ => ?_
  subst e
  exact ⟨rfl, X1.trans X2⟩
end K74
end
section
set_option maxRecDepth 100000
set_option linter.unusedVariables false
set_option linter.unusedSimpArgs false
namespace K74
open TX
theorem zip_take {α : Type} {xs : List α} {i : Nat} {x : α} (e : xs[i]? = some x) : (xs.take (i + 1)).zipIdx = (xs.take i).zipIdx ++ [(x, i)] := by
  have hi := (List.getElem?_eq_some_iff.mp e).1
  rw [take_snoc e, List.zipIdx_append]
  simp [List.length_take, Nat.min_eq_left (Nat.le_of_lt hi)]
/-- the items of a comprehension over enumerate -/
theorem wp_lcGE {body : W → Hp → TX.R (Option W)} {g : Nat → W → Option W} {Q : List W → Hp → Prop} {n : Nat} (xs : List W) (h : Hp) (e : h.get n = some (.lst xs)) (hn : n < h.n) (hs : ∀ i x, xs[i]? = some x → ∀ h', Ext h h' → Wp (body (.tup [.int (i : Nat), x]) h') fun y h'' => y = g i x ∧ Ext h' h'') (hd : ∀ h', Ext h h' → Q (xs.zipIdx.filterMap fun p => g p.2 p.1) h') : Wp (lcQ (.enml n) body h) Q := by
  show Wp (lcL true n body (((h.lst? n).getD []).length + 1) 0 [] h) Q
  rw [Hp.lst_of e]
  refine wp_lcL (xs := xs) (fun i acc h' => acc.reverse = (xs.take i).zipIdx.filterMap (fun p => g p.2 p.1) ∧ Ext h h') (fun i acc h' q => Hp.lst_of ((q.2.get n hn).trans e)) (fun i x acc h' e q => ?_) (fun acc h' q => ?_) _ 0 [] h ⟨rfl, .refl⟩ (Nat.zero_le _) (by simp)
  · refine (hs i x e h' q.2).imp fun y h'' ⟨e1, x1⟩ => ⟨?_, q.2.trans x1⟩
    subst e1
    rw [zip_take e, List.filterMap_append, ← q.1]
    cases gx : g i x with
    | none => simp [pushO, gx]
    | some v => simp [pushO, gx]
  · rw [q.1, List.take_length]
    exact hd h' q.2
end K74
end
section
set_option maxRecDepth 100000
set_option linter.unusedVariables false
set_option linter.unusedSimpArgs false
namespace K74
open TX
/-- the place of a sign of the text among the items -/
def posI : List Im → Nat → Option Nat
  | [], _ => none
  | .old u :: r, v => if u = v then some 0 else (posI r v).map (· + 1)
  | .new _ :: r, v => (posI r v).map (· + 1)
/-- the law's places of an edit back -/
def backL (x : List Nat) (its : List Im) (b : Nat) (a n : Nat) : List Im := (List.range n).map fun k => match posI its (a + k) with
  | some j => Im.old (b + j)
  | none => Im.new (x.getD (a + k) 0)
theorem posI_app : ∀ (xs ys : List Im) (v : Nat), posI (xs ++ ys) v = match posI xs v with
    | some j => some j
    | none => (posI ys v).map (· + xs.length)
  | [], ys, v => by simp [posI]
  | .old u :: r, ys, v => by
    rw [List.cons_append, posI, posI]
    by_cases e : u = v
    · rw [if_pos e, if_pos e]
    · rw [if_neg e, if_neg e, posI_app r ys v]
      cases posI r v with
      | some j => rfl
      | none => cases posI ys v <;> simp [Nat.add_assoc]
  | .new c :: r, ys, v => by
    rw [List.cons_append, posI, posI, posI_app r ys v]
    cases posI r v with
    | some j => rfl
    | none => cases posI ys v <;> simp [Nat.add_assoc]
theorem posI_none {xs : List Im} {v : Nat} (h : Im.old v ∉ xs) : posI xs v = none := by
  induction xs with
  | nil => rfl
  | cons i r ih =>
    have ih := ih fun m => h (List.mem_cons_of_mem _ m)
    cases i with
    | old u => rw [posI, if_neg (fun e => h (by rw [e]; exact List.mem_cons_self)), ih]; rfl
    | new c => rw [posI, ih]; rfl
theorem posI_rng (a : Nat) : ∀ (n k : Nat), k < n → posI ((List.range n).map fun i => Im.old (a + i)) (a + k) = some k
  | 0, k, h => absurd h (by omega)
  | n + 1, k, h => by
    rw [List.range_succ_eq_map, List.map_cons, List.map_map, posI]
    cases k with
    | zero => rw [if_pos rfl]
    | succ k =>
      rw [if_neg (by omega)]
      have e : ((fun i => Im.old (a + i)) ∘ Nat.succ) = fun i => Im.old (a + 1 + i) := by funext i; simp only [Function.comp, Nat.succ_eq_add_one]; congr 1; omega
      rw [e, show a + (k + 1) = a + 1 + k by omega, posI_rng (a + 1) n k (by omega)]
      rfl
theorem backL_add (x : List Nat) (its : List Im) (b a m n : Nat) : backL x its b a (m + n) = backL x its b a m ++ (List.range n).map fun k => match posI its (a + m + k) with
    | some j => Im.old (b + j)
    | none => Im.new (x.getD (a + m + k) 0) := by
  unfold backL
  rw [List.range_add, List.map_append, List.map_map]
  congr 1
  refine List.map_congr_left fun k _ => ?_
  simp only [Function.comp, Nat.add_assoc]
theorem back_it {x : List Nat} : ∀ (os : List Op) (a b : Nat), a + sumO takenO os ≤ x.length → itms (turnL x os a) b = backL x (itms os a) b a (sumO takenO os)
  | [], a, b, _ => by simp [turnL, itms, backL, sumO]
  | o :: os, a, b, h => by
    have e1 : sumO takenO (o :: os) = takenO o + sumO takenO os := by simp [sumO]
    rw [e1] at h ⊢
    have ih := fun b => back_it (x := x) os (a + takenO o) b (by omega)
    rw [turnL, itms_cons, itms_cons, ih, backL_add]
    have far : ∀ k, k < takenO o → Im.old (a + k) ∉ itms os (a + takenO o) := fun k hk m => by
      have := itms_old os _ _ m; omega
    cases o with
    | k n =>
      simp only [takenO, turn1, itm1] at *
      congr 1
      · unfold backL
        refine List.map_congr_left fun k hk => ?_
        rw [posI_app, posI_rng a n k (List.mem_range.mp hk)]
      · unfold backL
        refine List.map_congr_left fun k hk => ?_
        rw [posI_app, posI_none (xs := (List.range n).map fun i => Im.old (a + i)) (by simp; intro y hy; omega)]
        cases posI (itms os (a + n)) (a + n + k) with
        | none => rfl
        | some j => simp; omega
    | d n =>
      simp only [takenO, turn1, itm1, List.nil_append, Nat.add_zero] at *
      congr 1
      · unfold backL
        refine List.ext_getElem (by simp; omega) fun k h1 h2 => ?_
        simp at h1 h2
        simp only [List.getElem_map, List.getElem_range, List.getElem_take, List.getElem_drop]
        rw [posI_none (far k (by omega)), List.getD_eq_getElem?_getD, List.getElem?_eq_getElem (show a + k < x.length by omega)]
        rfl
    | p t =>
      simp only [takenO, turn1, itm1, List.nil_append, Nat.add_zero] at *
      have z : backL x (List.map Im.new t ++ itms os a) b a 0 = [] := rfl
      rw [z, List.nil_append]
      unfold backL
      refine List.map_congr_left fun k hk => ?_
      rw [posI_app, posI_none (xs := t.map Im.new) (by simp)]
      cases posI (itms os a) (a + k) with
      | none => rfl
      | some j => simp; omega
end K74
end
section
set_option maxRecDepth 100000
set_option linter.unusedVariables false
set_option linter.unusedSimpArgs false
namespace K74
open TX
/-- the kept signs and their places -/
def prs : List Im → Nat → List (Nat × Nat)
  | [], _ => []
  | .old v :: r, i => (v, i) :: prs r (i + 1)
  | .new _ :: r, i => prs r (i + 1)
def encP (p : Nat × Nat) : W × W := (.int p.1, .int p.2)
theorem look_prs (v : Nat) : ∀ (its : List Im) (i : Nat), TX.look keyEq (.int v) ((prs its i).map encP) = (posI its v).map fun j => W.int (i + j : Nat)
  | [], i => rfl
  | .old u :: r, i => by
    rw [prs, List.map_cons, posI]
    show (bif decide ((u : Int) = v) then some (W.int i) else TX.look keyEq (.int v) ((prs r (i + 1)).map encP)) = _
    by_cases e : u = v
    · subst e; simp
    · rw [decide_eq_false (by omega), if_neg e, cond_false, look_prs v r]
      cases posI r v with
      | none => rfl
      | some j => simp; omega
  | .new c :: r, i => by
    rw [prs, posI, look_prs v r]
    cases posI r v with
    | none => rfl
    | some j => simp; omega
theorem put_new : ∀ (L : List (Nat × Nat)) (d : List (W × W)), (∀ p ∈ L, ∀ e ∈ d, keyEq e.1 (.int p.1) = false) → (L.map (·.1)).Nodup → (L.map encP).foldl (fun d p => put keyEq p.1 p.2 d) d = d ++ L.map encP
  | [], d, _, _ => by simp
  | p :: L, d, h, nd => by
    rw [List.map_cons, List.foldl_cons]
    have e : put keyEq (encP p).1 (encP p).2 d = d ++ [encP p] := by
      unfold put
      rw [show d.any (fun e => keyEq e.1 (encP p).1) = false from List.any_eq_false.mpr fun e he => by rw [show (encP p).1 = .int p.1 from rfl, h p List.mem_cons_self e he]; decide]
      rfl
    rw [List.map_cons, List.nodup_cons] at nd
    rw [e, put_new L _ (fun q hq e he => ?_) nd.2, List.append_assoc]; rfl
    rcases List.mem_append.mp he with m | m
    · exact h q (List.mem_cons_of_mem _ hq) e m
    · simp at m
      subst m
      show decide ((p.1 : Int) = q.1) = false
      exact decide_eq_false fun z => nd.1 (List.mem_map.mpr ⟨q, hq, by omega⟩)
end K74
end
section
set_option maxRecDepth 100000
set_option linter.unusedVariables false
set_option linter.unusedSimpArgs false
namespace K74
open TX
theorem prs_gt : ∀ (os : List Op) (a i : Nat), ∀ p ∈ prs (itms os a) i, a ≤ p.1 := fun os a i p hp => by
  have : ∀ (its : List Im) (i : Nat), ∀ p ∈ prs its i, Im.old p.1 ∈ its := fun its => by
    induction its with
    | nil => intro i p h; simp [prs] at h
    | cons x r ih =>
      intro i p h
      cases x with
      | old v =>
        rcases List.mem_cons.mp h with rfl | h
        · exact List.mem_cons_self
        · exact List.mem_cons_of_mem _ (ih _ _ h)
      | new c => exact List.mem_cons_of_mem _ (ih _ _ h)
  exact (itms_old os a p.1 (this _ _ p hp)).1
theorem prs_app : ∀ (xs ys : List Im) (i : Nat), prs (xs ++ ys) i = prs xs i ++ prs ys (i + xs.length)
  | [], ys, i => by simp [prs]
  | .old v :: r, ys, i => by simp only [List.cons_append, prs, prs_app r ys, List.length_cons]; congr 3; omega
  | .new c :: r, ys, i => by simp only [List.cons_append, prs, prs_app r ys, List.length_cons]; congr 2; omega
theorem prs_rng (a : Nat) : ∀ (n i : Nat), (prs ((List.range n).map fun k => Im.old (a + k)) i).map (·.1) = (List.range n).map fun k => a + k
  | n, i => by
    have : ∀ (ks : List Nat) (i : Nat), (prs (ks.map fun k => Im.old (a + k)) i).map (·.1) = ks.map fun k => a + k := fun ks => by
      induction ks with
      | nil => intro i; rfl
      | cons k ks ih => intro i; simp only [List.map_cons, prs, ih]
    exact this _ _
theorem prs_new (t : List Nat) : ∀ i, prs (t.map Im.new) i = [] := by
  induction t with
  | nil => intro i; rfl
  | cons c t ih => intro i; simp only [List.map_cons, prs, ih]
theorem prs_nodup : ∀ (os : List Op) (a i : Nat), ((prs (itms os a) i).map (·.1)).Nodup
  | [], a, i => by simp [itms, prs]
  | o :: os, a, i => by
    rw [itms_cons, prs_app, List.map_append]
    refine List.nodup_append.mpr ⟨?_, prs_nodup os _ _, fun u hu v hv e => ?_⟩
    · cases o with
      | k n =>
        rw [itm1, prs_rng]
        exact List.Pairwise.map _ (fun x y h z => h (by omega)) List.nodup_range
      | d n => simp [itm1, prs]
      | p t => rw [itm1, prs_new]; simp
    · obtain ⟨p, hp, rfl⟩ := List.mem_map.mp hv
      have := prs_gt os _ _ p hp
      cases o with
      | k n =>
        rw [itm1, prs_rng] at hu
        obtain ⟨k, hk, rfl⟩ := List.mem_map.mp hu
        have := List.mem_range.mp hk
        simp only [takenO] at *
        omega
      | d n => simp [itm1, prs] at hu
      | p t => rw [itm1, prs_new] at hu; simp at hu
end K74
end
section
set_option maxRecDepth 100000
set_option linter.unusedVariables false
set_option linter.unusedSimpArgs false
namespace K74
open TX
def keepW (i : Nat) (w : W) : Option W := match w with
  | .tup [.str s, v] => if s = [111, 108, 100] then some (.tup [v, .int (i : Nat)]) else none
  | _ => none
theorem keep_prs : ∀ (its : List Im) (i : Nat), ((its.map encI).zipIdx i).filterMap (fun p => keepW p.2 p.1) = (prs its i).map fun p => .tup [.int p.1, .int p.2]
  | [], i => rfl
  | .old v :: r, i => by
    rw [List.map_cons, List.zipIdx_cons, List.filterMap_cons]
    have ih := keep_prs r (i + 1)
    simp only [encI, keepW, if_true, prs, List.map_cons]
    rw [← ih]; rfl
  | .new c :: r, i => by
    rw [List.map_cons, List.zipIdx_cons, List.filterMap_cons]
    have ih := keep_prs r (i + 1)
    simp only [encI, keepW, prs]
    rw [if_neg (by decide), ← ih]; rfl
theorem pairs_prs : ∀ L : List (Nat × Nat), pairs? (L.map fun p => W.tup [.int p.1, .int p.2]) = some (L.map encP)
  | [] => rfl
  | p :: L => by simp only [List.map_cons, pairs?, pairs_prs L]; rfl
end K74
end
section
set_option maxRecDepth 100000
set_option linter.unusedVariables false
set_option linter.unusedSimpArgs false
namespace K74
open TX
def backI (x : List Nat) (its : List Im) (k : Nat) : Im := match posI its k with
  | some j => .old j
  | none => .new (x.getD k 0)
def backW (x : List Nat) (its : List Im) (w : W) : Option W := match w with
  | .int k => some (encI (backI x its k.toNat))
  | _ => none
theorem c_inP {h : Hp} {dn v : Nat} {its : List Im} (e : h.get dn = some (.dK ((prs its 0).map encP))) : cmpop .inn (.int (v : Nat)) (.obj dn) h = some (posI its v).isSome := by
  simp only [cmpop, inW, e]
  rw [show keyW (.int (v : Nat)) = true from rfl, cond_true, look_prs]
  simp
theorem g_ixP {h : Hp} {dn v j : Nat} {its : List Im} (e : h.get dn = some (.dK ((prs its 0).map encP))) (e2 : posI its v = some j) : getix (.obj dn) (.int (v : Nat)) h = some (.int j, h) := by
  simp only [getix, e]
  rw [show keyW (.int (v : Nat)) = true from rfl, cond_true, look_prs, e2]
  simp
theorem back_ok {F k n : Nat} {h : Hp} {s : List Nat} {os : List Op} {x : List Nat} (e : h.get n = some (.lst ((itms os 0).map encI))) (hn : n < h.n) (ho : ∀ o ∈ os, o.ok s) (ht : sumO takenO os = x.length) (hx : x.length ≤ 100) (hz : sumO sizeO os ≤ 100) :
    Pu (run src.pg F (k + 4) 34 [.obj n, .str x] h) (.tup ((plainOf (turnL x os 0)).map enc)) h := by
  unfold Pu
  rw [run_s src (d := d34) rfl rfl, show d34.body = _ from t34, wp_fin]
  show WpS (evSs _ _ [some (.obj n), some (.str x), none, none, none, none, none] h) _
  have hil := itms_len os 0
  have hL : ((itms os 0).map encI).length ≤ LIM := by rw [List.length_map]; exact Nat.le_trans hil (Nat.le_trans hz (by decide))
  have hxL : x.length ≤ LIM := Nat.le_trans hx (by decide)
  rw [wpS_cons]
  simp [w_lst e hL]
  refine wp_lcGE (g := keepW) ((itms os 0).map encI) _ e hn (fun i w hw h' X => ?_) fun h' X => ?_
  · rw [List.getElem?_map] at hw
    cases q : (itms os 0)[i]? with
    | none => rw [q] at hw; cases hw
    | some it =>
      rw [q] at hw
      cases hw
      rw [wp_lcB1]
      cases it with
      | old v => simp [encI, seq_tup, wipe, keepW, LIM]; exact .refl
      | new c => simp [encI, seq_tup, wipe, keepW, LIM]; exact .refl
  · rw [keep_prs]
    have bd : ∀ (h2 : Hp) (m : Nat), h2.get m = some (.lst ((prs (itms os 0) 0).map fun p => W.tup [.int p.1, .int p.2])) → bfn .dict [.obj m] h2 = some (.obj h2.n, h2.new (.dK ((prs (itms os 0) 0).map encP))) := fun h2 m e2 => by
      have ka : ((prs (itms os 0) 0).map encP).all (fun p => keyW p.1) = true := List.all_eq_true.mpr fun q hq => by
        obtain ⟨p, _, rfl⟩ := List.mem_map.mp hq; rfl
      simp only [bfn, Hp.lst_of e2, Option.bind_some, pairs_prs, ka, cond_true]
      rw [put_new _ [] (fun _ _ _ he => by simp at he) (prs_nodup os 0 0), List.nil_append]
    have X1 : Ext h (h'.new (.lst ((prs (itms os 0) 0).map fun p => W.tup [.int p.1, .int p.2]))) := X.trans (.new _)
    have g1 : (h'.new (.lst ((prs (itms os 0) 0).map fun p => W.tup [.int p.1, .int p.2]))).get h'.n = some (.lst ((prs (itms os 0) 0).map fun p => W.tup [.int p.1, .int p.2])) := get_new_self
    generalize h'.new (.lst ((prs (itms os 0) 0).map fun p => W.tup [.int p.1, .int p.2])) = h1 at *
    rw [bd h1 _ g1]
    have X2 : Ext h (h1.new (.dK ((prs (itms os 0) 0).map encP))) := X1.trans (.new _)
    have g2 : (h1.new (.dK ((prs (itms os 0) 0).map encP))).get h1.n = some (.dK ((prs (itms os 0) 0).map encP)) := get_new_self
    have n2 : h1.n < (h1.new (.dK ((prs (itms os 0) 0).map encP))).n := by rw [Hp.n_new]; omega
    simp
    generalize h1.new (.dK ((prs (itms os 0) 0).map encP)) = h2 at *
    generalize h1.n = dn at *
    rw [wpS_cons]
    simp [f_lenS hxL, rng1 (show (0 : Int) ≤ x.length by omega) (by omega)]
    refine wp_lcG (g := backW x (itms os 0)) _ h2 (fun w hw h3 X3 => ?_) fun h3 X3 => ?_
    · rw [rngL_eq] at hw
      obtain ⟨k', hk, rfl⟩ := List.mem_map.mp hw
      have hk := List.mem_range.mp hk
      have g3 := (X3.get dn n2).trans g2
      rw [wp_lcB0]
      simp [wipe, c_inP g3]
      cases q : posI (itms os 0) k' with
      | some j => simp [g_ixP g3 q, LIM, backW, backI, q, encI]; exact .refl
      | none =>
        have e4 : x[k']? = some (x.getD k' 0) := by rw [List.getD_eq_getElem?_getD, List.getElem?_eq_getElem hk]; rfl
        simp [g_ixS (show (0 : Int) ≤ k' by omega) hxL e4, LIM, backW, backI, q, encI]; exact .refl
    · have el : (rngL x.length 0 1).filterMap (backW x (itms os 0)) = (itms (turnL x os 0) 0).map encI := by
        rw [back_it os 0 0 (by omega), ht, rngL_eq]
        unfold backL
        rw [List.filterMap_map, List.map_map]
        have : (backW x (itms os 0) ∘ fun i : Nat => W.int (i : Nat)) = fun i => some ((encI ∘ fun k => match posI (itms os 0) (0 + k) with
            | some j => Im.old (0 + j)
            | none => Im.new (x.getD (0 + k) 0)) i) := by
          funext i
          simp only [Function.comp, backW, backI, Int.toNat_natCast, Nat.zero_add]
        rw [this]
        exact filterMap_some _ _
      rw [el]
      have X4 : Ext h (h3.new (.lst ((itms (turnL x os 0) 0).map encI))) := X2.trans (X3.trans (.new _))
      have g4 : (h3.new (.lst ((itms (turnL x os 0) 0).map encI))).get h3.n = some (.lst ((itms (turnL x os 0) 0).map encI)) := get_new_self
      have n4 : h3.n < (h3.new (.lst ((itms (turnL x os 0) 0).map encI))).n := by rw [Hp.n_new]; omega
      generalize h3.new (.lst ((itms (turnL x os 0) 0).map encI)) = h4 at *
      generalize h3.n = fn' at *
      rw [wpS_cons]
      simp [f_lenL ((X4.get n hn).trans e)]
      have tt := turn_taken x os 0
      have tz := turn_size x os 0
      have hlen : (itms os 0).length = sumO takenO (turnL x os 0) := by
        rw [tt]
        have : ∀ (os : List Op) (a : Nat), (itms os a).length = sumO leftO os := fun os => by
          induction os with
          | nil => intro a; rfl
          | cons o os ih =>
            intro a
            rw [itms_cons, List.length_append, ih]
            cases o <;> simp [itm1, leftO, sumO]
        exact this os 0
      have kp : ∀ o ∈ turnL x os 0, o.kpos := by
        have : ∀ (os : List Op) (a : Nat), (∀ o ∈ os, o.ok s) → ∀ o ∈ turnL x os a, o.kpos := fun os => by
          induction os with
          | nil => intro a _ o m; simp [turnL] at m
          | cons q os ih =>
            intro a hq o m
            rw [turnL] at m
            rcases List.mem_cons.mp m with rfl | m
            · cases q with
              | k n => exact (hq _ List.mem_cons_self).1
              | d n => trivial
              | p t => trivial
            · exact ih _ (fun o m => hq o (List.mem_cons_of_mem _ m)) o m
        exact this os 0 ho
      have told := told_gen kp
      rw [hlen]
      refine (told26_ok (k := k + 1) (m := sumO takenO (turnL x os 0)) g4 n4 ?_ ?_ ?_).imp fun w h5 ⟨e5, X5⟩ => ?_
      · rw [List.length_map] at *
        have := itms_len (turnL x os 0) 0
        omega
      · omega
      · intro v hv
        have := (itms_old (turnL x os 0) 0 v hv).2
        omega
      · subst e5
        rw [told]
        exact ⟨rfl, X4.trans X5⟩
end K74
end
section
set_option maxRecDepth 100000
set_option linter.unusedVariables false
set_option linter.unusedSimpArgs false
namespace K74
open TX
/-- the error of a wrong length -/
def LenX (n : Nat) (e : Xn) : Prop := e = .own 5 [(16, .str [108, 101, 110, 103, 116, 104]), (17, .int (n : Nat))]
theorem need_taken_bad {F K : Nat} {h : Hp} {os : List Op} {m : Int} (hK : 4 ≤ K) (ho : ∀ o ∈ os, o.num) (hl : os.length ≤ 1000) (hm : (sumO takenO os : Int) ≠ m) : Xe (run src.pg F K 16 [.tup (os.map enc), .int m] h) fun e h' => LenX (sumO takenO os) e ∧ Ext h h' := by
  obtain ⟨k, rfl⟩ : ∃ k, K = k + 4 := ⟨K - 4, by omega⟩
  rw [run_s src (d := d16) rfl rfl, show d16.body = _ from t16]
  refine xe_fin ?_
  show XeS (evSs _ _ [some (.tup (os.map enc)), some (.int m)] h) _
  refine xeS_c1 ?_
  rw [evS_iff]
  refine xeS_s2 ?_
  rw [wp_evB]
  simp
  refine (taken_ok ho hl).imp fun w h2 ⟨e2, X2⟩ => ?_
  subst e2
  simp [hm]
  refine xeS_c1 ?_
  rw [evS_rai]
  show XeS ((evEs _ _ _ _).s _ fun xs h => if [16, 17].length = xs.length then .ex (.own 5 ([16, 17].zip xs)) _ h else .no) _
  refine xeS_s2 ?_
  simp
  refine (taken_ok ho hl).imp fun w h3 ⟨e3, X3⟩ => ?_
  subst e3
  exact ⟨rfl, X2.trans X3⟩
end K74
end
section
set_option maxRecDepth 100000
set_option linter.unusedVariables false
set_option linter.unusedSimpArgs false
namespace K74
open TX
theorem applied_bad {F K : Nat} {h : Hp} {s : List Nat} {os : List Op} {x : List Nat} (hK : 7 ≤ K) (hs : Signs s) (ho : ∀ o ∈ os, o.ok s) (hl : os.length ≤ 1000) (hx : x.length ≤ 1000) (hx2 : ∀ c ∈ x, c ∈ s) (ht : sumO takenO os ≠ x.length) :
    Xe (run src.pg F K 17 [.str s, .tup (os.map enc), .str x] h) fun e h' => LenX (sumO takenO os) e ∧ Ext h h' := by
  obtain ⟨k, rfl⟩ : ∃ k, K = k + 7 := ⟨K - 7, by omega⟩
  have hxL : x.length ≤ LIM := Nat.le_trans hx (by decide)
  rw [run_s src (d := d17) rfl rfl, show d17.body = _ from t17]
  refine xe_fin ?_
  show XeS (evSs _ _ [some (.str s), some (.tup (os.map enc)), some (.str x)] h) _
  refine xeS_c2 ?_
  simp
  refine (need_edit_ok (k := k + 1) hs ho hl).imp fun w h1 ⟨e1, X1⟩ => ?_
  refine xeS_c2 ?_
  simp
  refine (need_text_ok (k := k + 3) hx2 hxL).imp fun w h2 ⟨e2, X2⟩ => ?_
  refine xeS_c1 ?_
  rw [evS_exp]
  refine xeS_s1 ?_
  rw [evE_cal]
  refine xe_b2 ?_
  simp [f_lenS hxL]
  exact (need_taken_bad (K := k + 6) (by omega) (fun o m => (ho o m).num) hl (by omega)).imp fun e h4 ⟨q, X4⟩ => ⟨q, X1.trans (X2.trans X4)⟩
theorem turned_bad {F K : Nat} {h : Hp} {s : List Nat} {os : List Op} {x : List Nat} (hK : 7 ≤ K) (hs : Signs s) (ho : ∀ o ∈ os, o.ok s) (hl : os.length ≤ 1000) (hx : x.length ≤ 1000) (hx2 : ∀ c ∈ x, c ∈ s) (ht : sumO takenO os ≠ x.length) :
    Xe (run src.pg F K 21 [.str s, .tup (os.map enc), .str x] h) fun e h' => LenX (sumO takenO os) e ∧ Ext h h' := by
  obtain ⟨k, rfl⟩ : ∃ k, K = k + 7 := ⟨K - 7, by omega⟩
  have hxL : x.length ≤ LIM := Nat.le_trans hx (by decide)
  rw [run_s src (d := d21) rfl rfl, show d21.body = _ from t21]
  refine xe_fin ?_
  show XeS (evSs _ _ [some (.str s), some (.tup (os.map enc)), some (.str x), none, none, none, none] h) _
  refine xeS_c2 ?_
  simp
  refine (need_edit_ok (k := k + 1) hs ho hl).imp fun w h1 ⟨e1, X1⟩ => ?_
  refine xeS_c2 ?_
  simp
  refine (need_text_ok (k := k + 3) hx2 hxL).imp fun w h2 ⟨e2, X2⟩ => ?_
  refine xeS_c1 ?_
  rw [evS_exp]
  refine xeS_s1 ?_
  rw [evE_cal]
  refine xe_b2 ?_
  simp [f_lenS hxL]
  exact (need_taken_bad (K := k + 6) (by omega) (fun o m => (ho o m).num) hl (by omega)).imp fun e h4 ⟨q, X4⟩ => ⟨q, X1.trans (X2.trans X4)⟩
end K74
end
section
set_option maxRecDepth 100000
set_option linter.unusedVariables false
set_option linter.unusedSimpArgs false
namespace K74
open TX
/-- the clauses of the law's own try -/
def mhs : List Mh := [⟨2, [.cst (.str [66, 97, 100, 83, 105, 103, 110, 115]), .fld 13]⟩, ⟨4, [.cst (.str [66, 97, 100, 80, 97, 112, 101, 114]), .fld 14]⟩, ⟨3, [.cst (.str [66, 97, 100, 87, 111, 114, 100]), .fld 15]⟩, ⟨5, [.cst (.str [78, 111, 116, 75, 101, 112, 116]), .fld 16, .fld 17]⟩]
/-- what it makes of an error -/
def metW (e : Xn) : Option W := match e with
  | .own 2 [(13, w)] => some (.tup [.str [66, 97, 100, 83, 105, 103, 110, 115], w])
  | .own 4 [(14, w)] => some (.tup [.str [66, 97, 100, 80, 97, 112, 101, 114], w])
  | .own 3 [(15, w)] => some (.tup [.str [66, 97, 100, 87, 111, 114, 100], w])
  | .own 5 [(16, v), (17, w)] => some (.tup [.str [78, 111, 116, 75, 101, 112, 116], v, w])
  | _ => none
theorem wp_met4 {c : Cf} {τ : Sl} {h : Hp} {a : E} {l : Lf} {w : W} {e0 : Xn} {Q : W → Hp → Prop} (hc : c.hx = some l) (hpg : c.pg = src.pg) (he : (e0 = .own 2 [(13, w)] ∧ True) ∨ (e0 = .own 4 [(14, w)]) ∨ (e0 = .own 3 [(15, w)]) ∨ ∃ v, e0 = .own 5 [(16, v), (17, w)]) (p : Xe (evE (c.lam l) a τ h) fun e h' => e = e0 ∧ Ext h h') (q : ∀ h' y, metW e0 = some y → Ext h h' → Q y h') : Wp (evE c (.met mhs a) τ h) Q := by
  rw [evE_met, hc]
  show Wp (metR c.pg _ _) Q
  generalize evE (c.lam l) a τ h = r at *
  cases r with
  | ok a h => exact p.elim
  | no => exact p.elim
  | ex e h2 =>
    obtain ⟨rfl, X⟩ := p
    rw [hpg]
    rcases he with ⟨rfl, _⟩ | rfl | rfl | ⟨v, rfl⟩
    · exact q h2 _ rfl X
    · exact q h2 _ rfl X
    · exact q h2 _ rfl X
    · exact q h2 _ rfl X
end K74
end
section
set_option maxRecDepth 100000
set_option linter.unusedVariables false
set_option linter.unusedSimpArgs false
namespace K74
open TX
/-- how many signs are kept -/
def keptI (its : List Im) : Nat := (its.filter fun i => match i with | .old _ => true | .new _ => false).length
theorem kept_app (a b : List Im) : keptI (a ++ b) = keptI a + keptI b := by simp [keptI]
theorem cost_kept : ∀ (os : List Op) (a : Nat), (sumO costO os : Int) = sumO takenO os + sumO leftO os - 2 * keptI (itms os a)
  | [], a => by simp [sumO, itms, keptI]
  | o :: os, a => by
    have ih := cost_kept os (a + takenO o)
    have e1 : sumO costO (o :: os) = costO o + sumO costO os := by simp [sumO]
    have e2 : sumO takenO (o :: os) = takenO o + sumO takenO os := by simp [sumO]
    have e3 : sumO leftO (o :: os) = leftO o + sumO leftO os := by simp [sumO]
    rw [e1, e2, e3, itms_cons, kept_app]
    have k : (costO o : Int) = takenO o + leftO o - 2 * keptI (itm1 a o) := by
      cases o with
      | k n =>
        have : keptI (itm1 a (.k n)) = n := by
          simp only [itm1, keptI]
          rw [List.filter_eq_self.mpr (fun i hi => by obtain ⟨j, _, rfl⟩ := List.mem_map.mp hi; rfl)]
          simp
        rw [this]; simp only [costO, takenO, leftO]; omega
      | d n => simp [itm1, keptI, costO, takenO, leftO]
      | p t =>
        have : keptI (itm1 a (.p t)) = 0 := by
          simp only [itm1, keptI]
          rw [List.filter_eq_nil_iff.mpr (fun i hi => by obtain ⟨j, _, rfl⟩ := List.mem_map.mp hi; simp)]
          rfl
        rw [this]; simp [costO, takenO, leftO]
    omega
end K74
end
section
set_option maxRecDepth 100000
set_option linter.unusedVariables false
set_option linter.unusedSimpArgs false
namespace K74
open TX
theorem turn_turn (x y : List Nat) : ∀ (os : List Op) (a b : Nat), a + sumO takenO os ≤ x.length → y.drop b = out x os a → turnL y (turnL x os a) b = os
  | [], a, b, _, _ => rfl
  | .k n :: os, a, b, h, e => by
    have e2 : sumO takenO (.k n :: os) = n + sumO takenO os := by simp [sumO, takenO]
    rw [e2] at h
    rw [out] at e
    have hl : ((x.drop a).take n).length = n := by simp; omega
    have e4 : y.drop (b + n) = out x os (a + n) := by
      rw [← List.drop_drop, e, List.drop_append_of_le_length (by omega), List.drop_eq_nil_of_le (by omega)]
      rfl
    show Op.k n :: turnL y (turnL x os (a + n)) (b + n) = _
    rw [turn_turn x y os _ _ (by omega) e4]
  | .d n :: os, a, b, h, e => by
    have e2 : sumO takenO (.d n :: os) = n + sumO takenO os := by simp [sumO, takenO]
    rw [e2] at h
    rw [out] at e
    have hl : ((x.drop a).take n).length = n := by simp; omega
    show Op.d ((x.drop a).take n).length :: turnL y (turnL x os (a + n)) (b + 0) = _
    rw [hl, Nat.add_zero, turn_turn x y os _ _ (by omega) e]
  | .p t :: os, a, b, h, e => by
    have e2 : sumO takenO (.p t :: os) = sumO takenO os := by simp [sumO, takenO]
    rw [e2] at h
    rw [out] at e
    have e4 : y.drop (b + t.length) = out x os a := by
      rw [← List.drop_drop, e]; simp
    show Op.p ((y.drop b).take t.length) :: turnL y (turnL x os (a + 0)) (b + t.length) = _
    rw [Nat.add_zero, turn_turn x y os _ _ h e4, e]
    simp
end K74
end
section
set_option maxRecDepth 100000
set_option linter.unusedVariables false
set_option linter.unusedSimpArgs false
namespace K74
open TX
theorem turn_kpos {s : List Nat} (x : List Nat) : ∀ (os : List Op) (a : Nat), (∀ o ∈ os, o.kpos) → ∀ o ∈ turnL x os a, o.kpos
  | [], a, _, o, m => by simp [turnL] at m
  | q :: os, a, hq, o, m => by
    rw [turnL] at m
    rcases List.mem_cons.mp m with rfl | m
    · cases q with
      | k n => exact hq _ List.mem_cons_self
      | d n => trivial
      | p t => trivial
    · exact turn_kpos (s := s) x os _ (fun o m => hq o (List.mem_cons_of_mem _ m)) o m
theorem ok_kpos {s : List Nat} {o : Op} (h : o.ok s) : o.kpos := by
  cases o with
  | k n => exact h.1
  | d n => trivial
  | p t => trivial
/-- an edit back, turned back again -/
theorem turn_twice {s x : List Nat} {os : List Op} (ho : ∀ o ∈ os, o.ok s) (hT : ∀ o ∈ plainOf (turnL x os 0), o.ok s) (ht : sumO takenO os = x.length) : plainOf (turnL (ap x os).1 (plainOf (turnL x os 0)) 0) = plainOf os := by
  have hy : (ap x os).1 = out x os 0 := by unfold ap; rw [ap_out]; simp
  have tt : turnL (ap x os).1 (turnL x os 0) 0 = os := turn_turn x _ os 0 0 (by omega) (by rw [List.drop_zero, hy])
  have hl : (ap x os).1.length = sumO takenO (turnL x os 0) := by
    rw [turn_taken]
    have : ∀ (os : List Op) (a : Nat), a + sumO takenO os ≤ x.length → (out x os a).length = sumO leftO os := fun os => by
      induction os with
      | nil => intro a _; rfl
      | cons o os ih =>
        intro a h
        have e2 : sumO takenO (o :: os) = takenO o + sumO takenO os := by simp [sumO]
        have e3 : sumO leftO (o :: os) = leftO o + sumO leftO os := by simp [sumO]
        rw [e2] at h
        rw [e3]
        cases o with
        | k n => simp only [takenO, leftO] at *; rw [out, List.length_append, ih _ (by omega)]; simp; omega
        | d n => simp only [takenO, leftO] at *; rw [out, ih _ (by omega)]; omega
        | p t => simp only [takenO, leftO] at *; rw [out, List.length_append, ih _ (by omega)]
    rw [hy, this os 0 (by omega)]
  have hp := taken_plain (turnL x os 0)
  have i1 := back_it (x := (ap x os).1) (plainOf (turnL x os 0)) 0 0 (by omega)
  have i2 := back_it (x := (ap x os).1) (turnL x os 0) 0 0 (by omega)
  rw [itms_plain, hp, ← i2, tt] at i1
  have k1 : ∀ o ∈ turnL (ap x os).1 (plainOf (turnL x os 0)) 0, o.kpos := turn_kpos (s := s) _ _ 0 fun o m => ok_kpos (hT o m)
  have k2 : ∀ o ∈ os, o.kpos := fun o m => ok_kpos (ho o m)
  have t1 : sumO takenO (turnL (ap x os).1 (plainOf (turnL x os 0)) 0) = sumO takenO os := by
    rw [turn_taken]
    have : sumO leftO (plainOf (turnL x os 0)) = sumO leftO (turnL x os 0) := sum_plain add_left _
    rw [this, ← turn_taken (ap x os).1 (turnL x os 0) 0, tt]
  rw [← told_gen k1, ← told_gen k2, i1, t1]
end K74
end
section
set_option maxRecDepth 100000
set_option linter.unusedVariables false
set_option linter.unusedSimpArgs false
namespace K74
open TX
theorem ap_len2 {x : List Nat} {os : List Op} (h : sumO takenO os ≤ x.length) : (ap x os).1 = (itms os 0).map (sgn x) := by
  unfold ap
  rw [ap_out, List.nil_append]
  have : ∀ (os : List Op) (a : Nat), a + sumO takenO os ≤ x.length → out x os a = (itms os a).map (sgn x) := fun os => by
    induction os with
    | nil => intro a _; rfl
    | cons o os ih =>
      intro a h
      have e2 : sumO takenO (o :: os) = takenO o + sumO takenO os := by simp [sumO]
      rw [e2] at h
      rw [itms_cons, List.map_append]
      cases o with
      | k n =>
        simp only [takenO] at h ⊢
        rw [out, ih _ (by omega)]
        congr 1
        refine List.ext_getElem (by simp [itm1]; omega) fun i h1 h2 => ?_
        simp at h1
        simp only [itm1, List.getElem_map, List.getElem_range, List.getElem_take, List.getElem_drop, sgn]
        rw [List.getD_eq_getElem?_getD, List.getElem?_eq_getElem (show a + i < x.length by omega)]
        rfl
      | d n => simp only [takenO] at h ⊢; rw [out, ih _ (by omega)]; rfl
      | p t =>
        simp only [takenO, Nat.add_zero] at h ⊢
        rw [out, ih _ (by omega)]
        congr 1
        simp only [itm1, List.map_map]
        exact (List.map_id' t).symm.trans (List.map_congr_left fun _ _ => rfl)
  exact this os 0 (by omega)
end K74
end
section
set_option maxRecDepth 100000
set_option linter.unusedVariables false
set_option linter.unusedSimpArgs false
namespace K74
open TX
@[simp] theorem c_isB {a b : Bool} {h : Hp} : cmpop .is (.bl a) (.bl b) h = some (a == b) := rfl
@[simp] theorem c_isnB {a b : Bool} {h : Hp} : cmpop .isn (.bl a) (.bl b) h = some (!(a == b)) := rfl
theorem ne_self {h : Hp} {xs : List W} (hd : ∀ x ∈ xs, dataQ h 19 x = true) : cmpop .ne (.tup xs) (.tup xs) h = some false := by
  show (eqW h _ _).map _ = _
  rw [eqW_tup hd]; rfl
theorem pick_lK {F K p n : Nat} {B : Int} {h : Hp} {xs : List W} (hK : 3 ≤ K) (P : Pen p B h) (e : h.get n = some (.lst xs)) (hn : n < h.n) (hp : n ≠ p) (h1 : xs ≠ []) (h2 : xs.length ≤ 1000) (hB : B < 2 ^ 40) :
    Wp (run src.pg F K 27 [.obj p, .obj n] h) fun w h' => w ∈ xs ∧ Pen p (B + 1) h' ∧ ExtP p h h' := by
  obtain ⟨k, rfl⟩ : ∃ k, K = k + 3 := ⟨K - 3, by omega⟩
  exact pick_l P e hn hp h1 h2 hB
def tSigns (w : W) : W := .tup [.str [66, 97, 100, 83, 105, 103, 110, 115], w]
def tPaper (w : W) : W := .tup [.str [66, 97, 100, 80, 97, 112, 101, 114], w]
def tWord (w : W) : W := .tup [.str [66, 97, 100, 87, 111, 114, 100], w]
def tKept (n : Nat) : W := .tup [.str [78, 111, 116, 75, 101, 112, 116], .str [108, 101, 110, 103, 116, 104], .int n]
/-- an error, and what the law's own try makes of it -/
def MetE (y : W) (e : Xn) : Prop := (∃ w, e = .own 2 [(13, w)] ∧ y = tSigns w) ∨ (∃ w, e = .own 4 [(14, w)] ∧ y = tPaper w) ∨ (∃ w, e = .own 3 [(15, w)] ∧ y = tWord w) ∨ ∃ n, LenX n e ∧ y = tKept n
theorem met_cal {c : Cf} {τ : Sl} {h : Hp} {g : Nat} {as : Es} {xs : List W} {l : Lf} {y : W} {Q : W → Hp → Prop} (hc : c.hx = some l) (hpg : c.pg = src.pg) (ha : evEs (c.lam l) as τ h = .ok xs h) (p : Xe (l.cf g xs h) fun e h' => MetE y e ∧ Ext h h') (q : ∀ h', Ext h h' → Q y h') : Wp (evE c (.met mhs (.cal g as)) τ h) Q := by
  rw [evE_met, hc]
  show Wp (metR c.pg _ (evE (c.lam l) (.cal g as) τ h)) Q
  rw [evE_cal, ha]
  show Wp (metR c.pg _ (l.cf g xs h)) Q
  generalize l.cf g xs h = r at *
  cases r with
  | ok a h => exact p.elim
  | no => exact p.elim
  | ex e h2 =>
    obtain ⟨m, X⟩ := p
    rw [hpg]
    rcases m with ⟨w, rfl, rfl⟩ | ⟨w, rfl, rfl⟩ | ⟨w, rfl, rfl⟩ | ⟨n, rfl, rfl⟩
    · exact q h2 X
    · exact q h2 X
    · exact q h2 X
    · exact q h2 X
theorem b_appL {n : Nat} {xs : List W} {w : W} {h : Hp} (e : h.get n = some (.lst xs)) (hl : xs.length < LIM) : bmeth .lst (.obj n) 0 [w] h = some (.non, h.set n (.lst (xs ++ [w]))) := by
  simp only [bmeth, e, if_pos hl]
theorem m_appL {n : Nat} {xs : List W} {h : Hp} {pg : Pg} (e : h.get n = some (.lst xs)) : mkind pg h 0 (.obj n) = .bt .lst := by simp only [mkind, e]
theorem b_repL {n : Nat} {xs : List W} {k : Int} {h : Hp} (e : h.get n = some (.lst xs)) (h1 : 0 ≤ k ∧ k ≤ 1000 ∧ xs.length ≤ 1000) : binop .mul (.obj n) (.int k) h = some (.obj h.n, h.new (.lst (rep xs k.toNat))) := by
  simp only [binop, e, if_pos h1]
theorem eqW_lst {h : Hp} {n m : Nat} {xs : List W} (e1 : h.get n = some (.lst xs)) (e2 : h.get m = some (.lst xs)) (hd : ∀ x ∈ xs, dataQ h 19 x = true) : eqW h (.obj n) (.obj m) = some true := by
  have a1 : dataQ h DEEP (.obj n) = true := by
    show dataQ h (19 + 1) (.obj n) = true
    rw [dataQ, Hp.lst_of e1]; exact List.all_eq_true.mpr hd
  have a2 : dataQ h DEEP (.obj m) = true := by
    show dataQ h (19 + 1) (.obj m) = true
    rw [dataQ, Hp.lst_of e2]; exact List.all_eq_true.mpr hd
  unfold eqW
  simp only
  rw [a1, a2]
  show some (eqD h (19 + 1) (.obj n) (.obj m)) = _
  rw [eqD, Hp.lst_of e1, Hp.lst_of e2]
  simp only
  rw [eqL_self xs fun x hx => eqD_self 19 x (hd x hx)]
/-- the last third: a text of another length -/
theorem edit_right3 {F K p : Nat} {B : Int} {h : Hp} {s x : List Nat} {os : List Op} {t4 t5 t6 t7 t8 t10 t11 t12 t13 : Option W} (hK : 20 ≤ K) (hs : Signs s) (hx2 : ∀ c ∈ x, c ∈ s) (hx : x.length ≤ 20) (ho : ∀ o ∈ os, o.ok s) (ht : sumO takenO os = x.length) (hz : sumO sizeO os ≤ 60) (hl : os.length ≤ 60) (P : Pen p B h) (hB : B < 2 ^ 38) :
    WpS (evSs ⟨src.pg, F, run src.pg F K, run src.pg F (K - 1), lamOf src.pg F (K - 1)⟩ (.cons (.asg (.nm 6) (.cal 27 (.cons (.var 0) (.cons (.lst (.cons (.bin .add (.var 2) (.ix (.var 1) (.cst (.int 0)))) (.cons (.ite (.cmp .ne (.var 2) (.cst (.str []))) (.sl (.var 2) (.som (.cst (.int 1))) .non) (.bin .mul (.ix (.var 1) (.cst (.int 0))) (.cst (.int 2)))) .nil))) .nil)))) (.cons (.asg (.nm 7) (.lst (.cons (.met [⟨2, [.cst (.str [66, 97, 100, 83, 105, 103, 110, 115]), .fld 13]⟩, ⟨4, [.cst (.str [66, 97, 100, 80, 97, 112, 101, 114]), .fld 14]⟩, ⟨3, [.cst (.str [66, 97, 100, 87, 111, 114, 100]), .fld 15]⟩, ⟨5, [.cst (.str [78, 111, 116, 75, 101, 112, 116]), .fld 16, .fld 17]⟩] (.cal 17 (.cons (.var 1) (.cons (.var 3) (.cons (.var 6) .nil))))) .nil))) (.cons (.exp (.mth (.var 7) 0 (.cons (.met [⟨2, [.cst (.str [66, 97, 100, 83, 105, 103, 110, 115]), .fld 13]⟩, ⟨4, [.cst (.str [66, 97, 100, 80, 97, 112, 101, 114]), .fld 14]⟩, ⟨3, [.cst (.str [66, 97, 100, 87, 111, 114, 100]), .fld 15]⟩, ⟨5, [.cst (.str [78, 111, 116, 75, 101, 112, 116]), .fld 16, .fld 17]⟩] (.cal 21 (.cons (.var 1) (.cons (.var 3) (.cons (.var 6) .nil))))) .nil))) (.cons (.ret (.cmp .eq (.var 7) (.bin .mul (.lst (.cons (.tup (.cons (.cst (.str [78, 111, 116, 75, 101, 112, 116])) (.cons (.cst (.str [108, 101, 110, 103, 116, 104])) (.cons (.var 9) .nil)))) .nil)) (.cst (.int 2))))) .nil)))) [some (.obj p), some (.str s), some (.str x), some (.tup (os.map enc)), t4, t5, t6, t7, t8, some (.int x.length), t10, t11, t12, t13] h) (fnl fun w h' => w = .bl true ∧ Pen p (B + 1) h' ∧ ExtP p h h') := by
  obtain ⟨k, rfl⟩ : ∃ k, K = k + 20 := ⟨K - 20, by omega⟩
  simp only [show k + 20 - 1 = k + 19 from rfl]
  have hxL : x.length ≤ LIM := Nat.le_trans hx (by decide)
  obtain ⟨c0, sr, rfl⟩ : ∃ c r, s = c :: r := by
    cases s with
    | nil => exact absurd rfl hs.ne
    | cons c r => exact ⟨c, r, rfl⟩
  have sl := hs.len
  have go : ∀ (odd : List Nat) (h1 : Hp) (t : Option W), odd.length ≤ 21 → odd.length ≠ x.length → (∀ c ∈ odd, c ∈ c0 :: sr) → Pen p (B + 1) h1 → ExtP p h h1 → WpS (evSs ⟨src.pg, F, run src.pg F (k + 20), run src.pg F (k + 19), lamOf src.pg F (k + 19)⟩ (.cons (.asg (.nm 7) (.lst (.cons (.met [⟨2, [.cst (.str [66, 97, 100, 83, 105, 103, 110, 115]), .fld 13]⟩, ⟨4, [.cst (.str [66, 97, 100, 80, 97, 112, 101, 114]), .fld 14]⟩, ⟨3, [.cst (.str [66, 97, 100, 87, 111, 114, 100]), .fld 15]⟩, ⟨5, [.cst (.str [78, 111, 116, 75, 101, 112, 116]), .fld 16, .fld 17]⟩] (.cal 17 (.cons (.var 1) (.cons (.var 3) (.cons (.var 6) .nil))))) .nil))) (.cons (.exp (.mth (.var 7) 0 (.cons (.met [⟨2, [.cst (.str [66, 97, 100, 83, 105, 103, 110, 115]), .fld 13]⟩, ⟨4, [.cst (.str [66, 97, 100, 80, 97, 112, 101, 114]), .fld 14]⟩, ⟨3, [.cst (.str [66, 97, 100, 87, 111, 114, 100]), .fld 15]⟩, ⟨5, [.cst (.str [78, 111, 116, 75, 101, 112, 116]), .fld 16, .fld 17]⟩] (.cal 21 (.cons (.var 1) (.cons (.var 3) (.cons (.var 6) .nil))))) .nil))) (.cons (.ret (.cmp .eq (.var 7) (.bin .mul (.lst (.cons (.tup (.cons (.cst (.str [78, 111, 116, 75, 101, 112, 116])) (.cons (.cst (.str [108, 101, 110, 103, 116, 104])) (.cons (.var 9) .nil)))) .nil)) (.cst (.int 2))))) .nil))) [some (.obj p), some (.str (c0 :: sr)), some (.str x), some (.tup (os.map enc)), t4, t5, some (.str odd), t, t8, some (.int x.length), t10, t11, t12, t13] h1) (fnl fun w h' => w = .bl true ∧ Pen p (B + 1) h' ∧ ExtP p h h') := by
    intro odd h1 t ol on oin P1 X1
    rw [wpS_cons]
    simp [-evE_met]
    refine met_cal (l := ⟨run src.pg F (k + 18), run src.pg F (k + 17)⟩) (y := tKept x.length) rfl rfl (xs := [.str (c0 :: sr), .tup (os.map enc), .str odd]) (by simp [R.b]) ((applied_bad (K := k + 18) (by omega) hs ho (by omega) (by omega) oin (by omega)).imp fun e h2 ⟨a, b⟩ => ⟨.inr (.inr (.inr ⟨_, a, by rw [ht]⟩)), b⟩) fun h2 X2 => ?_
    have g3 : (h2.new (.lst [tKept x.length])).get h2.n = some (.lst [tKept x.length]) := get_new_self
    have P3 := (P1.ex X2).new (.lst [tKept x.length])
    have X3 := X1.trans (.of (X2.trans (.new (.lst [tKept x.length]))))
    have l3 : h2.n < (h2.new (.lst [tKept x.length])).n := by rw [Hp.n_new]; omega
    have lp : p < h2.n := (P1.ex X2).lt
    have lh : h.n ≤ h2.n := Nat.le_trans X1.le X2.le
    simp [LIM, -evE_met]
    generalize h2.new (.lst [tKept x.length]) = h3 at *
    generalize h2.n = m at *
    rw [wpS_cons]
    simp [-evE_met, m_appL g3]
    refine met_cal (l := ⟨run src.pg F (k + 18), run src.pg F (k + 17)⟩) (y := tKept x.length) rfl rfl (xs := [.str (c0 :: sr), .tup (os.map enc), .str odd]) (by simp [R.b]) ((turned_bad (K := k + 18) (by omega) hs ho (by omega) (by omega) oin (by omega)).imp fun e h2 ⟨a, b⟩ => ⟨.inr (.inr (.inr ⟨_, a, by rw [ht]⟩)), b⟩) fun h4 X4 => ?_
    have g4 := (X4.get _ l3).trans g3
    have l4 := Nat.lt_of_lt_of_le l3 X4.le
    rw [show bmeth .lst (.obj m) 0 [tKept x.length] h4 = some (.non, h4.set m (.lst [tKept x.length, tKept x.length])) from b_appL g4 (by simp [LIM])]
    have P5 := (P3.ex X4).set lp (.lst [tKept x.length, tKept x.length])
    have X5 := (X3.trans (.of X4)).set lh (.lst [tKept x.length, tKept x.length])
    have g5 : (h4.set m (.lst [tKept x.length, tKept x.length])).get m = some (.lst [tKept x.length, tKept x.length]) := by rw [Hp.get_set, if_pos rfl]
    simp
    have l5 : m < (h4.set m (.lst [tKept x.length, tKept x.length])).n := by rw [Hp.n_set]; exact l4
    generalize h4.set m (.lst [tKept x.length, tKept x.length]) = h5 at *
    rw [wpS_cons]
    simp [LIM]
    have X6 : Ext h5 (h5.new (.lst [tKept x.length])) := .new _
    have g6 : (h5.new (.lst [tKept x.length])).get h5.n = some (.lst [tKept x.length]) := get_new_self
    change Wp (lf (binop .mul (.obj h5.n) (.int 2) (h5.new (.lst [tKept x.length])))) _
    have n6 : (h5.new (.lst [tKept x.length])).n = h5.n + 1 := Hp.n_new _ _
    generalize h5.new (.lst [tKept x.length]) = h6 at *
    rw [show binop .mul (.obj h5.n) (.int 2) h6 = some (.obj h6.n, h6.new (.lst [tKept x.length, tKept x.length])) from b_repL g6 (by simp)]
    simp
    have X7 : Ext h6 (h6.new (.lst [tKept x.length, tKept x.length])) := .new _
    have g7 : (h6.new (.lst [tKept x.length, tKept x.length])).get h6.n = some (.lst [tKept x.length, tKept x.length]) := get_new_self
    change Ot (cmpop .eq (.obj m) (.obj h6.n) (h6.new (.lst [tKept x.length, tKept x.length]))) _
    generalize h6.new (.lst [tKept x.length, tKept x.length]) = h7 at *
    have X8 := X6.trans X7
    have g8 := (X8.get _ l5).trans g5
    have hd : ∀ y ∈ [tKept x.length, tKept x.length], dataQ h7 19 y = true := fun y hy => by
      simp at hy
      subst hy
      simp [tKept, dataQ]
    rw [show cmpop .eq (.obj m) (.obj h6.n) h7 = some true from eqW_lst g8 g7 hd]
    simp
    exact ⟨P5.ex X8, X5.trans (.of X8)⟩
  rw [wpS_cons]
  have hpick : ∀ (odd1 odd2 : List Nat) (τ : Sl), odd1.length ≤ 21 → odd1.length ≠ x.length → (∀ c ∈ odd1, c ∈ c0 :: sr) → odd2.length ≤ 21 → odd2.length ≠ x.length → (∀ c ∈ odd2, c ∈ c0 :: sr) → Wp (run src.pg F (k + 20) 27 [.obj p, .obj h.n] (h.new (.lst [.str odd1, .str odd2]))) fun w h1 => ∃ odd, w = .str odd ∧ odd.length ≤ 21 ∧ odd.length ≠ x.length ∧ (∀ c ∈ odd, c ∈ c0 :: sr) ∧ Pen p (B + 1) h1 ∧ ExtP p h h1 := fun o1 o2 τ a1 b1 c1 a2 b2 c2 => by
    have l1 : h.n < (h.new (.lst [.str o1, .str o2])).n := by rw [Hp.n_new]; omega
    refine (pick_lK (K := k + 20) (by omega) (P.new _) get_new_self l1 (by have := P.lt; omega) (by simp) (by simp) (by omega)).imp fun w h1 ⟨m, P1, X1⟩ => ?_
    have X := (ExtP.of (p := p) (.new (.lst [.str o1, .str o2]))).trans X1
    simp at m
    rcases m with rfl | rfl
    · exact ⟨_, rfl, a1, b1, c1, P1, X⟩
    · exact ⟨_, rfl, a2, b2, c2, P1, X⟩
  cases x with
  | nil =>
    simp [LIM, g_ixS (show (0 : Int) ≤ 0 by omega) sl.1 rfl]
    rw [b_addS (by simp [LIM])]
    simp
    rw [show binop .mul (.str [c0]) (.int 2) h = some (.str [c0, c0], h) from rfl]
    simp
    refine (hpick [c0] [c0, c0] [] (by simp) (by simp) (by simp) (by simp) (by simp) (by simp)).imp fun w h1 ⟨odd, e, a, b, c, P1, X1⟩ => ?_
    subst e
    exact go odd h1 _ a b c P1 X1
  | cons c x =>
    simp at hx
    simp [LIM, g_ixS (show (0 : Int) ≤ 0 by omega) sl.1 rfl]
    rw [b_addS (by simp [LIM]; omega)]
    simp
    rw [sl_tail (by simp at hxL; exact hxL)]
    simp
    refine (hpick (c :: x ++ [c0]) x [] (by simp; omega) (by simp) (fun a m => by rcases List.mem_append.mp m with q | q; exact hx2 a q; simp at q; simp [q]) (by omega) (by simp) (fun a m => hx2 a (List.mem_cons_of_mem _ m))).imp fun w h1 ⟨odd, e, a, b, c, P1, X1⟩ => ?_
    subst e
    exact go odd h1 _ a b c P1 X1
end K74
end
section
set_option maxRecDepth 100000
set_option linter.unusedVariables false
set_option linter.unusedSimpArgs false
namespace K74
open TX
theorem all_b {n : Nat} {h : Hp} {bs : List Bool} (e : h.get n = some (.lst (bs.map .bl))) : bfn .all [.obj n] h = some (.bl (bs.all id), h) := f_allL e
def inB (s : List Nat) (t : List Nat) : Bool := t.all fun c => s.any (Nat.beq c)
theorem text_gen {F k : Nat} {h : Hp} {s t : List Nat} (hl : t.length ≤ LIM) : Pu (run src.pg F (k + 2) 2 [.str s, .str t] h) (.bl (inB s t)) h := by
  unfold Pu
  rw [run_s src (d := d2) rfl rfl, show d2.body = _ from t2, wp_fin]
  show WpS (evSs _ _ [some (.str s), some (.str t), none] h) _
  rw [wpS_cons]
  simp [w_str hl]
  refine wp_lcG (g := fun w => match w with | .str [c] => some (.bl (s.any (Nat.beq c))) | _ => none) _ h (fun x hx h' X => ?_) fun h' X => ?_
  · obtain ⟨c, hc, rfl⟩ := List.mem_map.mp hx
    rw [wp_lcB0]
    simp [wipe, c_inS]
    exact .refl
  · have e : (List.filterMap (fun w => match w with | .str [c] => some (W.bl (s.any (Nat.beq c))) | _ => none) (t.map fun c => W.str [c])) = (t.map fun c => s.any (Nat.beq c)).map .bl := by
      rw [List.filterMap_map, List.map_map]
      exact filterMap_some _ _
    rw [e, all_b get_new_self]
    simp
    have : (List.all (List.map (fun c => s.any (Nat.beq c)) t) id) = inB s t := by simp [inB, List.all_map]
    refine ⟨?_, X.trans (.new _)⟩
    rw [Bool.eq_iff_iff]
    simp [inB]
def digs10 : List Nat := [48, 49, 50, 51, 52, 53, 54, 55, 56, 57]
def wordB (s : List Nat) : List Nat → Bool
  | c0 :: c1 :: r => if c0 = 112 then inB s (c1 :: r) else if c0 ≠ 107 ∧ c0 ≠ 100 then false else if r.length > 5 then false else if c1 = 48 then false else inB digs10 (c1 :: r)
  | _ => false
theorem word_short {F k : Nat} {h : Hp} {s w : List Nat} (hl : w.length < 2) : Pu (run src.pg F (k + 3) 4 [.str s, .str w] h) (.bl false) h := by
  unfold Pu
  rw [run_s src (d := d4) rfl rfl, show d4.body = _ from t4, wp_fin]
  show WpS (evSs _ _ [some (.str s), some (.str w), none] h) _
  have hL : w.length ≤ LIM := Nat.le_trans (Nat.le_of_lt hl) (by decide)
  rw [wpS_cons]
  simp [f_lenS hL]
  rw [decide_eq_true (by omega)]
  simp [wpS_cons]
  exact .refl
theorem word_flat {F k : Nat} {h : Hp} {s : List Nat} {w : W} (hw : w = .non ∨ ∃ i, w = .int i) : Pu (run src.pg F (k + 3) 4 [.str s, w] h) (.bl false) h := by
  unfold Pu
  rw [run_s src (d := d4) rfl rfl, show d4.body = _ from t4, wp_fin]
  show WpS (evSs _ _ [some (.str s), some w, none] h) _
  rw [wpS_cons]
  have e : bfn .isi [w, .ty "str"] h = some (.bl false, h) := by
    rcases hw with rfl | ⟨i, rfl⟩ <;> rfl
  simp [e, wpS_cons]
  exact .refl
theorem word_gen {F k : Nat} {h : Hp} {s w : List Nat} (hL : w.length ≤ LIM) : Pu (run src.pg F (k + 3) 4 [.str s, .str w] h) (.bl (wordB s w)) h := by
  match w with
  | [] => exact word_short (by simp)
  | [_] => exact word_short (by simp)
  | c0 :: c1 :: r =>
    unfold Pu
    rw [run_s src (d := d4) rfl rfl, show d4.body = _ from t4, wp_fin]
    show WpS (evSs _ _ [some (.str s), some (.str (c0 :: c1 :: r)), none] h) _
    have i0 : getix (.str (c0 :: c1 :: r)) (.int 0) = fun h => some (.str [c0], h) := by
      funext h
      exact g_ixS (Int.le_refl 0) hL rfl
    have i1 : getix (.str (c0 :: c1 :: r)) (.int 1) = fun h => some (.str [c1], h) := by
      funext h
      exact g_ixS (by decide) hL rfl
    have hL2 : (c1 :: r).length ≤ LIM := Nat.le_trans (Nat.le_succ _) hL
    rw [wpS_cons]
    simp [f_lenS hL]
    rw [decide_eq_false (by omega)]
    simp
    rw [wpS_cons]
    simp [i0]
    by_cases e1 : c0 = 112
    · subst e1
      simp [wpS_cons, sl_tail hL]
      rw [show wordB s (112 :: c1 :: r) = inB s (c1 :: r) from rfl]
      exact text_gen hL2
    · rw [decide_eq_false e1]
      simp
      rw [wpS_cons]
      have n1 : cmpop .nin (.str [c0]) (.tup [.str [107], .str [100]]) h = some (decide (c0 ≠ 107 ∧ c0 ≠ 100)) := by
        have e : cmpop .nin (.str [c0]) (.tup [.str [107], .str [100]]) h = some (!((bif Nat.beq 107 c0 then true else false) || ((bif Nat.beq 100 c0 then true else false) || false))) := rfl
        rw [e]
        congr 1
        by_cases a : c0 = 107
        · subst a; rfl
        · by_cases b : c0 = 100
          · subst b; rfl
          · rw [show Nat.beq 107 c0 = false from by rw [Bool.eq_false_iff]; intro q; have := Nat.eq_of_beq_eq_true q; omega, show Nat.beq 100 c0 = false from by rw [Bool.eq_false_iff]; intro q; have := Nat.eq_of_beq_eq_true q; omega]
            simp [a, b]
      simp [i0, i1, n1, f_lenS hL, LIM]
      by_cases e2 : c0 ≠ 107 ∧ c0 ≠ 100
      · simp [e2, wordB, e1, wpS_cons]
        exact .refl
      · have e2' : (!decide (c0 = 107) && !decide (c0 = 100)) = false := by
          rw [Bool.eq_false_iff]; intro q; apply e2; simpa using q
        rw [e2']
        simp
        by_cases e3 : r.length > 5
        · rw [decide_eq_true (by omega)]
          have : wordB s (c0 :: c1 :: r) = false := by simp only [wordB, if_neg e1, if_neg e2, if_pos e3]
          rw [this]
          simp [wpS_cons]
          exact .refl
        · rw [decide_eq_false (by omega)]
          simp
          by_cases e4 : c1 = 48
          · have : wordB s (c0 :: c1 :: r) = false := by simp only [wordB, if_neg e1, if_neg e2, if_neg e3, if_pos e4]
            rw [this, decide_eq_true e4]
            simp [wpS_cons]
            exact .refl
          · rw [decide_eq_false e4]
            have ew : wordB s (c0 :: c1 :: r) = inB digs10 (c1 :: r) := by simp only [wordB, if_neg e1, if_neg e2, if_neg e3, if_neg e4]
            rw [ew]
            simp
            rw [wpS_cons]
            simp [sl_tail hL, w_str hL2]
            generalize hcr : c1 :: r = t at *
            rw [show (W.str [c1] :: r.map fun c => W.str [c]) = t.map fun c => W.str [c] by rw [← hcr]; rfl]
            refine wp_lcG (g := fun w => match w with | .str [c] => some (.bl (digs10.any (Nat.beq c))) | _ => none) _ h (fun x hx h' X => ?_) fun h' X => ?_
            · obtain ⟨c, hc, rfl⟩ := List.mem_map.mp hx
              rw [wp_lcB0]
              simp only [evT_nm, wp_ok, wp_cmp, evE_cst, c_inS]
              simp [wipe, c_inS, digs10]
              exact .refl
            · have e : (List.filterMap (fun w => match w with | .str [c] => some (W.bl (digs10.any (Nat.beq c))) | _ => none) (t.map fun c => W.str [c])) = (t.map fun c => digs10.any (Nat.beq c)).map .bl := by
                rw [List.filterMap_map, List.map_map]
                exact filterMap_some _ _
              rw [e, all_b get_new_self]
              simp
              refine ⟨?_, X.trans (.new _)⟩
              rw [Bool.eq_iff_iff]
              simp [inB]
end K74
end
section
set_option maxRecDepth 100000
set_option linter.unusedVariables false
set_option linter.unusedSimpArgs false
namespace K74
open TX
def flatA (w : W) : Prop := w = .non ∨ (∃ i, w = .int i) ∨ ∃ t, w = .str t ∧ t.length ≤ LIM
def wordW (s : List Nat) : W → Bool
  | .str t => wordB s t
  | _ => false
theorem wordW_ok {F k : Nat} {h : Hp} {s : List Nat} {w : W} (hw : flatA w) : Pu (run src.pg F (k + 3) 4 [.str s, w] h) (.bl (wordW s w)) h := by
  rcases hw with rfl | ⟨i, rfl⟩ | ⟨t, rfl, l⟩
  · exact word_flat (.inl rfl)
  · exact word_flat (.inr ⟨_, rfl⟩)
  · exact word_gen l
theorem edit_gen {F k : Nat} {h : Hp} {s : List Nat} {ws : List W} (hw : ∀ w ∈ ws, flatA w) (hL : ws.length ≤ LIM) : Pu (run src.pg F (k + 4) 5 [.str s, .tup ws] h) (.bl (ws.all (wordW s))) h := by
  unfold Pu
  rw [run_s src (d := d5) rfl rfl, show d5.body = _ from t5, wp_fin]
  show WpS (evSs _ _ [some (.str s), some (.tup ws), none] h) _
  rw [wpS_cons]
  simp [w_tup hL]
  refine wp_lcG (g := fun w => some (.bl (wordW s w))) _ _ (fun x hx h' X => ?_) fun h' X => ?_
  · rw [wp_lcB0]
    simp [wipe]
    exact (wordW_ok (hw x hx)).imp fun w h'' ⟨e, X⟩ => by subst e; exact ⟨rfl, X⟩
  · have e : List.filterMap (fun w => some (W.bl (wordW s w))) ws = (ws.map (wordW s)).map .bl := by
      rw [filterMap_some, List.map_map]; rfl
    rw [e, all_b get_new_self]
    simp
    exact X.trans (.new _)
/-- no edit -/
def NoEd (s : List Nat) (v : W) (h0 : Hp) : Prop := ∀ F K h, 4 ≤ K → Ext h0 h → Pu (run src.pg F K 5 [.str s, v] h) (.bl false) h
theorem NoEd.ext {s : List Nat} {v : W} {h0 h1 : Hp} (a : NoEd s v h0) (X : Ext h0 h1) : NoEd s v h1 := fun F K h hK X2 => a F K h hK (X.trans X2)
theorem no_tup {s : List Nat} {ws : List W} {h0 : Hp} (hw : ∀ w ∈ ws, flatA w) (hL : ws.length ≤ LIM) (hb : ws.all (wordW s) = false) : NoEd s (.tup ws) h0 := fun F K h hK _ => by
  obtain ⟨k, rfl⟩ : ∃ k, K = k + 4 := ⟨K - 4, by omega⟩
  rw [← hb]
  exact edit_gen hw hL
theorem no_isi {s : List Nat} {v : W} {h0 : Hp} (hv : ∀ h, Ext h0 h → bfn .isi [v, .ty "tuple"] h = some (.bl false, h)) : NoEd s v h0 := fun F K h hK X => by
  obtain ⟨k, rfl⟩ : ∃ k, K = k + 4 := ⟨K - 4, by omega⟩
  unfold Pu
  rw [run_s src (d := d5) rfl rfl, show d5.body = _ from t5, wp_fin]
  show WpS (evSs _ _ [some (.str s), some v, none] h) _
  rw [wpS_cons]
  simp [hv h X]
  exact .refl
theorem no_flat {s : List Nat} {v : W} {h0 : Hp} (hv : v = .non ∨ (∃ i, v = .int i) ∨ ∃ t, v = .str t) : NoEd s v h0 := no_isi fun h _ => by
  rcases hv with rfl | ⟨i, rfl⟩ | ⟨t, rfl⟩ <;> rfl
theorem no_lst {s : List Nat} {n : Nat} {xs : List W} {h0 : Hp} (e : h0.get n = some (.lst xs)) (hn : n < h0.n) : NoEd s (.obj n) h0 := no_isi fun h X => by
  have e2 := (X.get n hn).trans e
  simp only [bfn, isi1, tn?, e2]
  rfl
theorem need_edit_no {F K : Nat} {h : Hp} {s : List Nat} {v : W} (hK : 6 ≤ K) (hs : Signs s) (hn : NoEd s v h) : Xe (run src.pg F K 8 [.str s, v] h) fun e h' => MetE (tPaper v) e ∧ Ext h h' := by
  obtain ⟨k, rfl⟩ : ∃ k, K = k + 6 := ⟨K - 6, by omega⟩
  rw [run_s src (d := d8) rfl rfl, show d8.body = _ from t8]
  refine xe_fin ?_
  show XeS (evSs _ _ [some (.str s), some v] h) _
  refine xeS_c2 ?_
  simp
  refine (need_signs_ok (k := k + 2) hs).imp fun x h' ⟨e, X⟩ => ?_
  refine xeS_c1 ?_
  rw [evS_iff]
  refine xeS_s2 ?_
  rw [wp_evB]
  simp
  refine (hn F (k + 5) h' (by omega) X).imp fun w h2 ⟨e2, X2⟩ => ?_
  subst e2
  simp
  refine xeS_c1 ?_
  rw [evS_rai]
  show XeS ((evEs _ _ _ _).s _ fun xs h => if [14].length = xs.length then .ex (.own 4 ([14].zip xs)) _ h else .no) _
  refine xeS_s2 ?_
  simp
  exact ⟨.inr (.inl ⟨v, rfl, rfl⟩), X.trans X2⟩
theorem sizes_no {F K : Nat} {h : Hp} {s : List Nat} {v : W}  (hK : 8 ≤ K) (hs : Signs s) (hn : NoEd s v h) : Xe (run src.pg F K 11 [.str s, v] h) fun e h' => MetE (tPaper v) e ∧ Ext h h' := by
  obtain ⟨k, rfl⟩ : ∃ k, K = k + 8 := ⟨K - 8, by omega⟩
  rw [run_s src (d := d11) rfl rfl, show d11.body = _ from t11]
  refine xe_fin ?_
  show XeS (evSs _ _ [some (.str s), some v] h) _
  refine xeS_c1 ?_
  rw [evS_exp]
  refine xeS_s1 ?_
  rw [evE_cal]
  refine xe_b2 ?_
  simp
  exact need_edit_no (K := k + 7) (by omega) hs hn
theorem cost_no {F K : Nat} {h : Hp} {s : List Nat} {v : W}  (hK : 8 ≤ K) (hs : Signs s) (hn : NoEd s v h) : Xe (run src.pg F K 12 [.str s, v] h) fun e h' => MetE (tPaper v) e ∧ Ext h h' := by
  obtain ⟨k, rfl⟩ : ∃ k, K = k + 8 := ⟨K - 8, by omega⟩
  rw [run_s src (d := d12) rfl rfl, show d12.body = _ from t12]
  refine xe_fin ?_
  show XeS (evSs _ _ [some (.str s), some v, none, none] h) _
  refine xeS_c1 ?_
  rw [evS_exp]
  refine xeS_s1 ?_
  rw [evE_cal]
  refine xe_b2 ?_
  simp
  exact need_edit_no (K := k + 7) (by omega) hs hn
theorem plain_no {F K : Nat} {h : Hp} {s : List Nat} {v : W}  (hK : 8 ≤ K) (hs : Signs s) (hn : NoEd s v h) : Xe (run src.pg F K 14 [.str s, v] h) fun e h' => MetE (tPaper v) e ∧ Ext h h' := by
  obtain ⟨k, rfl⟩ : ∃ k, K = k + 8 := ⟨K - 8, by omega⟩
  rw [run_s src (d := d14) rfl rfl, show d14.body = _ from t14]
  refine xe_fin ?_
  show XeS (evSs _ _ [some (.str s), some v] h) _
  refine xeS_c1 ?_
  rw [evS_exp]
  refine xeS_s1 ?_
  rw [evE_cal]
  refine xe_b2 ?_
  simp
  exact need_edit_no (K := k + 7) (by omega) hs hn
theorem applied_no {F K : Nat} {h : Hp} {s : List Nat} {v : W} {x : W} (hK : 8 ≤ K) (hs : Signs s) (hn : NoEd s v h) : Xe (run src.pg F K 17 [.str s, v, x] h) fun e h' => MetE (tPaper v) e ∧ Ext h h' := by
  obtain ⟨k, rfl⟩ : ∃ k, K = k + 8 := ⟨K - 8, by omega⟩
  rw [run_s src (d := d17) rfl rfl, show d17.body = _ from t17]
  refine xe_fin ?_
  show XeS (evSs _ _ [some (.str s), some v, some x] h) _
  refine xeS_c1 ?_
  rw [evS_exp]
  refine xeS_s1 ?_
  rw [evE_cal]
  refine xe_b2 ?_
  simp
  exact need_edit_no (K := k + 7) (by omega) hs hn
theorem turned_no {F K : Nat} {h : Hp} {s : List Nat} {v : W} {x : W} (hK : 8 ≤ K) (hs : Signs s) (hn : NoEd s v h) : Xe (run src.pg F K 21 [.str s, v, x] h) fun e h' => MetE (tPaper v) e ∧ Ext h h' := by
  obtain ⟨k, rfl⟩ : ∃ k, K = k + 8 := ⟨K - 8, by omega⟩
  rw [run_s src (d := d21) rfl rfl, show d21.body = _ from t21]
  refine xe_fin ?_
  show XeS (evSs _ _ [some (.str s), some v, some x, none, none, none, none] h) _
  refine xeS_c1 ?_
  rw [evS_exp]
  refine xeS_s1 ?_
  rw [evE_cal]
  refine xe_b2 ?_
  simp
  exact need_edit_no (K := k + 7) (by omega) hs hn
theorem behind_no1 {F K : Nat} {h : Hp} {s : List Nat} {v : W} {x : W} (hK : 8 ≤ K) (hs : Signs s) (hn : NoEd s v h) : Xe (run src.pg F K 20 [.str s, v, x] h) fun e h' => MetE (tPaper v) e ∧ Ext h h' := by
  obtain ⟨k, rfl⟩ : ∃ k, K = k + 8 := ⟨K - 8, by omega⟩
  rw [run_s src (d := d20) rfl rfl, show d20.body = _ from t20]
  refine xe_fin ?_
  show XeS (evSs _ _ [some (.str s), some v, some x] h) _
  refine xeS_c1 ?_
  rw [evS_exp]
  refine xeS_s1 ?_
  rw [evE_cal]
  refine xe_b2 ?_
  simp
  exact need_edit_no (K := k + 7) (by omega) hs hn
theorem behind_no2 {F K : Nat} {h : Hp} {s : List Nat} {os : List Op} {v : W} (hK : 8 ≤ K) (hs : Signs s) (ho : ∀ o ∈ os, o.ok s) (hl : os.length ≤ 1000) (hn : NoEd s v h) : Xe (run src.pg F K 20 [.str s, .tup (os.map enc), v] h) fun e h' => MetE (tPaper v) e ∧ Ext h h' := by
  obtain ⟨k, rfl⟩ : ∃ k, K = k + 8 := ⟨K - 8, by omega⟩
  rw [run_s src (d := d20) rfl rfl, show d20.body = _ from t20]
  refine xe_fin ?_
  show XeS (evSs _ _ [some (.str s), some (.tup (os.map enc)), some v] h) _
  refine xeS_c2 ?_
  simp
  refine (need_edit_ok (k := k + 2) hs ho hl).imp fun w h1 ⟨e1, X1⟩ => ?_
  refine xeS_c1 ?_
  rw [evS_exp]
  refine xeS_s1 ?_
  rw [evE_cal]
  refine xe_b2 ?_
  simp
  exact (need_edit_no (K := k + 7) (by omega) hs (hn.ext X1)).imp fun e h2 ⟨a, X⟩ => ⟨a, X1.trans X⟩
theorem is_edit_no {F K : Nat} {h : Hp} {s : List Nat} {v : W} (hK : 6 ≤ K) (hs : Signs s) (hn : NoEd s v h) : Pu (run src.pg F K 7 [.str s, v] h) (.bl false) h := by
  obtain ⟨k, rfl⟩ : ∃ k, K = k + 6 := ⟨K - 6, by omega⟩
  unfold Pu
  rw [run_s src (d := d7) rfl rfl, show d7.body = _ from t7, wp_fin]
  show WpS (evSs _ _ [some (.str s), some v] h) _
  rw [wpS_cons]
  simp
  refine (need_signs_ok (k := k + 2) hs).imp fun w g1 ⟨e, X1⟩ => ?_
  rw [wpS_cons]
  simp
  refine (hn F (k + 5) g1 (by omega) X1).imp fun w g2 ⟨e, X2⟩ => ?_
  subst e
  exact ⟨rfl, X1.trans X2⟩
end K74
end
section
set_option maxRecDepth 100000
set_option linter.unusedVariables false
set_option linter.unusedSimpArgs false
namespace K74
open TX
/-- no signs -/
def badSg (v : W) : Prop := v = .non ∨ v = .str [] ∨ v = .str [97, 97] ∨ v = .str [65] ∨ v = .int 3
theorem signs_no {F k : Nat} {h : Hp} {v : W} (hv : badSg v) : Pu (run src.pg F (k + 2) 0 [v] h) (.bl false) h := by
  unfold Pu
  rw [run_s src (d := d0) rfl rfl, show d0.body = _ from t0, wp_fin]
  show WpS (evSs _ _ [some v, none] h) _
  rw [wpS_cons]
  rcases hv with rfl | rfl | rfl | rfl | rfl
  · rw [wpS_iff, wp_or, wp_nt]
    simp
    rw [show bfn .isi [.non, .ty "str"] h = some (.bl false, h) from rfl]
    simp [wpS_cons]
    exact .refl
  · simp [f_lenS, LIM, wpS_cons]
    exact .refl
  · have l2 : ([97, 97] : List Nat).length ≤ LIM := by decide
    simp [f_lenS l2, w_str l2]
    refine wp_lcG (g := fun _ => some (.bl true)) _ h (fun x hx h' X => ?_) fun h' X => ?_
    · rw [wp_lcB0]
      have : x = .str [97] := by simpa using hx
      subst this
      simp [wipe, c_inS]
      exact .refl
    · rw [filterMap_some, all_t get_new_self (by simp)]
      simp
      rw [wpS_cons]
      simp [w_str l2]
      have X2 := X.trans (.new (.lst [.bl true, .bl true]))
      refine wp_lcG (g := fun x => some (.tup [x, .bl true])) _ _ (fun x hx h'' X => ?_) fun h'' X3 => ?_
      · have : x = .str [97] := by simpa using hx
        subst this
        rw [wp_dcB]
        simp [wipe, keyW]
        exact .refl
      · rw [filterMap_some]
        have e : bfn .len [.obj h''.n] (h''.new (.dK (([W.str [97], .str [97]].map fun x => W.tup [x, .bl true]).foldl putW []))) = some (.int 1, h''.new (.dK (([W.str [97], .str [97]].map fun x => W.tup [x, .bl true]).foldl putW []))) := by
          simp only [bfn, get_new_self]
          rfl
        rw [show (h''.new (.dK ((([.str [97], .str [97]] : List W).map fun x => W.tup [x, .bl true]).foldl putW []))) = h''.new (.dK (([W.str [97], .str [97]].map fun x => W.tup [x, .bl true]).foldl putW [])) from rfl, e]
        simp [f_lenS l2]
        exact (X2.trans X3).trans (.new _)
  · have l1 : ([65] : List Nat).length ≤ LIM := by decide
    simp [f_lenS l1, w_str l1]
    refine wp_lcG (g := fun _ => some (.bl false)) _ h (fun x hx h' X => ?_) fun h' X => ?_
    · rw [wp_lcB0]
      have : x = .str [65] := by simpa using hx
      subst this
      simp [wipe, c_inS]
      exact ⟨by decide, .refl⟩
    · rw [filterMap_some]
      rw [show bfn .all [.obj h'.n] (h'.new (.lst (([.str [65]] : List W).map fun _ => .bl false))) = some (.bl false, h'.new (.lst (([.str [65]] : List W).map fun _ => .bl false))) from all_b (bs := [false]) get_new_self]
      simp [wpS_cons]
      exact X.trans (.new _)
  · rw [wpS_iff, wp_or, wp_nt]
    simp
    rw [show bfn .isi [.int 3, .ty "str"] h = some (.bl false, h) from rfl]
    simp [wpS_cons]
    exact .refl
theorem need_signs_no {F K : Nat} {h : Hp} {v : W} (hK : 4 ≤ K) (hv : badSg v) : Xe (run src.pg F K 1 [v] h) fun e h' => MetE (tSigns v) e ∧ Ext h h' := by
  obtain ⟨k, rfl⟩ : ∃ k, K = k + 4 := ⟨K - 4, by omega⟩
  rw [run_s src (d := d1) rfl rfl, show d1.body = _ from t1]
  refine xe_fin ?_
  show XeS (evSs _ _ [some v] h) _
  refine xeS_c1 ?_
  rw [evS_iff]
  refine xeS_s2 ?_
  rw [wp_evB]
  simp
  refine (signs_no (k := k + 1) hv).imp fun w h2 ⟨e2, X2⟩ => ?_
  subst e2
  simp
  refine xeS_c1 ?_
  rw [evS_rai]
  show XeS ((evEs _ _ _ _).s _ fun xs h => if [13].length = xs.length then .ex (.own 2 ([13].zip xs)) _ h else .no) _
  refine xeS_s2 ?_
  simp
  exact ⟨.inl ⟨v, rfl, rfl⟩, X2⟩
theorem need_edit_sg {F K : Nat} {h : Hp} {v w : W} (hK : 6 ≤ K) (hv : badSg v) : Xe (run src.pg F K 8 [v, w] h) fun e h' => MetE (tSigns v) e ∧ Ext h h' := by
  obtain ⟨k, rfl⟩ : ∃ k, K = k + 6 := ⟨K - 6, by omega⟩
  rw [run_s src (d := d8) rfl rfl, show d8.body = _ from t8]
  refine xe_fin ?_
  show XeS (evSs _ _ [some v, some w] h) _
  refine xeS_c1 ?_
  rw [evS_exp]
  refine xeS_s1 ?_
  rw [evE_cal]
  refine xe_b2 ?_
  simp
  exact need_signs_no (K := k + 5) (by omega) hv
theorem is_edit_sg {F K : Nat} {h : Hp} {v w : W} (hK : 6 ≤ K) (hv : badSg v) : Xe (run src.pg F K 7 [v, w] h) fun e h' => MetE (tSigns v) e ∧ Ext h h' := by
  obtain ⟨k, rfl⟩ : ∃ k, K = k + 6 := ⟨K - 6, by omega⟩
  rw [run_s src (d := d7) rfl rfl, show d7.body = _ from t7]
  refine xe_fin ?_
  show XeS (evSs _ _ [some v, some w] h) _
  refine xeS_c1 ?_
  rw [evS_exp]
  refine xeS_s1 ?_
  rw [evE_cal]
  refine xe_b2 ?_
  simp
  exact need_signs_no (K := k + 5) (by omega) hv
theorem applied_sg {F K : Nat} {h : Hp} {v w x : W} (hK : 8 ≤ K) (hv : badSg v) : Xe (run src.pg F K 17 [v, w, x] h) fun e h' => MetE (tSigns v) e ∧ Ext h h' := by
  obtain ⟨k, rfl⟩ : ∃ k, K = k + 8 := ⟨K - 8, by omega⟩
  rw [run_s src (d := d17) rfl rfl, show d17.body = _ from t17]
  refine xe_fin ?_
  show XeS (evSs _ _ [some v, some w, some x] h) _
  refine xeS_c1 ?_
  rw [evS_exp]
  refine xeS_s1 ?_
  rw [evE_cal]
  refine xe_b2 ?_
  simp
  exact need_edit_sg (K := k + 7) (by omega) hv
theorem least_sg {F K : Nat} {h : Hp} {v w x : W} (hK : 8 ≤ K) (hv : badSg v) : Xe (run src.pg F K 24 [v, w, x] h) fun e h' => MetE (tSigns v) e ∧ Ext h h' := by
  obtain ⟨k, rfl⟩ : ∃ k, K = k + 8 := ⟨K - 8, by omega⟩
  rw [run_s src (d := d24) rfl rfl, show d24.body = _ from t24]
  refine xe_fin ?_
  show XeS (evSs _ _ [some v, some w, some x] h) _
  refine xeS_c1 ?_
  rw [evS_exp]
  refine xeS_s1 ?_
  rw [evE_cal]
  refine xe_b2 ?_
  simp
  exact need_signs_no (K := k + 7) (by omega) hv
/-! ### no words -/
def NoTx (s : List Nat) (v : W) (h0 : Hp) : Prop := ∀ F K h, 2 ≤ K → Ext h0 h → Pu (run src.pg F K 2 [.str s, v] h) (.bl false) h
theorem NoTx.ext {s : List Nat} {v : W} {h0 h1 : Hp} (a : NoTx s v h0) (X : Ext h0 h1) : NoTx s v h1 := fun F K h hK X2 => a F K h hK (X.trans X2)
theorem not_isi {s : List Nat} {v : W} {h0 : Hp} (hv : ∀ h, Ext h0 h → bfn .isi [v, .ty "str"] h = some (.bl false, h)) : NoTx s v h0 := fun F K h hK X => by
  obtain ⟨k, rfl⟩ : ∃ k, K = k + 2 := ⟨K - 2, by omega⟩
  unfold Pu
  rw [run_s src (d := d2) rfl rfl, show d2.body = _ from t2, wp_fin]
  show WpS (evSs _ _ [some (.str s), some v, none] h) _
  rw [wpS_cons]
  simp [hv h X]
  exact .refl
theorem not_flat {s : List Nat} {v : W} {h0 : Hp} (hv : v = .non ∨ ∃ i, v = .int i) : NoTx s v h0 := not_isi fun h _ => by
  rcases hv with rfl | ⟨i, rfl⟩ <;> rfl
theorem not_lst {s : List Nat} {n : Nat} {xs : List W} {h0 : Hp} (e : h0.get n = some (.lst xs)) (hn : n < h0.n) : NoTx s (.obj n) h0 := not_isi fun h X => by
  have e2 := (X.get n hn).trans e
  simp only [bfn, isi1, tn?, e2]
  rfl
theorem not_Z {s : List Nat} {h0 : Hp} (hs : Signs s) : inB s [90] = false := by
  unfold inB
  rw [Bool.eq_false_iff]
  intro q
  simp only [List.all_cons, List.all_nil, Bool.and_true] at q
  obtain ⟨c, hc, e⟩ := List.any_eq_true.mp q
  have := Nat.eq_of_beq_eq_true e
  subst this
  exact absurd (hs.mem _ hc) (by decide)
theorem not_txt {s t : List Nat} {h0 : Hp} (hl : t.length ≤ LIM) (hb : inB s t = false) : NoTx s (.str t) h0 := fun F K h hK X => by
  obtain ⟨k, rfl⟩ : ∃ k, K = k + 2 := ⟨K - 2, by omega⟩
  rw [← hb]
  exact text_gen hl
theorem need_text_no {F K : Nat} {h : Hp} {s : List Nat} {v : W} (hK : 4 ≤ K) (hn : NoTx s v h) : Xe (run src.pg F K 3 [.str s, v] h) fun e h' => MetE (tWord v) e ∧ Ext h h' := by
  obtain ⟨k, rfl⟩ : ∃ k, K = k + 4 := ⟨K - 4, by omega⟩
  rw [run_s src (d := d3) rfl rfl, show d3.body = _ from t3]
  refine xe_fin ?_
  show XeS (evSs _ _ [some (.str s), some v] h) _
  refine xeS_c1 ?_
  rw [evS_iff]
  refine xeS_s2 ?_
  rw [wp_evB]
  simp
  refine (hn F (k + 3) h (by omega) .refl).imp fun w h2 ⟨e2, X2⟩ => ?_
  subst e2
  simp
  refine xeS_c1 ?_
  rw [evS_rai]
  show XeS ((evEs _ _ _ _).s _ fun xs h => if [15].length = xs.length then .ex (.own 3 ([15].zip xs)) _ h else .no) _
  refine xeS_s2 ?_
  simp
  exact ⟨.inr (.inr (.inl ⟨v, rfl, rfl⟩)), X2⟩
theorem applied_nt {F K : Nat} {h : Hp} {s : List Nat} {os : List Op} {v : W} (hK : 8 ≤ K) (hs : Signs s) (ho : ∀ o ∈ os, o.ok s) (hl : os.length ≤ 1000) (hn : NoTx s v h) : Xe (run src.pg F K 17 [.str s, .tup (os.map enc), v] h) fun e h' => MetE (tWord v) e ∧ Ext h h' := by
  obtain ⟨k, rfl⟩ : ∃ k, K = k + 8 := ⟨K - 8, by omega⟩
  rw [run_s src (d := d17) rfl rfl, show d17.body = _ from t17]
  refine xe_fin ?_
  show XeS (evSs _ _ [some (.str s), some (.tup (os.map enc)), some v] h) _
  refine xeS_c2 ?_
  simp
  refine (need_edit_ok (k := k + 2) hs ho hl).imp fun w h1 ⟨e1, X1⟩ => ?_
  refine xeS_c1 ?_
  rw [evS_exp]
  refine xeS_s1 ?_
  rw [evE_cal]
  refine xe_b2 ?_
  simp
  exact (need_text_no (K := k + 7) (by omega) (hn.ext X1)).imp fun e h2 ⟨a, X⟩ => ⟨a, X1.trans X⟩
theorem turned_nt {F K : Nat} {h : Hp} {s : List Nat} {os : List Op} {v : W} (hK : 8 ≤ K) (hs : Signs s) (ho : ∀ o ∈ os, o.ok s) (hl : os.length ≤ 1000) (hn : NoTx s v h) : Xe (run src.pg F K 21 [.str s, .tup (os.map enc), v] h) fun e h' => MetE (tWord v) e ∧ Ext h h' := by
  obtain ⟨k, rfl⟩ : ∃ k, K = k + 8 := ⟨K - 8, by omega⟩
  rw [run_s src (d := d21) rfl rfl, show d21.body = _ from t21]
  refine xe_fin ?_
  show XeS (evSs _ _ [some (.str s), some (.tup (os.map enc)), some v, none, none, none, none] h) _
  refine xeS_c2 ?_
  simp
  refine (need_edit_ok (k := k + 2) hs ho hl).imp fun w h1 ⟨e1, X1⟩ => ?_
  refine xeS_c1 ?_
  rw [evS_exp]
  refine xeS_s1 ?_
  rw [evE_cal]
  refine xe_b2 ?_
  simp
  exact (need_text_no (K := k + 7) (by omega) (hn.ext X1)).imp fun e h2 ⟨a, X⟩ => ⟨a, X1.trans X⟩
theorem least_nt1 {F K : Nat} {h : Hp} {s : List Nat} {v x : W} (hK : 8 ≤ K) (hs : Signs s) (hn : NoTx s v h) : Xe (run src.pg F K 24 [.str s, v, x] h) fun e h' => MetE (tWord v) e ∧ Ext h h' := by
  obtain ⟨k, rfl⟩ : ∃ k, K = k + 8 := ⟨K - 8, by omega⟩
  rw [run_s src (d := d24) rfl rfl, show d24.body = _ from t24]
  refine xe_fin ?_
  show XeS (evSs _ _ [some (.str s), some v, some x] h) _
  refine xeS_c2 ?_
  simp
  refine (need_signs_ok (k := k + 4) hs).imp fun w h1 ⟨e1, X1⟩ => ?_
  refine xeS_c1 ?_
  rw [evS_exp]
  refine xeS_s1 ?_
  rw [evE_cal]
  refine xe_b2 ?_
  simp
  exact (need_text_no (K := k + 7) (by omega) (hn.ext X1)).imp fun e h2 ⟨a, X⟩ => ⟨a, X1.trans X⟩
theorem least_nt2 {F K : Nat} {h : Hp} {s : List Nat} {v : W} (hK : 8 ≤ K) (hs : Signs s) (hn : NoTx s v h) : Xe (run src.pg F K 24 [.str s, .str [], v] h) fun e h' => MetE (tWord v) e ∧ Ext h h' := by
  obtain ⟨k, rfl⟩ : ∃ k, K = k + 8 := ⟨K - 8, by omega⟩
  rw [run_s src (d := d24) rfl rfl, show d24.body = _ from t24]
  refine xe_fin ?_
  show XeS (evSs _ _ [some (.str s), some (.str []), some v] h) _
  refine xeS_c2 ?_
  simp
  refine (need_signs_ok (k := k + 4) hs).imp fun w h1 ⟨e1, X1⟩ => ?_
  refine xeS_c2 ?_
  simp
  refine (need_text_ok (k := k + 4) (t := []) (by simp) (by simp)).imp fun w h2 ⟨e2, X2⟩ => ?_
  refine xeS_c1 ?_
  rw [evS_exp]
  refine xeS_s1 ?_
  rw [evE_cal]
  refine xe_b2 ?_
  simp
  exact (need_text_no (K := k + 7) (by omega) (hn.ext (X1.trans X2))).imp fun e h3 ⟨a, X⟩ => ⟨a, (X1.trans X2).trans X⟩
end K74
end
section
set_option maxRecDepth 100000
set_option linter.unusedVariables false
set_option linter.unusedSimpArgs false
namespace K74
open TX
section
open PySem
abbrev Ln (s : Str) : Nat := s.cps.size
theorem ln_app (a b : Str) : Ln (a ++ b) = Ln a + Ln b := by
  show (a.cps ++ b.cps).size = _
  exact Array.size_append
theorem ln_sep : Ln (Str.ofString ", ") = 2 := by decide +kernel
theorem ln_0 : Ln (Str.ofString "") = 0 := by decide +kernel
theorem ln_lb : Ln (Str.ofString "[") = 1 := by decide +kernel
theorem ln_rb : Ln (Str.ofString "]") = 1 := by decide +kernel
theorem ln_lp : Ln (Str.ofString "(") = 1 := by decide +kernel
theorem ln_rp : Ln (Str.ofString ")") = 1 := by decide +kernel
theorem ln_cp : Ln (Str.ofString ",)") = 2 := by decide +kernel
theorem ln_none : Ln (Str.ofString "None") = 4 := by decide +kernel
theorem ln_1 : Ln (Str.ofString (toString (1 : Int))) = 1 := by decide +kernel
theorem ln_3 : Ln (Str.ofString (toString (3 : Int))) = 1 := by decide +kernel
theorem ln_from {N : Nat} : ∀ (ts : List Str) (i : Nat) (acc : Str), (∀ t ∈ ts, Ln t ≤ N) → Ln (textFrom i acc ts) ≤ Ln acc + ts.length * (N + 2)
  | [], i, acc, _ => by rw [textFrom]; simp
  | t :: ts, i, acc, h => by
    rw [textFrom]
    have ih := ln_from ts (i + 1) (acc ++ Str.ofString (if i > 0 then ", " else "") ++ t) fun t m => h t (List.mem_cons_of_mem _ m)
    have h1 := h t List.mem_cons_self
    have h2 : Ln (Str.ofString (if i > 0 then ", " else "")) ≤ 2 := by
      split
      · rw [ln_sep]; omega
      · rw [ln_0]; omega
    rw [ln_app, ln_app] at ih
    rw [List.length_cons, Nat.add_mul]
    omega
theorem ln_list {N : Nat} {ts : List Str} (h : ∀ t ∈ ts, Ln t ≤ N) : Ln (listText ts) ≤ 2 + ts.length * (N + 2) := by
  show Ln (textFrom 0 (Str.ofString "[") ts ++ Str.ofString "]") ≤ _
  have := ln_from ts 0 (Str.ofString "[") h
  rw [ln_app, ln_rb]
  rw [ln_lb] at this
  omega
theorem ln_join {N : Nat} {sep : Str} (hs : Ln sep = 2) : ∀ ts : List Str, (∀ t ∈ ts, Ln t ≤ N) → Ln (sep.join ts) ≤ ts.length * (N + 2)
  | [], _ => by show Ln Str.empty ≤ _; exact Nat.zero_le _
  | [x], h => by
    have := h x List.mem_cons_self
    show Ln x ≤ _
    simp; omega
  | x :: y :: r, h => by
    have ih := ln_join hs (y :: r) fun t m => h t (List.mem_cons_of_mem _ m)
    have h1 := h x List.mem_cons_self
    show Ln (x ++ sep ++ sep.join (y :: r)) ≤ _
    rw [ln_app, ln_app, hs, List.length_cons, Nat.add_mul]
    omega
theorem ln_tuple {N : Nat} {ts : List Str} (h : ∀ t ∈ ts, Ln t ≤ N) : Ln (tupleText ts) ≤ 3 + ts.length * (N + 2) := by
  show Ln (Str.ofString "(" ++ (Str.ofString ", ").join ts ++ Str.ofString (if (ts.length == 1) = true then ",)" else ")")) ≤ _
  have := ln_join ln_sep ts h
  have h2 : Ln (Str.ofString (if (ts.length == 1) = true then ",)" else ")")) ≤ 2 := by
    split
    · rw [ln_cp]; omega
    · rw [ln_rp]; omega
  rw [ln_app, ln_app, ln_lp]
  omega
theorem ln_str {s : List Nat} (hc : Codes s) : Ln (PyData.str (S' s)).shown ≤ 10 * s.length + 2 := by
  rw [PyData.shown]
  have := PySem.StrLaws.reprText_len (S' s) (fun c m => by
    have : c < 1114112 := hc c (by simpa using m)
    omega)
  simpa [Str.length] using this
theorem shownAll_map (xs : List PyData) : PyData.shownAll xs = xs.map PyData.shown := by
  induction xs with
  | nil => rfl
  | cons x xs ih => rw [PyData.shownAll, ih]; rfl
theorem showAll_map (xs : List PyData) : PyData.showableAll xs = xs.all PyData.showable := by
  induction xs with
  | nil => rfl
  | cons x xs ih => rw [PyData.showableAll, ih]; rfl
/-- data that can be shown, in so many signs -/
structure Sh (h0 : Hp) (f : Nat) (v : W) (N : Nat) (D : PyData) : Prop where
  sh : D.showable = true
  ln : Ln D.shown ≤ N
  at_ : ∀ h, Ext h0 h → dataQ h f v = true ∧ toD h f v = D
theorem Sh.mono {h0 : Hp} {f N M : Nat} {v : W} {D : PyData} (a : Sh h0 f v N D) (l : N ≤ M) : Sh h0 f v M D := ⟨a.sh, Nat.le_trans a.ln l, a.at_⟩
theorem sh_non {h0 : Hp} {f : Nat} : Sh h0 (f + 1) .non 4 .none := ⟨rfl, by rw [PyData.shown, ln_none]; omega, fun h _ => ⟨rfl, rfl⟩⟩
theorem sh_1 {h0 : Hp} {f : Nat} : Sh h0 (f + 1) (.int 1) 4 (.int 1) := ⟨by decide, by rw [PyData.shown, ln_1]; omega, fun h _ => ⟨rfl, rfl⟩⟩
theorem sh_3 {h0 : Hp} {f : Nat} : Sh h0 (f + 1) (.int 3) 4 (.int 3) := ⟨by decide, by rw [PyData.shown, ln_3]; omega, fun h _ => ⟨rfl, rfl⟩⟩
theorem sh_str {h0 : Hp} {f : Nat} {s : List Nat} (hc : Codes s) : Sh h0 (f + 1) (.str s) (10 * s.length + 2) (.str (S' s)) := ⟨rfl, ln_str hc, fun h _ => ⟨dstr hc, rfl⟩⟩
theorem sh_all {h0 : Hp} {f N : Nat} : ∀ xs : List W, (∀ x ∈ xs, ∃ D, Sh h0 f x N D) → ∃ Ds : List PyData, Ds.length = xs.length ∧ (∀ D ∈ Ds, D.showable = true ∧ Ln D.shown ≤ N) ∧ ∀ h, Ext h0 h → xs.all (dataQ h f) = true ∧ xs.map (toD h f) = Ds
  | [], _ => ⟨[], rfl, by simp, fun h _ => ⟨rfl, rfl⟩⟩
  | x :: xs, hx => by
    obtain ⟨D, hD⟩ := hx x List.mem_cons_self
    obtain ⟨Ds, l, a, b⟩ := sh_all xs fun x m => hx x (List.mem_cons_of_mem _ m)
    refine ⟨D :: Ds, by simp [l], fun E m => ?_, fun h X => ?_⟩
    · rcases List.mem_cons.mp m with rfl | m
      · exact ⟨hD.sh, hD.ln⟩
      · exact a E m
    · obtain ⟨p, q⟩ := hD.at_ h X
      obtain ⟨p2, q2⟩ := b h X
      exact ⟨by rw [List.all_cons, p, p2]; rfl, by rw [List.map_cons, q, q2]⟩
theorem sh_tup {h0 : Hp} {f N : Nat} {xs : List W} (hx : ∀ x ∈ xs, ∃ D, Sh h0 f x N D) : ∃ D, Sh h0 (f + 1) (.tup xs) (3 + xs.length * (N + 2)) D := by
  obtain ⟨Ds, l, a, b⟩ := sh_all xs hx
  refine ⟨.tuple Ds, ?_, ?_, fun h X => ?_⟩
  · rw [PyData.showable, showAll_map]; exact List.all_eq_true.mpr fun D m => (a D m).1
  · rw [PyData.shown, shownAll_map]
    have := ln_tuple (N := N) (ts := Ds.map PyData.shown) fun t m => by
      obtain ⟨D, hD, rfl⟩ := List.mem_map.mp m; exact (a D hD).2
    rw [List.length_map, l] at this
    exact this
  · obtain ⟨p, q⟩ := b h X
    exact ⟨by rw [dataQ]; exact p, by rw [toD, q]⟩
theorem sh_lst {h0 : Hp} {f N n : Nat} {xs : List W} (e : h0.get n = some (.lst xs)) (hn : n < h0.n) (hx : ∀ x ∈ xs, ∃ D, Sh h0 f x N D) : ∃ D, Sh h0 (f + 1) (.obj n) (2 + xs.length * (N + 2)) D := by
  obtain ⟨Ds, l, a, b⟩ := sh_all xs hx
  refine ⟨.list Ds, ?_, ?_, fun h X => ?_⟩
  · rw [PyData.showable, showAll_map]; exact List.all_eq_true.mpr fun D m => (a D m).1
  · rw [PyData.shown, shownAll_map]
    have := ln_list (N := N) (ts := Ds.map PyData.shown) fun t m => by
      obtain ⟨D, hD, rfl⟩ := List.mem_map.mp m; exact (a D hD).2
    rw [List.length_map, l] at this
    exact this
  · obtain ⟨p, q⟩ := b h X
    have g := Hp.lst_of ((X.get n hn).trans e)
    exact ⟨by rw [dataQ, g]; exact p, by rw [toD, g]; simp only [q]⟩
/-- two lists of the same seven are shown alike -/
theorem repr7 {h0 : Hp} {N : Nat} {v : W} {D : PyData} (a : Sh h0 18 v N D) (hN : N ≤ 60000) : ∃ t, ∀ h n, Ext h0 h → h.get n = some (.lst (List.replicate 7 (tPaper v))) → bfn .repr [.obj n] h = some (.str t, h) := by
  obtain ⟨E, b⟩ := sh_tup (h0 := h0) (f := 18) (N := N + 82) (xs := [.str [66, 97, 100, 80, 97, 112, 101, 114], v]) fun x m => by
    simp at m
    rcases m with rfl | rfl
    · exact ⟨_, (sh_str (by intro c m; simp at m; omega)).mono (by simp)⟩
    · exact ⟨D, a.mono (by omega)⟩
  refine ⟨(PyData.list (List.replicate 7 E)).shown.cps.toList, fun h n X g => ?_⟩
  have gl := Hp.lst_of g
  obtain ⟨p, q⟩ := b.at_ h X
  have d1 : dataQ h DEEP (.obj n) = true := by
    show dataQ h (19 + 1) (.obj n) = true
    rw [dataQ, gl]
    exact List.all_eq_true.mpr fun x m => by rw [List.eq_of_mem_replicate m]; exact p
  have d2 : toD h DEEP (.obj n) = .list (List.replicate 7 E) := by
    show toD h (19 + 1) (.obj n) = _
    rw [toD, gl]
    simp only
    congr 1
    rw [List.map_replicate]
    congr 1
  have d3 : (PyData.list (List.replicate 7 E)).showable = true := by
    rw [PyData.showable, showAll_map]
    exact List.all_eq_true.mpr fun x m => by rw [List.eq_of_mem_replicate m]; exact b.sh
  have d4 : Ln (PyData.list (List.replicate 7 E)).shown ≤ LIM := by
    rw [PyData.shown, shownAll_map]
    have := ln_list (N := 3 + 2 * (N + 82 + 2)) (ts := (List.replicate 7 E).map PyData.shown) fun t m => by
      obtain ⟨x, hx, rfl⟩ := List.mem_map.mp m
      rw [List.eq_of_mem_replicate hx]
      exact b.ln
    rw [List.length_map, List.length_replicate] at this
    unfold LIM
    omega
  show reprA (.obj n) h = _
  unfold reprA
  rw [d1, d2, d3, Nat.ble_eq_true_of_le d4]
  rfl
end
end K74
end
section
set_option maxRecDepth 100000
set_option linter.unusedVariables false
set_option linter.unusedSimpArgs false
namespace K74
open TX
theorem app_met {c : Cf} {τ : Sl} {h : Hp} {g m : Nat} {as : Es} {ws xs : List W} {l : Lf} {y : W} {Dd : Fl → Hp → Prop} (hc : c.hx = some l) (hpg : c.pg = src.pg) (t5 : τ[5]? = some (some (.obj m))) (e : h.get m = some (.lst xs)) (hm : m < h.n) (hL : xs.length < LIM) (ha : evEs (c.lam l) as τ h = .ok ws h) (p : Xe (l.cf g ws h) fun e h' => MetE y e ∧ Ext h h') (q : ∀ h', h'.get m = some (.lst (xs ++ [y])) → m < h'.n → (∀ h0, Ext h0 h → h0.n ≤ m → Ext h0 h') → Dd (.nx τ) h') : WpS (evS c (.exp (.mth (.var 5) 0 (.cons (.met mhs (.cal g as)) .nil))) τ h) Dd := by
  simp [-evE_met, t5, m_appL e]
  refine met_cal hc hpg ha p fun h2 X => ?_
  have e2 := (X.get m hm).trans e
  rw [b_appL e2 hL]
  simp
  refine q _ (by rw [Hp.get_set, if_pos rfl]) (by rw [Hp.n_set]; exact Nat.lt_of_lt_of_le hm X.le) fun h0 X0 l0 => (X0.trans X).set l0 _
theorem ne_strs {h : Hp} {t : List Nat} : cmpop .ne (.str t) (.str t) h = some false := by simp
theorem near1 {F k p N : Nat} {h : Hp} {s : List Nat} {os : List Op} {v : W} {Dv : PySem.PyData} {t3 t5 : Option W} {I2 : Sl → Hp → Prop} {Dd : Fl → Hp → Prop} (hs : Signs s) (ho : ∀ o ∈ os, o.ok s) (hl : os.length ≤ 1000) (hn : NoEd s v h) (hsh : Sh h 18 v N Dv) (hN : N ≤ 60000) (HI : ∀ h' w, Ext h h' → I2 [some (.obj p), some (.str s), some (.tup (os.map enc)), t3, some v, w] h') :
    WpS (evSs ⟨src.pg, F, run src.pg F (k + 12), run src.pg F (k + 11), lamOf src.pg F (k + 11)⟩ (.cons (.asg (.nm 5) (.lst (.cons (.met [⟨2, [.cst (.str [66, 97, 100, 83, 105, 103, 110, 115]), .fld 13]⟩, ⟨4, [.cst (.str [66, 97, 100, 80, 97, 112, 101, 114]), .fld 14]⟩, ⟨3, [.cst (.str [66, 97, 100, 87, 111, 114, 100]), .fld 15]⟩, ⟨5, [.cst (.str [78, 111, 116, 75, 101, 112, 116]), .fld 16, .fld 17]⟩] (.cal 11 (.cons (.var 1) (.cons (.var 4) .nil)))) .nil))) (.cons (.exp (.mth (.var 5) 0 (.cons (.met [⟨2, [.cst (.str [66, 97, 100, 83, 105, 103, 110, 115]), .fld 13]⟩, ⟨4, [.cst (.str [66, 97, 100, 80, 97, 112, 101, 114]), .fld 14]⟩, ⟨3, [.cst (.str [66, 97, 100, 87, 111, 114, 100]), .fld 15]⟩, ⟨5, [.cst (.str [78, 111, 116, 75, 101, 112, 116]), .fld 16, .fld 17]⟩] (.cal 12 (.cons (.var 1) (.cons (.var 4) .nil)))) .nil))) (.cons (.exp (.mth (.var 5) 0 (.cons (.met [⟨2, [.cst (.str [66, 97, 100, 83, 105, 103, 110, 115]), .fld 13]⟩, ⟨4, [.cst (.str [66, 97, 100, 80, 97, 112, 101, 114]), .fld 14]⟩, ⟨3, [.cst (.str [66, 97, 100, 87, 111, 114, 100]), .fld 15]⟩, ⟨5, [.cst (.str [78, 111, 116, 75, 101, 112, 116]), .fld 16, .fld 17]⟩] (.cal 14 (.cons (.var 1) (.cons (.var 4) .nil)))) .nil))) (.cons (.exp (.mth (.var 5) 0 (.cons (.met [⟨2, [.cst (.str [66, 97, 100, 83, 105, 103, 110, 115]), .fld 13]⟩, ⟨4, [.cst (.str [66, 97, 100, 80, 97, 112, 101, 114]), .fld 14]⟩, ⟨3, [.cst (.str [66, 97, 100, 87, 111, 114, 100]), .fld 15]⟩, ⟨5, [.cst (.str [78, 111, 116, 75, 101, 112, 116]), .fld 16, .fld 17]⟩] (.cal 17 (.cons (.var 1) (.cons (.var 4) (.cons (.cst .non) .nil))))) .nil))) (.cons (.exp (.mth (.var 5) 0 (.cons (.met [⟨2, [.cst (.str [66, 97, 100, 83, 105, 103, 110, 115]), .fld 13]⟩, ⟨4, [.cst (.str [66, 97, 100, 80, 97, 112, 101, 114]), .fld 14]⟩, ⟨3, [.cst (.str [66, 97, 100, 87, 111, 114, 100]), .fld 15]⟩, ⟨5, [.cst (.str [78, 111, 116, 75, 101, 112, 116]), .fld 16, .fld 17]⟩] (.cal 21 (.cons (.var 1) (.cons (.var 4) (.cons (.cst .non) .nil))))) .nil))) (.cons (.exp (.mth (.var 5) 0 (.cons (.met [⟨2, [.cst (.str [66, 97, 100, 83, 105, 103, 110, 115]), .fld 13]⟩, ⟨4, [.cst (.str [66, 97, 100, 80, 97, 112, 101, 114]), .fld 14]⟩, ⟨3, [.cst (.str [66, 97, 100, 87, 111, 114, 100]), .fld 15]⟩, ⟨5, [.cst (.str [78, 111, 116, 75, 101, 112, 116]), .fld 16, .fld 17]⟩] (.cal 20 (.cons (.var 1) (.cons (.var 4) (.cons (.cst .non) .nil))))) .nil))) (.cons (.exp (.mth (.var 5) 0 (.cons (.met [⟨2, [.cst (.str [66, 97, 100, 83, 105, 103, 110, 115]), .fld 13]⟩, ⟨4, [.cst (.str [66, 97, 100, 80, 97, 112, 101, 114]), .fld 14]⟩, ⟨3, [.cst (.str [66, 97, 100, 87, 111, 114, 100]), .fld 15]⟩, ⟨5, [.cst (.str [78, 111, 116, 75, 101, 112, 116]), .fld 16, .fld 17]⟩] (.cal 20 (.cons (.var 1) (.cons (.var 2) (.cons (.var 4) .nil))))) .nil))) (.cons (.iff (.or (.cmp .isn (.cal 7 (.cons (.var 1) (.cons (.var 4) .nil))) (.cst (.bl false))) (.cmp .ne (.bfn .repr (.cons (.var 5) .nil)) (.bfn .repr (.cons (.bin .mul (.lst (.cons (.tup (.cons (.cst (.str [66, 97, 100, 80, 97, 112, 101, 114])) (.cons (.var 4) .nil))) .nil)) (.cst (.int 7))) .nil)))) (.cons (.ret (.cst (.bl false))) .nil) .nil) .nil)))))))) [some (.obj p), some (.str s), some (.tup (os.map enc)), t3, some v, t5] h) (trn I2 Dd) := by
  rw [wpS_cons]
  simp [-evE_met, LIM]
  refine met_cal (l := ⟨run src.pg F (k + 10), run src.pg F (k + 9)⟩) (y := tPaper v) rfl rfl (xs := [.str s, v]) (by simp [R.b]) (sizes_no (K := k + 10) (by omega) hs hn) fun h1 X1 => ?_
  have g1 : (h1.new (.lst [tPaper v])).get h1.n = some (.lst [tPaper v]) := get_new_self
  have l1 : h1.n < (h1.new (.lst [tPaper v])).n := by rw [Hp.n_new]; omega
  have Y1 : Ext h (h1.new (.lst [tPaper v])) := X1.trans (.new _)
  have lm := X1.le
  change WpS (evSs _ _ [_, _, _, _, _, some (.obj h1.n)] (h1.new (.lst [tPaper v]))) _
  generalize h1.new (.lst [tPaper v]) = z1 at *
  generalize h1.n = m at *
  rw [wpS_cons]
  refine app_met (l := ⟨run src.pg F (k + 10), run src.pg F (k + 9)⟩) (m := m) (xs := [tPaper v]) (ws := [.str s, v]) (y := tPaper v) rfl rfl rfl g1 l1 (by simp [LIM]) (by simp [R.b]) (cost_no (K := k + 10) (by omega) hs (hn.ext Y1)) fun z2 g2 l2 x2 => ?_
  have Y2 := x2 h Y1 lm
  rw [nxt_nx]
  rw [wpS_cons]
  refine app_met (l := ⟨run src.pg F (k + 10), run src.pg F (k + 9)⟩) (m := m) (xs := [tPaper v, tPaper v]) (ws := [.str s, v]) (y := tPaper v) rfl rfl rfl g2 l2 (by simp [LIM]) (by simp [R.b]) (plain_no (K := k + 10) (by omega) hs (hn.ext Y2)) fun z3 g3 l3 x3 => ?_
  have Y3 := x3 h Y2 lm
  rw [nxt_nx]
  rw [wpS_cons]
  refine app_met (l := ⟨run src.pg F (k + 10), run src.pg F (k + 9)⟩) (m := m) (xs := [tPaper v, tPaper v, tPaper v]) (ws := [.str s, v, .non]) (y := tPaper v) rfl rfl rfl g3 l3 (by simp [LIM]) (by simp [R.b]) (applied_no (K := k + 10) (by omega) hs (hn.ext Y3)) fun z4 g4 l4 x4 => ?_
  have Y4 := x4 h Y3 lm
  rw [nxt_nx]
  rw [wpS_cons]
  refine app_met (l := ⟨run src.pg F (k + 10), run src.pg F (k + 9)⟩) (m := m) (xs := [tPaper v, tPaper v, tPaper v, tPaper v]) (ws := [.str s, v, .non]) (y := tPaper v) rfl rfl rfl g4 l4 (by simp [LIM]) (by simp [R.b]) (turned_no (K := k + 10) (by omega) hs (hn.ext Y4)) fun z5 g5 l5 x5 => ?_
  have Y5 := x5 h Y4 lm
  rw [nxt_nx]
  rw [wpS_cons]
  refine app_met (l := ⟨run src.pg F (k + 10), run src.pg F (k + 9)⟩) (m := m) (xs := [tPaper v, tPaper v, tPaper v, tPaper v, tPaper v]) (ws := [.str s, v, .non]) (y := tPaper v) rfl rfl rfl g5 l5 (by simp [LIM]) (by simp [R.b]) (behind_no1 (K := k + 10) (by omega) hs (hn.ext Y5)) fun z6 g6 l6 x6 => ?_
  have Y6 := x6 h Y5 lm
  rw [nxt_nx]
  rw [wpS_cons]
  refine app_met (l := ⟨run src.pg F (k + 10), run src.pg F (k + 9)⟩) (m := m) (xs := [tPaper v, tPaper v, tPaper v, tPaper v, tPaper v, tPaper v]) (ws := [.str s, .tup (os.map enc), v]) (y := tPaper v) rfl rfl rfl g6 l6 (by simp [LIM]) (by simp [R.b]) (behind_no2 (K := k + 10) (by omega) hs ho hl (hn.ext Y6)) fun z7 g7 l7 x7 => ?_
  have Y7 := x7 h Y6 lm
  rw [nxt_nx]
  obtain ⟨t, ht⟩ := repr7 hsh hN
  rw [wpS_cons]
  simp
  refine (is_edit_no (K := k + 12) (by omega) hs (hn.ext Y7)).imp fun w z8 ⟨e, X2⟩ => ?_
  subst e
  have Y8 := Y7.trans X2
  have gz := (X2.get m l7).trans g7
  simp
  rw [ht z8 m Y8 gz]
  simp [LIM]
  change Wp (lf (binop .mul (.obj z8.n) (.int 7) (z8.new (.lst [tPaper v])))) _
  rw [b_repL (get_new_self (h := z8) (o := .lst [tPaper v])) (by simp)]
  simp
  have Y9 := Y8.trans ((Ext.new (.lst [tPaper v])).trans (.new (.lst (rep [tPaper v] 7))))
  have gq : ((z8.new (.lst [tPaper v])).new (.lst (rep [tPaper v] 7))).get (z8.new (.lst [tPaper v])).n = some (.lst (List.replicate 7 (tPaper v))) := get_new_self
  rw [ht _ _ Y9 gq]
  simp
  exact HI _ _ Y9
theorem near2 {F k p : Nat} {h : Hp} {s : List Nat} {os : List Op} {v : W} {t3 t5 : Option W} {I2 : Sl → Hp → Prop} {Dd : Fl → Hp → Prop} (hv : badSg v) (HI : ∀ h' w, Ext h h' → I2 [some (.obj p), some (.str s), some (.tup (os.map enc)), t3, some v, w] h') :
    WpS (evSs ⟨src.pg, F, run src.pg F (k + 12), run src.pg F (k + 11), lamOf src.pg F (k + 11)⟩ (.cons (.asg (.nm 5) (.lst (.cons (.met [⟨2, [.cst (.str [66, 97, 100, 83, 105, 103, 110, 115]), .fld 13]⟩, ⟨4, [.cst (.str [66, 97, 100, 80, 97, 112, 101, 114]), .fld 14]⟩, ⟨3, [.cst (.str [66, 97, 100, 87, 111, 114, 100]), .fld 15]⟩, ⟨5, [.cst (.str [78, 111, 116, 75, 101, 112, 116]), .fld 16, .fld 17]⟩] (.cal 7 (.cons (.var 4) (.cons (.cst .non) .nil)))) .nil))) (.cons (.exp (.mth (.var 5) 0 (.cons (.met [⟨2, [.cst (.str [66, 97, 100, 83, 105, 103, 110, 115]), .fld 13]⟩, ⟨4, [.cst (.str [66, 97, 100, 80, 97, 112, 101, 114]), .fld 14]⟩, ⟨3, [.cst (.str [66, 97, 100, 87, 111, 114, 100]), .fld 15]⟩, ⟨5, [.cst (.str [78, 111, 116, 75, 101, 112, 116]), .fld 16, .fld 17]⟩] (.cal 17 (.cons (.var 4) (.cons (.cst .non) (.cons (.cst .non) .nil))))) .nil))) (.cons (.exp (.mth (.var 5) 0 (.cons (.met [⟨2, [.cst (.str [66, 97, 100, 83, 105, 103, 110, 115]), .fld 13]⟩, ⟨4, [.cst (.str [66, 97, 100, 80, 97, 112, 101, 114]), .fld 14]⟩, ⟨3, [.cst (.str [66, 97, 100, 87, 111, 114, 100]), .fld 15]⟩, ⟨5, [.cst (.str [78, 111, 116, 75, 101, 112, 116]), .fld 16, .fld 17]⟩] (.cal 24 (.cons (.var 4) (.cons (.cst .non) (.cons (.cst .non) .nil))))) .nil))) (.cons (.iff (.cmp .ne (.var 5) (.bin .mul (.lst (.cons (.tup (.cons (.cst (.str [66, 97, 100, 83, 105, 103, 110, 115])) (.cons (.var 4) .nil))) .nil)) (.cst (.int 3)))) (.cons (.ret (.cst (.bl false))) .nil) .nil) .nil)))) [some (.obj p), some (.str s), some (.tup (os.map enc)), t3, some v, t5] h) (trn I2 Dd) := by
  rw [wpS_cons]
  simp [-evE_met, LIM]
  refine met_cal (l := ⟨run src.pg F (k + 10), run src.pg F (k + 9)⟩) (y := tSigns v) rfl rfl (xs := [v, .non]) (by simp [R.b]) (is_edit_sg (K := k + 10) (by omega) hv) fun h1 X1 => ?_
  have g1 : (h1.new (.lst [tSigns v])).get h1.n = some (.lst [tSigns v]) := get_new_self
  have l1 : h1.n < (h1.new (.lst [tSigns v])).n := by rw [Hp.n_new]; omega
  have Y1 : Ext h (h1.new (.lst [tSigns v])) := X1.trans (.new _)
  have lm := X1.le
  change WpS (evSs _ _ [_, _, _, _, _, some (.obj h1.n)] (h1.new (.lst [tSigns v]))) _
  generalize h1.new (.lst [tSigns v]) = z1 at *
  generalize h1.n = m at *
  rw [wpS_cons]
  refine app_met (l := ⟨run src.pg F (k + 10), run src.pg F (k + 9)⟩) (m := m) (xs := [tSigns v]) (ws := [v, .non, .non]) (y := tSigns v) rfl rfl rfl g1 l1 (by simp [LIM]) (by simp [R.b]) (applied_sg (K := k + 10) (by omega) hv) fun z2 g2 l2 x2 => ?_
  have Y2 := x2 h Y1 lm
  rw [nxt_nx]
  rw [wpS_cons]
  refine app_met (l := ⟨run src.pg F (k + 10), run src.pg F (k + 9)⟩) (m := m) (xs := [tSigns v, tSigns v]) (ws := [v, .non, .non]) (y := tSigns v) rfl rfl rfl g2 l2 (by simp [LIM]) (by simp [R.b]) (least_sg (K := k + 10) (by omega) hv) fun z3 g3 l3 x3 => ?_
  have Y3 := x3 h Y2 lm
  rw [nxt_nx]
  rw [wpS_cons]
  simp [LIM]
  change Wp (lf (binop .mul (.obj z3.n) (.int 3) (z3.new (.lst [tSigns v])))) _
  rw [b_repL (get_new_self (h := z3) (o := .lst [tSigns v])) (by simp)]
  simp
  have X9 : Ext z3 ((z3.new (.lst [tSigns v])).new (.lst (rep [tSigns v] 3))) := (Ext.new (.lst [tSigns v])).trans (.new (.lst (rep [tSigns v] 3)))
  have Y9 := Y3.trans X9
  have gq : ((z3.new (.lst [tSigns v])).new (.lst (rep [tSigns v] 3))).get (z3.new (.lst [tSigns v])).n = some (.lst (List.replicate 3 (tSigns v))) := get_new_self
  have gm := (X9.get m l3).trans g3
  generalize (z3.new (.lst [tSigns v])).new (.lst (rep [tSigns v] 3)) = z9 at *
  generalize (z3.new (.lst [tSigns v])).n = m2 at *
  have eq : cmpop .ne (.obj m) (.obj m2) z9 = some false := by
    show (eqW z9 _ _).map _ = _
    rw [eqW_lst (xs := List.replicate 3 (tSigns v)) gm gq fun x hx => by rw [List.eq_of_mem_replicate hx]; exact by rcases hv with rfl | rfl | rfl | rfl | rfl <;> simp [tSigns, dataQ] <;> decide]
    rfl
  rw [eq]
  simp
  exact HI _ _ Y9
theorem near3 {F k p : Nat} {h : Hp} {s : List Nat} {os : List Op} {v : W} {t3 t5 : Option W} {I2 : Sl → Hp → Prop} {Dd : Fl → Hp → Prop} (hs : Signs s) (ho : ∀ o ∈ os, o.ok s) (hl : os.length ≤ 1000) (hn : NoTx s v h) (hd : ∀ h', Ext h h' → dataQ h' 18 v = true) (HI : ∀ h' w, Ext h h' → I2 [some (.obj p), some (.str s), some (.tup (os.map enc)), t3, some v, w] h') :
    WpS (evSs ⟨src.pg, F, run src.pg F (k + 12), run src.pg F (k + 11), lamOf src.pg F (k + 11)⟩ (.cons (.asg (.nm 5) (.lst (.cons (.met [⟨2, [.cst (.str [66, 97, 100, 83, 105, 103, 110, 115]), .fld 13]⟩, ⟨4, [.cst (.str [66, 97, 100, 80, 97, 112, 101, 114]), .fld 14]⟩, ⟨3, [.cst (.str [66, 97, 100, 87, 111, 114, 100]), .fld 15]⟩, ⟨5, [.cst (.str [78, 111, 116, 75, 101, 112, 116]), .fld 16, .fld 17]⟩] (.cal 17 (.cons (.var 1) (.cons (.var 2) (.cons (.var 4) .nil))))) .nil))) (.cons (.exp (.mth (.var 5) 0 (.cons (.met [⟨2, [.cst (.str [66, 97, 100, 83, 105, 103, 110, 115]), .fld 13]⟩, ⟨4, [.cst (.str [66, 97, 100, 80, 97, 112, 101, 114]), .fld 14]⟩, ⟨3, [.cst (.str [66, 97, 100, 87, 111, 114, 100]), .fld 15]⟩, ⟨5, [.cst (.str [78, 111, 116, 75, 101, 112, 116]), .fld 16, .fld 17]⟩] (.cal 21 (.cons (.var 1) (.cons (.var 2) (.cons (.var 4) .nil))))) .nil))) (.cons (.exp (.mth (.var 5) 0 (.cons (.met [⟨2, [.cst (.str [66, 97, 100, 83, 105, 103, 110, 115]), .fld 13]⟩, ⟨4, [.cst (.str [66, 97, 100, 80, 97, 112, 101, 114]), .fld 14]⟩, ⟨3, [.cst (.str [66, 97, 100, 87, 111, 114, 100]), .fld 15]⟩, ⟨5, [.cst (.str [78, 111, 116, 75, 101, 112, 116]), .fld 16, .fld 17]⟩] (.cal 24 (.cons (.var 1) (.cons (.var 4) (.cons (.cst .non) .nil))))) .nil))) (.cons (.exp (.mth (.var 5) 0 (.cons (.met [⟨2, [.cst (.str [66, 97, 100, 83, 105, 103, 110, 115]), .fld 13]⟩, ⟨4, [.cst (.str [66, 97, 100, 80, 97, 112, 101, 114]), .fld 14]⟩, ⟨3, [.cst (.str [66, 97, 100, 87, 111, 114, 100]), .fld 15]⟩, ⟨5, [.cst (.str [78, 111, 116, 75, 101, 112, 116]), .fld 16, .fld 17]⟩] (.cal 24 (.cons (.var 1) (.cons (.cst (.str [])) (.cons (.var 4) .nil))))) .nil))) (.cons (.iff (.cmp .ne (.var 5) (.bin .mul (.lst (.cons (.tup (.cons (.cst (.str [66, 97, 100, 87, 111, 114, 100])) (.cons (.var 4) .nil))) .nil)) (.cst (.int 4)))) (.cons (.ret (.cst (.bl false))) .nil) .nil) .nil))))) [some (.obj p), some (.str s), some (.tup (os.map enc)), t3, some v, t5] h) (trn I2 Dd) := by
  rw [wpS_cons]
  simp [-evE_met, LIM]
  refine met_cal (l := ⟨run src.pg F (k + 10), run src.pg F (k + 9)⟩) (y := tWord v) rfl rfl (xs := [.str s, .tup (os.map enc), v]) (by simp [R.b]) (applied_nt (K := k + 10) (by omega) hs ho hl hn) fun h1 X1 => ?_
  have g1 : (h1.new (.lst [tWord v])).get h1.n = some (.lst [tWord v]) := get_new_self
  have l1 : h1.n < (h1.new (.lst [tWord v])).n := by rw [Hp.n_new]; omega
  have Y1 : Ext h (h1.new (.lst [tWord v])) := X1.trans (.new _)
  have lm := X1.le
  change WpS (evSs _ _ [_, _, _, _, _, some (.obj h1.n)] (h1.new (.lst [tWord v]))) _
  generalize h1.new (.lst [tWord v]) = z1 at *
  generalize h1.n = m at *
  rw [wpS_cons]
  refine app_met (l := ⟨run src.pg F (k + 10), run src.pg F (k + 9)⟩) (m := m) (xs := [tWord v]) (ws := [.str s, .tup (os.map enc), v]) (y := tWord v) rfl rfl rfl g1 l1 (by simp [LIM]) (by simp [R.b]) (turned_nt (K := k + 10) (by omega) hs ho hl (hn.ext Y1)) fun z2 g2 l2 x2 => ?_
  have Y2 := x2 h Y1 lm
  rw [nxt_nx]
  rw [wpS_cons]
  refine app_met (l := ⟨run src.pg F (k + 10), run src.pg F (k + 9)⟩) (m := m) (xs := [tWord v, tWord v]) (ws := [.str s, v, .non]) (y := tWord v) rfl rfl rfl g2 l2 (by simp [LIM]) (by simp [R.b]) (least_nt1 (K := k + 10) (by omega) hs (hn.ext Y2)) fun z3 g3 l3 x3 => ?_
  have Y3 := x3 h Y2 lm
  rw [nxt_nx]
  rw [wpS_cons]
  refine app_met (l := ⟨run src.pg F (k + 10), run src.pg F (k + 9)⟩) (m := m) (xs := [tWord v, tWord v, tWord v]) (ws := [.str s, .str [], v]) (y := tWord v) rfl rfl rfl g3 l3 (by simp [LIM]) (by simp [R.b]) (least_nt2 (K := k + 10) (by omega) hs (hn.ext Y3)) fun z4 g4 l4 x4 => ?_
  have Y4 := x4 h Y3 lm
  rw [nxt_nx]
  rw [wpS_cons]
  simp [LIM]
  change Wp (lf (binop .mul (.obj z4.n) (.int 4) (z4.new (.lst [tWord v])))) _
  rw [b_repL (get_new_self (h := z4) (o := .lst [tWord v])) (by simp)]
  simp
  have X9 : Ext z4 ((z4.new (.lst [tWord v])).new (.lst (rep [tWord v] 4))) := (Ext.new (.lst [tWord v])).trans (.new (.lst (rep [tWord v] 4)))
  have Y9 := Y4.trans X9
  have gq : ((z4.new (.lst [tWord v])).new (.lst (rep [tWord v] 4))).get (z4.new (.lst [tWord v])).n = some (.lst (List.replicate 4 (tWord v))) := get_new_self
  have gm := (X9.get m l4).trans g4
  generalize (z4.new (.lst [tWord v])).new (.lst (rep [tWord v] 4)) = z9 at *
  generalize (z4.new (.lst [tWord v])).n = m2 at *
  have eq : cmpop .ne (.obj m) (.obj m2) z9 = some false := by
    show (eqW z9 _ _).map _ = _
    rw [eqW_lst (xs := List.replicate 4 (tWord v)) gm gq fun x hx => by rw [List.eq_of_mem_replicate hx]; exact by show dataQ z9 (18 + 1) (.tup _) = true; rw [dataQ]; simp only [List.all_cons, List.all_nil, hd z9 Y9]; rfl]
    rfl
  rw [eq]
  simp
  exact HI _ _ Y9
end K74
end
section
set_option maxRecDepth 100000
set_option linter.unusedVariables false
set_option linter.unusedSimpArgs false
namespace K74
open TX
theorem f_listT {h : Hp} {xs : List W} : bfn .list [.tup xs] h = some (.obj h.n, h.new (.lst xs)) := rfl
theorem b_addT {h : Hp} {x y : List W} (e : x.length + y.length ≤ LIM) : binop .add (.tup x) (.tup y) h = some (.tup (x ++ y), h) := by simp only [binop, if_pos e]
theorem is_edit_gen {F K : Nat} {h : Hp} {s : List Nat} {ws : List W} (hK : 6 ≤ K) (hs : Signs s) (hw : ∀ w ∈ ws, flatA w) (hL : ws.length ≤ LIM) : Pu (run src.pg F K 7 [.str s, .tup ws] h) (.bl (ws.all (wordW s))) h := by
  obtain ⟨k, rfl⟩ : ∃ k, K = k + 6 := ⟨K - 6, by omega⟩
  unfold Pu
  rw [run_s src (d := d7) rfl rfl, show d7.body = _ from t7, wp_fin]
  show WpS (evSs _ _ [some (.str s), some (.tup ws)] h) _
  rw [wpS_cons]
  simp
  refine (need_signs_ok (k := k + 2) hs).imp fun w g1 ⟨e, X1⟩ => ?_
  rw [wpS_cons]
  simp
  refine (edit_gen (k := k + 1) hw hL).imp fun w g2 ⟨e, X2⟩ => ?_
  subst e
  exact ⟨by simp, X1.trans X2⟩
theorem enc_str {s : List Nat} {o : Op} (hs : Codes s) (ho : o.ok s) (hz : sizeO o ≤ 60) : ∃ t, enc o = .str t ∧ Codes t ∧ t.length ≤ 61 := by
  have num : ∀ (c n : Nat), c < 200 → 0 < n → n < 1000 → Codes (c :: digs n) ∧ (c :: digs n).length ≤ 61 := fun c n hc h0 h1 => by
    refine ⟨fun x hx => ?_, ?_⟩
    · rcases List.mem_cons.mp hx with rfl | q
      · omega
      · exact digs_codes h0 h1 x q
    · have := digs4 h1
      simp; omega
  cases o with
  | k n => exact ⟨_, rfl, num 107 n (by decide) ho.1 ho.2⟩
  | d n => exact ⟨_, rfl, num 100 n (by decide) ho.1 ho.2⟩
  | p t =>
    refine ⟨_, rfl, fun c hc => ?_, ?_⟩
    · rcases List.mem_cons.mp hc with rfl | q
      · omega
      · exact hs c (ho.2.2 c q)
    · simp only [sizeO] at hz; simp; omega
/-- values near an edit: none is an edit, each can be shown -/
def Near (s : List Nat) (x : W) (h : Hp) : Prop := NoEd s x h ∧ ∃ N D, N ≤ 60000 ∧ Sh h 18 x N D
theorem near_1 {s : List Nat} {h : Hp} {t : List Nat} (hc : (t.all fun c => Nat.blt c 1114112) = true) (hl : t.length ≤ 100) (hb : wordB s t = false) : Near s (.tup [.str t]) h := by
  have cd : Codes t := fun c m => Nat.le_of_ble_eq_true (List.all_eq_true.mp hc c m)
  refine ⟨no_tup (fun w m => ?_) (by simp [LIM]) (by simp [wordW, hb]), ?_⟩
  · simp at m; subst m; exact .inr (.inr ⟨t, rfl, Nat.le_trans hl (by decide)⟩)
  · obtain ⟨D, e⟩ := sh_tup (h0 := h) (f := 17) (N := 1002) (xs := [.str t]) fun x m => by
      simp at m; subst m; exact ⟨_, (sh_str cd).mono (by omega)⟩
    exact ⟨_, D, by simp, e⟩
theorem near_all {s : List Nat} {h0 h : Hp} {os : List Op} {nA : Nat} {x : W} (hs : Signs s) (ho : ∀ o ∈ os, o.ok s) (hz : sumO sizeO os ≤ 60) (hl : os.length ≤ 60) (g : h.get nA = some (.lst (os.map enc))) (hn : nA < h.n)
    (m : x ∈ ([.non, .obj nA, .int 3, .str [107, 49], .tup [.str [107, 48]], .tup [.str [107, 48, 49]], .tup [.str [107]], .tup [.str [112]], .tup [.str [120, 49]], .tup [.str [107, 49, 97]], .tup [.int 1], .tup [.str [112, 90]], .tup [.str [75, 49]], .tup [.str [107, 49, 50, 51, 52, 53, 54, 55]], .tup [.str [100, 45, 49]], .tup [.str [107, 49], .non], .tup (os.map enc ++ [.str []])] : List W)) : Near s x h := by
  have each : ∀ w ∈ os.map enc, flatA w ∧ ∃ D, Sh h 17 w 612 D := fun w hw => by
    obtain ⟨o, mo, rfl⟩ := List.mem_map.mp hw
    obtain ⟨t, e, c, l⟩ := enc_str hs.codes (ho o mo) (Nat.le_trans (size_le mo) hz)
    rw [e]
    exact ⟨.inr (.inr ⟨t, rfl, Nat.le_trans l (by decide)⟩), _, (sh_str c).mono (by omega)⟩
  simp only [List.mem_cons, List.not_mem_nil, or_false] at m
  rcases m with rfl | rfl | rfl | rfl | rfl | rfl | rfl | rfl | rfl | rfl | rfl | rfl | rfl | rfl | rfl | rfl | rfl
  · exact ⟨no_flat (.inl rfl), _, _, by decide, sh_non⟩
  · obtain ⟨D, e⟩ := sh_lst (f := 17) g hn (fun w hw => (each w hw).2)
    exact ⟨no_lst g hn, _, D, by rw [List.length_map]; omega, e⟩
  · exact ⟨no_flat (.inr (.inl ⟨_, rfl⟩)), _, _, by decide, sh_3⟩
  · exact ⟨no_flat (.inr (.inr ⟨_, rfl⟩)), _, _, by decide, sh_str (by intro c m; simp at m; omega)⟩
  · exact near_1 rfl (by simp) rfl
  · exact near_1 rfl (by simp) rfl
  · exact near_1 rfl (by simp) rfl
  · exact near_1 rfl (by simp) rfl
  · exact near_1 rfl (by simp) rfl
  · exact near_1 rfl (by simp) rfl
  · obtain ⟨D, e⟩ := sh_tup (h0 := h) (f := 17) (N := 4) (xs := [.int 1]) fun x m => by
      simp at m; subst m; exact ⟨_, sh_1⟩
    exact ⟨no_tup (fun w m => by simp at m; subst m; exact .inr (.inl ⟨_, rfl⟩)) (by simp [LIM]) rfl, _, D, by simp, e⟩
  · exact near_1 rfl (by simp) (show inB s [90] = false from not_Z (h0 := h) hs)
  · exact near_1 rfl (by simp) rfl
  · exact near_1 rfl (by simp) rfl
  · exact near_1 rfl (by simp) rfl
  · obtain ⟨D, e⟩ := sh_tup (h0 := h) (f := 17) (N := 22) (xs := [.str [107, 49], .non]) fun x m => by
      simp at m
      rcases m with rfl | rfl
      · exact ⟨_, sh_str (by intro c m; simp at m; omega)⟩
      · exact ⟨_, sh_non.mono (by omega)⟩
    refine ⟨no_tup (fun w m => ?_) (by simp [LIM]) rfl, _, D, by simp, e⟩
    simp at m
    rcases m with rfl | rfl
    · exact .inr (.inr ⟨_, rfl, by decide⟩)
    · exact .inl rfl
  · obtain ⟨D, e⟩ := sh_tup (h0 := h) (f := 17) (N := 612) (xs := os.map enc ++ [.str []]) fun x m => by
      rcases List.mem_append.mp m with q | q
      · exact (each x q).2
      · simp at q; subst q; exact ⟨_, (sh_str (by intro c m; simp at m)).mono (by simp)⟩
    refine ⟨no_tup (fun w m => ?_) (by rw [List.length_append, List.length_map]; exact Nat.le_trans (show _ ≤ 61 by simp; omega) (by decide)) (by rw [List.all_append]; simp [wordW, wordB]), _, D, by rw [List.length_append, List.length_map]; simp; omega, e⟩
    rcases List.mem_append.mp m with q | q
    · exact (each w q).1
    · simp at q; subst q; exact .inr (.inr ⟨_, rfl, by decide⟩)
def oddsL (nA : Nat) (os : List Op) : List W := [.non, .obj nA, .int 3, .str [107, 49], .tup [.str [107, 48]], .tup [.str [107, 48, 49]], .tup [.str [107]], .tup [.str [112]], .tup [.str [120, 49]], .tup [.str [107, 49, 97]], .tup [.int 1], .tup [.str [112, 90]], .tup [.str [75, 49]], .tup [.str [107, 49, 50, 51, 52, 53, 54, 55]], .tup [.str [100, 45, 49]], .tup [.str [107, 49], .non], .tup (os.map enc ++ [.str []])]
def NI (p : Nat) (s : List Nat) (os : List Op) (hB : Hp) (τ : Sl) (h : Hp) : Prop := ∃ t3 t4 t5, τ = [some (.obj p), some (.str s), some (.tup (os.map enc)), t3, t4, t5] ∧ Ext hB h
theorem near_right_ok {F K p : Nat} {h : Hp} {s : List Nat} {os : List Op} (hK : 14 ≤ K) (hs : Signs s) (ho : ∀ o ∈ os, o.ok s) (hz : sumO sizeO os ≤ 60) (hl : os.length ≤ 60) :
    Pu (run src.pg F K 36 [.obj p, .str s, .tup (os.map enc)] h) (.bl true) h := by
  obtain ⟨k, rfl⟩ : ∃ k, K = k + 13 := ⟨K - 13, by omega⟩
  unfold Pu
  rw [run_s src (d := d36) rfl rfl, show d36.body = _ from t36, wp_fin]
  show WpS (evSs _ _ [some (.obj p), some (.str s), some (.tup (os.map enc)), none, none, none] h) _
  have oL : (os.map enc ++ [W.str []]).length ≤ LIM := by rw [List.length_append, List.length_map]; exact Nat.le_trans (show _ ≤ 61 by simp; omega) (by decide)
  have oL2 : (os.map enc).length + ([W.str []]).length ≤ LIM := by rw [← List.length_append]; exact oL
  have X1 : Ext h (h.new (.lst (os.map enc))) := .new _
  have g1 : (h.new (.lst (os.map enc))).get h.n = some (.lst (os.map enc)) := get_new_self
  have l1 : h.n < (h.new (.lst (os.map enc))).n := by rw [Hp.n_new]; omega
  rw [wpS_cons]
  simp [f_listT, LIM]
  generalize h.new (.lst (os.map enc)) = h1 at *
  generalize h.n = nA at g1 l1 ⊢
  obtain ⟨odds, eo⟩ : ∃ odds : List W, [.non, .obj nA, .int 3, .str [107, 49], .tup [.str [107, 48]], .tup [.str [107, 48, 49]], .tup [.str [107]], .tup [.str [112]], .tup [.str [120, 49]], .tup [.str [107, 49, 97]], .tup [.int 1], .tup [.str [112, 90]], .tup [.str [75, 49]]] = odds := ⟨_, rfl⟩
  rw [eo]
  have X2 : Ext h1 (h1.new (.lst odds)) := .new _
  have g2 : (h1.new (.lst odds)).get h1.n = some (.lst odds) := get_new_self
  have l2 : h1.n < (h1.new (.lst odds)).n := by rw [Hp.n_new]; omega
  generalize h1.new (.lst odds) = h2 at *
  generalize h1.n = nB at g2 l2 ⊢
  rw [wpS_cons]
  simp [LIM, b_addT oL2]
  have X3 : Ext h2 (h2.new (.lst [.tup [.str [107, 49, 50, 51, 52, 53, 54, 55]], .tup [.str [100, 45, 49]], .tup [.str [107, 49], .non], .tup (os.map enc ++ [.str []])])) := .new _
  have g3 : (h2.new (.lst [.tup [.str [107, 49, 50, 51, 52, 53, 54, 55]], .tup [.str [100, 45, 49]], .tup [.str [107, 49], .non], .tup (os.map enc ++ [.str []])])).get h2.n = some (.lst [.tup [.str [107, 49, 50, 51, 52, 53, 54, 55]], .tup [.str [100, 45, 49]], .tup [.str [107, 49], .non], .tup (os.map enc ++ [.str []])]) := get_new_self
  have gX := (X3.get _ l2).trans g2
  generalize h2.new (.lst [.tup [.str [107, 49, 50, 51, 52, 53, 54, 55]], .tup [.str [100, 45, 49]], .tup [.str [107, 49], .non], .tup (os.map enc ++ [.str []])]) = h3 at *
  generalize h2.n = nC at g3 ⊢
  have el : odds ++ [.tup [.str [107, 49, 50, 51, 52, 53, 54, 55]], .tup [.str [100, 45, 49]], .tup [.str [107, 49], .non], .tup (os.map enc ++ [.str []])] = oddsL nA os := by rw [← eo]; rfl
  rw [b_cat gX g3 (by rw [← List.length_append, el]; simp [oddsL]), el]
  have X4 : Ext h (h3.new (.lst (oddsL nA os))) := X1.trans (X2.trans (X3.trans (.new _)))
  have X4' : Ext h1 (h3.new (.lst (oddsL nA os))) := X2.trans (X3.trans (.new _))
  have g4 : (h3.new (.lst (oddsL nA os))).get h3.n = some (.lst (oddsL nA os)) := get_new_self
  have l4 : h3.n < (h3.new (.lst (oddsL nA os))).n := by rw [Hp.n_new]; omega
  simp [w_lst g4 (show (oddsL nA os).length ≤ LIM by simp [oddsL, LIM])]
  generalize h3.new (.lst (oddsL nA os)) = h4 at *
  generalize h3.n = nD at g4 l4 ⊢
  have gA := (X4'.get _ l1).trans g1
  have lA := Nat.lt_of_lt_of_le l1 X4'.le
  refine wp_forQL (fun _ τ h' => NI p s os h4 τ h') g4 ⟨_, _, _, rfl, .refl⟩ (fun j τ h8 ⟨_, _, _, _, X⟩ => (X.get _ l4).trans g4) (fun j x τ h8 e q => ?_) (fun τ h8 q => ?_)
  · obtain ⟨t3, t4, t5, rfl, X8⟩ := q
    obtain ⟨nn, N, Dv, hN, hsh⟩ := near_all (h0 := h8) hs ho hz hl ((X8.get _ lA).trans gA) (Nat.lt_of_lt_of_le lA X8.le) (List.mem_of_getElem? e)
    simp only [evT_nm, wpS_s, wp_ok]
    exact near1 (k := k) hs ho (by omega) nn hsh hN fun h' w X => ⟨_, _, _, rfl, X8.trans X⟩
  · obtain ⟨t3, t4, t5, rfl, X8⟩ := q
    rw [nxt_nx, wpS_cons]
    simp [LIM]
    have gB : (h8.new (.lst [.non, .str [], .str [97, 97], .str [65], .int 3])).get h8.n = some (.lst [.non, .str [], .str [97, 97], .str [65], .int 3]) := get_new_self
    have lB : h8.n < (h8.new (.lst [.non, .str [], .str [97, 97], .str [65], .int 3])).n := by rw [Hp.n_new]; omega
    have X9 : Ext h4 (h8.new (.lst [.non, .str [], .str [97, 97], .str [65], .int 3])) := X8.trans (.new _)
    simp [w_lst gB (by simp [LIM])]
    generalize h8.new (.lst [.non, .str [], .str [97, 97], .str [65], .int 3]) = h9 at *
    generalize h8.n = nE at gB lB ⊢
    refine wp_forQL (fun _ τ h' => NI p s os h9 τ h') gB ⟨_, _, _, rfl, .refl⟩ (fun j τ h8 ⟨_, _, _, _, X⟩ => (X.get _ lB).trans gB) (fun j x τ h10 e q => ?_) (fun τ h10 q => ?_)
    · obtain ⟨t3, t4, t5, rfl, X10⟩ := q
      have hb : badSg x := by
        have := List.mem_of_getElem? e
        simpa [badSg] using this
      simp only [evT_nm, wpS_s, wp_ok]
      exact near2 (k := k) hb fun h' w X => ⟨_, _, _, rfl, X10.trans X⟩
    · obtain ⟨t3, t4, t5, rfl, X10⟩ := q
      have XB := X4.trans (X9.trans X10)
      rw [nxt_nx, wpS_cons]
      simp [LIM]
      have XC : Ext h10 (h10.new (.lst [.str [97]])) := .new _
      have gC : (h10.new (.lst [.str [97]])).get h10.n = some (.lst [.str [97]]) := get_new_self
      have lC : h10.n < (h10.new (.lst [.str [97]])).n := by rw [Hp.n_new]; omega
      generalize h10.new (.lst [.str [97]]) = h11 at *
      generalize h10.n = nF at gC lC ⊢
      have XD : Ext h11 (h11.new (.lst [.non, .int 3, .str [90], .obj nF])) := .new _
      have gD : (h11.new (.lst [.non, .int 3, .str [90], .obj nF])).get h11.n = some (.lst [.non, .int 3, .str [90], .obj nF]) := get_new_self
      have lD : h11.n < (h11.new (.lst [.non, .int 3, .str [90], .obj nF])).n := by rw [Hp.n_new]; omega
      simp [w_lst gD (by simp [LIM])]
      have gF := (XD.get _ lC).trans gC
      have lF := Nat.lt_of_lt_of_le lC XD.le
      generalize h11.new (.lst [.non, .int 3, .str [90], .obj nF]) = h12 at *
      generalize h11.n = nG at gD lD ⊢
      refine wp_forQL (fun _ τ h' => NI p s os h12 τ h') gD ⟨_, _, _, rfl, .refl⟩ (fun j τ h8 ⟨_, _, _, _, X⟩ => (X.get _ lD).trans gD) (fun j x τ h13 e q => ?_) (fun τ h13 q => ?_)
      · obtain ⟨t3, t4, t5, rfl, X13⟩ := q
        have gF2 := (X13.get _ lF).trans gF
        have lF2 := Nat.lt_of_lt_of_le lF X13.le
        have hb : NoTx s x h13 ∧ ∀ h', Ext h13 h' → dataQ h' 18 x = true := by
          have := List.mem_of_getElem? e
          simp only [List.mem_cons, List.not_mem_nil, or_false] at this
          rcases this with rfl | rfl | rfl | rfl
          · exact ⟨not_flat (.inl rfl), fun _ _ => rfl⟩
          · exact ⟨not_flat (.inr ⟨_, rfl⟩), fun _ _ => rfl⟩
          · exact ⟨not_txt (h0 := h13) (by decide) (not_Z (h0 := h13) hs), fun _ _ => rfl⟩
          · refine ⟨not_lst gF2 lF2, fun h' X => ?_⟩
            have e := Hp.lst_of ((X.get _ lF2).trans gF2)
            show dataQ h' (17 + 1) (.obj nF) = true
            rw [dataQ, e]
            rfl
        simp only [evT_nm, wpS_s, wp_ok]
        exact near3 (k := k) hs ho (by omega) hb.1 hb.2 fun h' w X => ⟨_, _, _, rfl, X13.trans X⟩
      · obtain ⟨t3, t4, t5, rfl, X13⟩ := q
        rw [nxt_nx, wpS_cons]
        simp [LIM]
        refine (is_edit_gen (K := k + 12) (ws := [.str [107, 57, 57, 57, 57, 57, 57]]) (by omega) hs (fun w m => by simp at m; subst m; exact .inr (.inr ⟨_, rfl, by decide⟩)) (by simp [LIM])).imp fun w h14 ⟨e14, X14⟩ => ?_
        subst e14
        rw [show ([.str [107, 57, 57, 57, 57, 57, 57]] : List W).all (wordW s) = true from rfl]
        simp
        refine (is_edit_gen (K := k + 12) (ws := []) (by omega) hs (fun w m => by simp at m) (by simp [LIM])).imp fun w h15 ⟨e15, X15⟩ => ?_
        subst e15
        simp
        exact XB.trans (XC.trans (XD.trans (X13.trans (X14.trans X15))))
end K74
end
section
set_option maxRecDepth 100000
set_option linter.unusedVariables false
set_option linter.unusedSimpArgs false
namespace K74
open TX
/-- the middle: plain, turned, there and back -/
theorem edit_right2 {F K p n1 : Nat} {B : Int} {h : Hp} {s x y : List Nat} {os : List Op} {t5 t6 t7 t12 t13 : Option W} (hK : 20 ≤ K) (hs : Signs s) (hx2 : ∀ c ∈ x, c ∈ s) (hx : x.length ≤ 20) (ho : ∀ o ∈ os, o.ok s) (ht : sumO takenO os = x.length) (hz : sumO sizeO os ≤ 60) (hl : os.length ≤ 60) (P : Pen p B h) (hB : B < 2 ^ 38) (ey : (ap x os).1 = y) (yl : y.length = sumO leftO os) (yin : ∀ c ∈ y, c ∈ s) (y60 : y.length ≤ 60) (g1 : h.get n1 = some (.lst ((itms os 0).map encI))) (l1 : n1 < h.n) :
    WpS (evSs ⟨src.pg, F, run src.pg F K, run src.pg F (K - 1), lamOf src.pg F (K - 1)⟩ (.cons (.iff (.or (.cmp .ne (.var 10) (.cal 30 (.cons (.var 8) (.cons (.var 9) .nil)))) (.cmp .ne (.var 11) (.cal 34 (.cons (.var 8) (.cons (.var 2) .nil))))) (.cons (.ret (.cst (.bl false))) .nil) .nil) (.cons (.iff (.or (.cmp .ne (.cal 17 (.cons (.var 1) (.cons (.var 11) (.cons (.var 4) .nil)))) (.var 2)) (.cmp .ne (.cal 14 (.cons (.var 1) (.cons (.var 10) .nil))) (.var 10))) (.cons (.ret (.cst (.bl false))) .nil) .nil) (.cons (.iff (.cmp .ne (.cal 21 (.cons (.var 1) (.cons (.var 11) (.cons (.var 4) .nil)))) (.var 10)) (.cons (.ret (.cst (.bl false))) .nil) .nil) (.cons (.asg (.nm 6) (.cal 27 (.cons (.var 0) (.cons (.lst (.cons (.bin .add (.var 2) (.ix (.var 1) (.cst (.int 0)))) (.cons (.ite (.cmp .ne (.var 2) (.cst (.str []))) (.sl (.var 2) (.som (.cst (.int 1))) .non) (.bin .mul (.ix (.var 1) (.cst (.int 0))) (.cst (.int 2)))) .nil))) .nil)))) (.cons (.asg (.nm 7) (.lst (.cons (.met [⟨2, [.cst (.str [66, 97, 100, 83, 105, 103, 110, 115]), .fld 13]⟩, ⟨4, [.cst (.str [66, 97, 100, 80, 97, 112, 101, 114]), .fld 14]⟩, ⟨3, [.cst (.str [66, 97, 100, 87, 111, 114, 100]), .fld 15]⟩, ⟨5, [.cst (.str [78, 111, 116, 75, 101, 112, 116]), .fld 16, .fld 17]⟩] (.cal 17 (.cons (.var 1) (.cons (.var 3) (.cons (.var 6) .nil))))) .nil))) (.cons (.exp (.mth (.var 7) 0 (.cons (.met [⟨2, [.cst (.str [66, 97, 100, 83, 105, 103, 110, 115]), .fld 13]⟩, ⟨4, [.cst (.str [66, 97, 100, 80, 97, 112, 101, 114]), .fld 14]⟩, ⟨3, [.cst (.str [66, 97, 100, 87, 111, 114, 100]), .fld 15]⟩, ⟨5, [.cst (.str [78, 111, 116, 75, 101, 112, 116]), .fld 16, .fld 17]⟩] (.cal 21 (.cons (.var 1) (.cons (.var 3) (.cons (.var 6) .nil))))) .nil))) (.cons (.ret (.cmp .eq (.var 7) (.bin .mul (.lst (.cons (.tup (.cons (.cst (.str [78, 111, 116, 75, 101, 112, 116])) (.cons (.cst (.str [108, 101, 110, 103, 116, 104])) (.cons (.var 9) .nil)))) .nil)) (.cst (.int 2))))) .nil))))))) [some (.obj p), some (.str s), some (.str x), some (.tup (os.map enc)), some (.str y), t5, t6, t7, some (.obj n1), some (.int x.length), some (.tup ((plainOf os).map enc)), some (.tup ((plainOf (turnL x os 0)).map enc)), t12, t13] h) (fnl fun w h' => w = .bl true ∧ Pen p (B + 1) h' ∧ ExtP p h h') := by
  obtain ⟨k, rfl⟩ : ∃ k, K = k + 20 := ⟨K - 20, by omega⟩
  simp only [show k + 20 - 1 = k + 19 from rfl]
  have hxL : x.length ≤ LIM := Nat.le_trans hx (by decide)
  have hyL : y.length ≤ LIM := Nat.le_trans y60 (by decide)
  have hil := itms_len os 0
  have hin : ∀ o ∈ os, o.in_ s := fun o m => by
    cases o with
    | p t => exact (ho _ m).2.2
    | _ => trivial
  have okp : ∀ o ∈ plainOf os, o.ok s := plain_okay hin (by omega)
  have tz := turn_size x os 0
  have okt : ∀ o ∈ plainOf (turnL x os 0), o.ok s := plain_okay (turn_in hx2 os 0) (by omega)
  have tw := turn_twice ho okt ht
  rw [ey] at tw
  have bk : (ap y (plainOf (turnL x os 0))).1 = x := by rw [ap_plain, ← ey]; exact turn_back ht
  have tk : sumO takenO (plainOf (turnL x os 0)) = y.length := by rw [taken_plain, turn_taken, yl]
  have told := told_gen fun o m => ok_kpos (ho o m)
  rw [ht] at told
  have ps : sumO sizeO (plainOf os) < 1000 := by rw [sum_plain add_size]; omega
  have pt : sumO sizeO (plainOf (turnL x os 0)) < 1000 := by rw [sum_plain add_size]; omega
  have pl := plain_len os
  have ptl := plain_len (turnL x os 0)
  have pos : ∀ o ∈ os, o.pos := fun o m => by
    have := ho o m
    cases o <;> exact this.1
  have pa := plain_again pos
  rw [wpS_cons]
  simp
  refine (told26_ok (k := k + 18) (m := x.length) g1 l1 (by omega) (by omega) (fun v hv => by have := itms_old os 0 v hv; omega)).imp fun w h2 ⟨e2, X2⟩ => ?_
  subst e2
  rw [told, ne_edit hs.codes okp]
  simp
  have g2 := (X2.get _ l1).trans g1
  have l2 := Nat.lt_of_lt_of_le l1 X2.le
  refine (back_ok (k := k + 16) g2 l2 ho ht (by omega) (by omega)).imp fun w h3 ⟨e3, X3⟩ => ?_
  subst e3
  rw [ne_edit hs.codes okt]
  simp
  rw [wpS_cons]
  simp
  refine (applied_ok (k := k + 14) hs okt pt (by omega) (by omega) yin tk).imp fun w h4 ⟨e4, X4⟩ => ?_
  subst e4
  rw [bk]
  simp
  refine (plain_edit_ok (k := k + 14) hs okp ps (by omega)).imp fun w h5 ⟨e5, X5⟩ => ?_
  subst e5
  change Ot (cmpop .ne (.tup ((plainOf (plainOf os)).map enc)) (.tup ((plainOf os).map enc)) h5) _
  rw [pa, ne_edit hs.codes okp]
  simp
  rw [wpS_cons]
  simp
  refine (turned_ok (k := k + 14) hs okt pt (by omega) (by omega) yin tk).imp fun w h6 ⟨e6, X6⟩ => ?_
  subst e6
  change Ot (cmpop .ne (.tup ((plainOf (turnL y (plainOf (turnL x os 0)) 0)).map enc)) (.tup ((plainOf os).map enc)) h6) _
  rw [tw, ne_edit hs.codes okp]
  have X : Ext h h6 := X2.trans (X3.trans (X4.trans (X5.trans X6)))
  have := edit_right3 (F := F) (K := k + 20) (t4 := some (.str y)) (t5 := t5) (t6 := t6) (t7 := t7) (t8 := some (.obj n1)) (t10 := some (.tup ((plainOf os).map enc))) (t11 := some (.tup ((plainOf (turnL x os 0)).map enc))) (t12 := t12) (t13 := t13) hK hs hx2 hx ho ht hz hl (P.ex X) hB
  refine WpS.imp this fun f h' q => ?_
  cases f with
  | rt w => exact ⟨q.1, q.2.1, (ExtP.of X).trans q.2.2⟩
  | nx τ => exact ⟨q.1, q.2.1, (ExtP.of X).trans q.2.2⟩
  | _ => exact q
end K74
end
section
set_option maxRecDepth 100000
set_option linter.unusedVariables false
set_option linter.unusedSimpArgs false
namespace K74
open TX
/-- the old ones among items -/
def oldW (w : W) : Option W := match w with
  | .tup [.str [111, 108, 100], _] => some (.int 1)
  | _ => none
theorem old_len (its : List Im) : ((its.map encI).filterMap oldW).length = keptI its := by
  induction its with
  | nil => rfl
  | cons i r ih =>
    cases i with
    | old v => simp [encI, oldW, keptI] at *; exact ih
    | new c => simp [encI, oldW, keptI] at *; exact ih
theorem edit_right_ok {F K p : Nat} {B : Int} {h : Hp} {s x : List Nat} {os : List Op} (hK : 21 ≤ K) (P : Pen p B h) (hB : B < 2 ^ 38) (hs : Signs s) (hx2 : ∀ c ∈ x, c ∈ s) (hx : x.length ≤ 20) (ho : ∀ o ∈ os, o.ok s) (ht : sumO takenO os = x.length) (hz : sumO sizeO os ≤ 60) (hl : os.length ≤ 60) :
    Wp (run src.pg F K 35 [.obj p, .str s, .str x, .tup (os.map enc)] h) fun w h' => w = .bl true ∧ Pen p (B + 1) h' ∧ ExtP p h h' := by
  obtain ⟨k, rfl⟩ : ∃ k, K = k + 21 := ⟨K - 21, by omega⟩
  rw [run_s src (d := d35) rfl rfl, show d35.body = _ from t35, wp_fin]
  show WpS (evSs _ _ [some (.obj p), some (.str s), some (.str x), some (.tup (os.map enc)), none, none, none, none, none, none, none, none, none, none] h) _
  have hxL : x.length ≤ LIM := Nat.le_trans hx (by decide)
  have hon : ∀ o ∈ os, o.num := fun o m => (ho o m).num
  rw [wpS_cons]
  simp
  refine (items_ok (k := k + 17) hon (by omega) (by omega)).imp fun w h1 ⟨X1, n1, e1, l1, g1⟩ => ?_
  subst e1
  simp [f_lenS hxL, LIM, seq_tup]
  rw [wpS_cons]
  simp
  refine (law_applied_ok (F := F) (k := k + 18) (x := x) g1 l1 (by have := itms_len os 0; omega) (by omega) (fun v hv => by have := itms_old os 0 v hv; omega)).imp fun w h2 ⟨e2, X2⟩ => ?_
  subst e2
  rw [← ap_len2 (by omega)]
  obtain ⟨y, ey⟩ : ∃ y, (ap x os).1 = y := ⟨_, rfl⟩
  rw [ey]
  have yl : y.length = sumO leftO os := by
    rw [← ey, ap_len2 (by omega), List.length_map]
    have : ∀ (os : List Op) (a : Nat), (itms os a).length = sumO leftO os := fun os => by
      induction os with
      | nil => intro a; rfl
      | cons o os ih =>
        intro a
        rw [itms_cons, List.length_append, ih]
        cases o <;> simp [itm1, leftO, sumO]
    exact this os 0
  have yin : ∀ c ∈ y, c ∈ s := by rw [← ey, ap_len2 (by omega)]; exact sgn_in hx2 ho (by omega)
  have y60 : y.length ≤ 60 := by rw [← ey, ap_len2 (by omega), List.length_map]; have := itms_len os 0; omega
  have hyL : y.length ≤ LIM := Nat.le_trans y60 (by decide)
  have g2 : h2.get n1 = some (.lst ((itms os 0).map encI)) := (X2.get _ l1).trans g1
  have l2 : n1 < h2.n := Nat.lt_of_lt_of_le l1 X2.le
  rw [wpS_cons]
  have hil := itms_len os 0
  have hL : ((itms os 0).map encI).length ≤ LIM := by rw [List.length_map]; exact Nat.le_trans hil (Nat.le_trans hz (by decide))
  simp [f_lenS hyL, w_lst g2 hL]
  refine wp_lcGL (g := oldW) ((itms os 0).map encI) _ g2 l2 (fun w hw h3 X3 => ?_) fun h3 X3 => ?_
  · obtain ⟨i, _, rfl⟩ := List.mem_map.mp hw
    rw [wp_lcB1]
    cases i with
    | old v => simp [encI, seq_tup, wipe, oldW, LIM]; exact .refl
    | new c => simp [encI, seq_tup, wipe, oldW, LIM]; exact .refl
  · have ol := old_len (itms os 0)
    generalize ((itms os 0).map encI).filterMap oldW = ow at *
    have X4 := X3.trans (.new (.lst ow))
    simp [f_lenL get_new_self, ol]
    generalize h3.new (.lst ow) = h4 at *
    have ec := cost_kept os 0
    rw [b_mulI (show (okI 2 || okI (keptI (itms os 0) : Int)) = true from rfl)]
    simp
    have ec2 : (x.length : Int) + y.length - 2 * keptI (itms os 0) = (sumO costO os : Int) := by rw [ec, ht, yl]
    rw [ec2]
    clear ec ec2
    have l4 : n1 < h4.n := Nat.lt_of_lt_of_le l2 X4.le
    have g4 := (X4.get _ l2).trans g2
    rw [wpS_cons]
    simp
    refine (is_edit_ok (k := k + 15) hs ho (by omega)).imp fun w h5 ⟨e5, X5⟩ => ?_
    subst e5
    simp
    refine (applied_ok (k := k + 14) hs ho (by omega) (by omega) (by omega) hx2 ht).imp fun w h6 ⟨e6, X6⟩ => ?_
    subst e6
    simp [ey]
    rw [wpS_cons]
    simp
    refine (sizes_ok (k := k + 14) hs ho (by omega)).imp fun w h7 ⟨e7, X7⟩ => ?_
    subst e7
    rw [ht, ← yl]
    simp [f_lenS hxL, f_lenS hyL, LIM]
    rw [ne_self (xs := [.int x.length, .int y.length]) (by simp [dataQ])]
    simp
    refine (cost_ok (k := k + 14) hs ho (by omega)).imp fun w h8 ⟨e8, X8⟩ => ?_
    subst e8
    simp
    rw [wpS_cons]
    simp
    refine (plain_edit_ok (k := k + 14) hs ho (by omega) (by omega)).imp fun w h9 ⟨e9, X9⟩ => ?_
    subst e9
    refine (turned_ok (k := k + 14) hs ho (by omega) (by omega) (by omega) hx2 ht).imp fun w h10 ⟨e10, X10⟩ => ?_
    subst e10
    have X : Ext h h10 := X1.trans (X2.trans (X4.trans (X5.trans (X6.trans (X7.trans (X8.trans (X9.trans X10)))))))
    have := edit_right2 (F := F) (K := k + 20) (n1 := n1) (t5 := some (.int (sumO costO os))) (t6 := none) (t7 := none) (t12 := none) (t13 := none) (by omega) hs hx2 hx ho ht hz hl (P.ex X) hB ey yl yin y60 (((X5.trans (X6.trans (X7.trans (X8.trans (X9.trans X10))))).get _ l4).trans g4) (Nat.lt_of_lt_of_le l4 (X5.trans (X6.trans (X7.trans (X8.trans (X9.trans X10))))).le)
    refine WpS.imp this fun f h' q => ?_
    cases f with
    | rt w => exact ⟨q.1, q.2.1, (ExtP.of X).trans q.2.2⟩
    | nx τ => exact ⟨q.1, q.2.1, (ExtP.of X).trans q.2.2⟩
    | _ => exact q
end K74
end
section
set_option maxRecDepth 100000
set_option linter.unusedVariables false
set_option linter.unusedSimpArgs false
namespace K74
open TX
theorem wp_forE {c : Cf} {τ : Sl} {h : Hp} {t : T} {b : Ss} {e : E} {D : Fl → Hp → Prop} (H : Wp (evE c e τ h) fun w h' => ∃ n : Nat, w = .int n ∧ n < 1000 ∧ WpS (forQ (.snap (rngL n 0 1)) (fun x τ h => (evT c t x τ h).s τ fun τ h => evSs c b τ h) τ h') D) : WpS (evS c (.for t (.rng (.cons e .nil)) b) τ h) D := by
  rw [evS_for, wpS_s]
  simp
  refine H.imp fun w h' ⟨n, q, hn, H⟩ => ?_
  subst q
  rw [rng1 (show (0 : Int) ≤ n by omega) (show (n : Int) ≤ 1000000 by omega), Int.toNat_natCast]
  simpa using H
theorem rng_at {n i : Nat} {x : W} (e : (rngL n 0 1)[i]? = some x) : i < n ∧ ∃ z : Int, (i : Int) = z ∧ x = .int z := by
  rw [rngL_get] at e
  split at e
  · rename_i q
    refine ⟨q, _, rfl, ?_⟩
    simpa using e.symm
  · cases e
theorem pen_okK {F K : Nat} {h : Hp} {ns : List Int} {v : W} (hK : 2 ≤ K) (hl : ns.length ≤ 63) (hs : Script ns v h) : Wp (run src.pg F K 25 [v] h) fun w h' => ∃ p, w = .obj p ∧ Pen p 0 h' ∧ Ext h h' := by
  obtain ⟨k, rfl⟩ : ∃ k, K = k + 2 := ⟨K - 2, by omega⟩
  exact pen_ok hl hs
theorem line_okK {F K p : Nat} {B : Int} {h : Hp} {s : List Nat} {most : Int} (hK : 4 ≤ K) (P : Pen p B h) (h1 : s ≠ []) (h2 : s.length ≤ 1000) (hm : 0 ≤ most) (hm2 : most ≤ 100) (hB : B < 2 ^ 39) :
    Wp (run src.pg F K 33 [.obj p, .str s, .int most] h) fun w h' => ∃ t, w = .str t ∧ (∀ c ∈ t, c ∈ s) ∧ (t.length : Int) ≤ most ∧ Pen p (B + 1 + most) h' ∧ ExtP p h h' := by
  obtain ⟨k, rfl⟩ : ∃ k, K = k + 4 := ⟨K - 4, by omega⟩
  exact line_ok P h1 h2 hm hm2 hB
def LI (sv : W) (p : Nat) (i : Nat) (τ : Sl) (h : Hp) : Prop := ∃ t2 t3 t4 t5, τ = [some sv, some (.obj p), t2, t3, t4, t5] ∧ Pen p (2000 * i) h
theorem lap1 {F K K' p i : Nat} {sv : W} {z : Int} {t3 t4 t5 : Option W} {h : Hp} {I2 : Sl → Hp → Prop} {D : Fl → Hp → Prop} (hK : 24 ≤ K) (hK' : K = K' + 1) (hi : i < 6) (P0 : Pen p (2000 * i) h) (HI : ∀ τ h', LI sv p (i + 1) τ h' → I2 τ h') :
    WpS (evSs ⟨src.pg, F, run src.pg F K, run src.pg F K', lamOf src.pg F K'⟩ (.cons (.asg (.nm 3) (.cal 27 (.cons (.var 1) (.cons (.lst (.cons (.cst (.str [97, 98])) (.cons (.cst (.str [97, 98, 99])) (.cons (.cst (.str [120, 121, 59])) (.cons (.cst (.str [48, 49, 50, 51, 52, 53, 54, 55, 56, 57])) (.cons (.cst (.str [97])) .nil)))))) .nil)))) (.cons (.asg (.nm 4) (.cal 33 (.cons (.var 1) (.cons (.var 3) (.cons (.cst (.int 8)) .nil))))) (.cons (.asg (.nm 5) (.cal 32 (.cons (.var 1) (.cons (.var 3) (.cons (.bfn .len (.cons (.var 4) .nil)) .nil))))) (.cons (.iff (.nt (.cal 35 (.cons (.var 1) (.cons (.var 3) (.cons (.var 4) (.cons (.var 5) .nil)))))) (.cons (.ret (.cst (.bl false))) .nil) .nil) (.cons (.iff (.and (.cmp .eq (.var 2) (.cst (.int 0))) (.nt (.cal 36 (.cons (.var 1) (.cons (.var 3) (.cons (.var 5) .nil)))))) (.cons (.ret (.cst (.bl false))) .nil) .nil) .nil)))))
      [some sv, some (.obj p), some (.int z), t3, t4, t5] h) (trn I2 D) := by
  rw [wpS_cons]
  simp [LIM]
  have P1 := P0.new (.lst [.str [97, 98], .str [97, 98, 99], .str [120, 121, 59], .str [48, 49, 50, 51, 52, 53, 54, 55, 56, 57], .str [97]])
  have g1 : (h.new (.lst [.str [97, 98], .str [97, 98, 99], .str [120, 121, 59], .str [48, 49, 50, 51, 52, 53, 54, 55, 56, 57], .str [97]])).get h.n = some (.lst [.str [97, 98], .str [97, 98, 99], .str [120, 121, 59], .str [48, 49, 50, 51, 52, 53, 54, 55, 56, 57], .str [97]]) := get_new_self
  have n1 : h.n < (h.new (.lst [.str [97, 98], .str [97, 98, 99], .str [120, 121, 59], .str [48, 49, 50, 51, 52, 53, 54, 55, 56, 57], .str [97]])).n := by rw [Hp.n_new]; omega
  generalize h.new (.lst [.str [97, 98], .str [97, 98, 99], .str [120, 121, 59], .str [48, 49, 50, 51, 52, 53, 54, 55, 56, 57], .str [97]]) = hA at *
  refine (pick_lK (K := K) (by omega) P1 g1 n1 (by have := P0.lt; omega) (by simp) (by simp) (by omega)).imp fun w h2 ⟨hw, P2, X2⟩ => ?_
  obtain ⟨s, rfl, sg⟩ : ∃ s, w = .str s ∧ Signs s := by
    simp at hw
    rcases hw with rfl | rfl | rfl | rfl | rfl
    · exact ⟨_, rfl, by show signsB _ = true; decide +kernel⟩
    · exact ⟨_, rfl, by show signsB _ = true; decide +kernel⟩
    · exact ⟨_, rfl, by show signsB _ = true; decide +kernel⟩
    · exact ⟨_, rfl, by show signsB _ = true; decide +kernel⟩
    · exact ⟨_, rfl, by show signsB _ = true; decide +kernel⟩
  have sl := sg.len
  rw [wpS_cons]
  simp
  refine (line_okK (K := K) (by omega) P2 sg.ne (by omega) (by decide) (by decide) (by omega)).imp fun w h3 ⟨x, e3, c3, l3, P3, X3⟩ => ?_
  subst e3
  have hxL : x.length ≤ LIM := Nat.le_trans (show x.length ≤ 8 by omega) (by decide)
  rw [wpS_cons]
  simp [f_lenS hxL]
  refine (some_edit_ok (K := K) (m := x.length) (by omega) P3 sg.ne (by omega) (by omega) (by omega)).imp fun w h4 ⟨os, e4, ho, ht, hn, hz, P4, X4⟩ => ?_
  subst e4
  rw [wpS_cons]
  simp
  refine (edit_right_ok (K := K) (by omega) P4 (by omega) sg c3 (by omega) ho ht (by omega) (by omega)).imp fun w h5 ⟨e5, P5, X5⟩ => ?_
  subst e5
  simp
  rw [wpS_cons]
  simp
  by_cases hz0 : z = 0
  · rw [decide_eq_true hz0]
    simp
    refine (near_right_ok (K := K) (p := p) (by omega) sg ho (by omega) (by omega)).imp fun w h6 ⟨e6, X6⟩ => ?_
    subst e6
    simp
    exact HI _ _ ⟨_, _, _, _, rfl, (P5.ex X6).mono (by omega)⟩
  · rw [decide_eq_false hz0]
    simp
    exact HI _ _ ⟨_, _, _, _, rfl, P5.mono (by omega)⟩
theorem law_ok {F : Nat} {h : Hp} {ns : List Int} {v : W} (hl : ns.length ≤ 63) (hs : Script ns v h) : Wp (run src.pg F 40 37 [v] h) fun w _ => w = .bl true := by
  rw [show (40 : Nat) = 38 + 2 from rfl, run_s src (d := d37) rfl rfl, show d37.body = _ from t37, wp_fin]
  generalize hK : 38 + 1 = K
  generalize hK' : 38 = K'
  have e1 : 24 ≤ K := by omega
  have e2 : K = K' + 1 := by omega
  clear hK hK'
  show WpS (evSs _ _ [some v, none, none, none, none, none] h) _
  rw [wpS_cons]
  simp
  refine (pen_okK (K := K) (by omega) hl hs).imp fun w h1 ⟨p, e, P, X⟩ => ?_
  subst e
  rw [wpS_cons]
  refine wp_forE (Wp.imp (Q' := _) (show Wp (evE _ (.cst (.int 6)) _ h1) (fun w h' => w = .int 6 ∧ h' = h1) from (by simp)) fun w h2 ⟨e2', q2⟩ => ⟨6, e2', by decide, ?_⟩)
  subst q2
  refine wp_forQS (LI v p) ⟨_, _, _, _, rfl, by simpa using P⟩ (fun j y τ h6 e6 q6 => ?_) (fun τ h6 q6 => ?_)
  · obtain ⟨hj, z, hz, rfl⟩ := rng_at e6
    obtain ⟨t2, t3, t4, t5, rfl, P6⟩ := q6
    simp only [evT_nm, wpS_s, wp_ok]
    exact lap1 e1 e2 hj P6 fun _ _ q => q
  · obtain ⟨t2, t3, t4, t5, rfl, P6⟩ := q6
    rw [nxt_nx, wpS_cons]
    simp
theorem hrun : ∀ (ns : List Int) (v : TX.W) (h0 : TX.Hp), ns.length ≤ 63 → TX.Script ns v h0 → ∃ h, TX.run src.pg 100000 40 37 [v] h0 = .ok (.bl true) h := fun ns v h0 hl hs => by
  obtain ⟨w, h, e, rfl⟩ := (law_ok (F := 100000) hl hs).out
  exact ⟨h, e⟩
end K74
end
set_option maxRecDepth 100000
set_option maxHeartbeats 0
namespace K74
open PySem PySem.W
abbrev Ro : PySem.W.OpenRow := PySem.W.OpenLaw.row PySem.Challenge.rw_textways_k74_whole_edits
def loose_0 : List PySem.Str := ["WayError", "BadSigns", "BadWord", "BadPaper", "NotKept", "are_signs", "need_signs", "is_text_in", "need_text", "is_edit_word", "is_edit_in", "pairs_in", "is_edit", "need_edit", "taken_by", "left_by", "edit_sizes", "edit_cost", "Plain", "plain_in", "plain_edit", "applied_in", "need_taken", "applied", "behind_in", "passed_gone", "edit_behind", "turned_edit", "costs_of", "least_in"]
def loose_1 : List PySem.Str := ["least_edit", "_law_pen", "_law_draw", "_law_pick", "_law_met", "_law_pairs", "_law_items", "_law_plain_told", "_law_applied", "_law_some_edit", "_law_line", "_law_back", "_law_edit_right", "_law_near_right", "TEXT_SIGNS", "COUNT_SIGNS"]
def loose : List PySem.Str := loose_0 ++ loose_1
abbrev hk : PySem.W.Hook := He.hookX 6 fa fn [] tf ex
def ob (s : PySem.W.SharedT) : He.AlX := He.obsX 6 fa fn [] tf ex (HandSHeadRun.getT s)
theorem ob_eq (s : PySem.W.SharedT) : ob s = hk.obs s.abs := He.obsX_eq (HandSHeadRun.getT_eq s)
theorem head_run (w : World) : HandSHeadRun.RunEq Ro (PySem.W.view Ro.prog [50]) hk ob 6000 loose w := by
  intro os
  kernel_rfl
end K74
open PySem PySem.W PySem.Calls PyProof.Rows
theorem PySem.Challenge.cw_textways_k74_whole_edits_holds : PySem.Challenge.rw_textways_k74_whole_edits.Holds := by
  w_on; o_law
  refine HandSHeadRun.head_any (r := OpenLaw.row PySem.Challenge.rw_textways_k74_whole_edits) (q := view (OpenLaw.row PySem.Challenge.rw_textways_k74_whole_edits).prog [50]) (H := K74.hk) (ob := K74.ob) (M := 6000) (loose := K74.loose) (d := HandSHeadRun.topDef (OpenLaw.row PySem.Challenge.rw_textways_k74_whole_edits).prog 50) (kwd := []) K74.ob_eq
    (by kernel_rfl) (fun s => by kernel_rfl) K74.head_run (by kernel_rfl) (by kernel_rfl) (by kernel_rfl) (by rfl) (by first | assumption | decide +kernel) (by decide +kernel) ⟨rfl, rfl, rfl, rfl, rfl, by decide +kernel⟩ ?hw ?hc
  case hw => w_witness2
  case hc =>
    refine TX.walkG (l := PySem.Challenge.rw_textways_k74_whole_edits) (n := 63) (k := 40) (x := "script") rfl (by rw [sizeLine_eq]; decide) (by kernel_rfl) ⟨rfl, by decide, by decide⟩ ?F (fun _ _ _ _ _ z => by obtain ⟨_, _, _, _, _, _, _, _, _, _, _, _, z⟩ := z; exact z)
    intro w mg f0 h Y N hmg0
    obtain ⟨K, KX, c⟩ := Y
    have hmg : mg ("law" : PySem.Str) = some (.ref f0) := by
      have e : (HandSHeadRun.topDef (OpenLaw.row PySem.Challenge.rw_textways_k74_whole_edits).prog 50).name = ("law" : PySem.Str) := by kernel_rfl
      rw [← e]
      exact hmg0
    obtain ⟨fd, hb, hF⟩ := K74.law_at (P := (PySem.Challenge.rw_textways_k74_whole_edits).prog) KX N c hmg K74.hrun
    refine ⟨K, KX, fd, (K74.G K).cs, TX.spLaw (K74.G K), fun p hp => ?_, fun p hp => ?_, fun p hp => ?_, hb, fun H a ns hl hT hS => ⟨a, ns, rfl, hT, hS, hl, fun _ => rfl⟩, fun base _ _ TB => hF base TB⟩
    · obtain ⟨q, hq, rfl⟩ := List.mem_map.mp hp; exact c.empty _ (List.mem_map.mpr ⟨q, hq, rfl⟩)
    · obtain ⟨q, hq, rfl⟩ := List.mem_map.mp hp; exact c.out _ (List.mem_map.mpr ⟨q, hq, rfl⟩)
    · obtain ⟨q, hq, rfl⟩ := List.mem_map.mp hp; exact PySem.W.codeHd_of_K KX (c.hd _ (List.mem_map.mpr ⟨q, hq, rfl⟩))
