import PyProof.Rows.All
import Wide.All
import OpenK.AllK
import Wide.FinOn
import KE.KStateDown
import HandS.ForMost
import HandS.ForExc
import KE.KeyNested
import HandS.Lambda
import HandS.TupAny
import HandS.TupMul
import HandS.Style
import HandS.Wide
import HandS.WideMore
import HandS.Deep
import HandS.StrMore
import HandS.Conv
import HandS.IsInst
import HandS.SetFor
import HandS.CallSlots
import PyProof.ListStr
import HandS.More
import HandS.Zip
import HandS.Iter
import HandS.Exc
import KE.KDictWalk
import HandS.Dict
import HandS.Replace
import HandS.Defaults
import HandS.FStr
import KE.GoesEnum
import HandS.ExcOwn
import HandS.OwnEq
import PyProof.InstNe
import HandS.ExcIs
import HandS.ReplaceLit
import HandS.ReplaceList
import HandS.Ends
import PyProof.P3Eq
import HandS.Head0
import HandS.Head1
import HandS.Head2
import HandS.HeadEnd
import HandS.HeadHook1
import HandS.HeadHook2
import HandS.HeadHook3
import HandS.HeadHook4
import PySem.Challenge.RW_digitrows_k81_session_ends
set_option Elab.async false
set_option linter.all false
set_option maxRecDepth 100000
/-! MiniPy, part 0: values, heaps, the syntax and its run (plain Lean, no model in sight). -/
namespace Mp
noncomputable section

/-- a value: tuples are trees, texts are lists of code points, mutable things are numbers of objects -/
inductive D where
  | non | bl (b : Bool) | int (i : Int) | str (s : List Nat) | tup (xs : List D) | ob (n : Nat) | fn (f : Nat) | ex (c : Nat) | clo (l : Nat) (vs : List D) | junk
  deriving Inhabited

mutual
def D.beq : D → D → Bool
  | .non, .non => true
  | .bl a, .bl b => a == b
  | .int a, .int b => a == b
  | .str a, .str b => a == b
  | .tup a, .tup b => D.beqs a b
  | .ob a, .ob b => a == b
  | .fn a, .fn b => a == b
  | .ex a, .ex b => a == b
  | .clo a x, .clo b y => a == b && D.beqs x y
  | .junk, .junk => true
  | _, _ => false
def D.beqs : List D → List D → Bool
  | [], [] => true
  | x :: xs, y :: ys => D.beq x y && D.beqs xs ys
  | _, _ => false
end
mutual
theorem D.beq_iff : ∀ a b : D, D.beq a b = true ↔ a = b
  | .non, b => by cases b <;> simp [D.beq]
  | .bl _, b => by cases b <;> simp [D.beq]
  | .int _, b => by cases b <;> simp [D.beq]
  | .str _, b => by cases b <;> simp [D.beq]
  | .tup x, b => by
    cases b with
    | tup y => simp only [D.beq, D.tup.injEq]; exact D.beqs_iff x y
    | _ => simp [D.beq]
  | .ob _, b => by cases b <;> simp [D.beq]
  | .fn _, b => by cases b <;> simp [D.beq]
  | .ex _, b => by cases b <;> simp [D.beq]
  | .clo l x, b => by
    cases b with
    | clo m y => simp only [D.beq, Bool.and_eq_true, D.clo.injEq, beq_iff_eq]; rw [D.beqs_iff x y]
    | _ => simp [D.beq]
  | .junk, b => by cases b <;> simp [D.beq]
theorem D.beqs_iff : ∀ a b : List D, D.beqs a b = true ↔ a = b
  | [], b => by cases b <;> simp [D.beqs]
  | x :: xs, b => by
    cases b with
    | nil => simp [D.beqs]
    | cons y ys => simp only [D.beqs, Bool.and_eq_true, List.cons.injEq]; rw [D.beq_iff x y, D.beqs_iff xs ys]
end
instance : DecidableEq D := fun a b => decidable_of_iff _ (D.beq_iff a b)

inductive Ob where
  | lst (xs : List D) | scr (xs : List D) | dct (lk : Bool) (kvs : List (D × D)) | ins (c : Nat) (fs : List (Nat × D))
  deriving DecidableEq, Inhabited
abbrev Hd := List Ob
abbrev Sl := List (Option D)

/-- a run's end: a value, an exception of a class, or nothing said -/
inductive R (α : Type) where
  | ok (a : α) | ex (c : Nat) (h : Hd) | no
def R.bind {α β : Type} (x : R α) (f : α → R β) : R β := match x with
  | .ok a => f a
  | .ex c h => .ex c h
  | .no => .no
instance : Monad R where
  pure := .ok
  bind := R.bind
def R.of {α : Type} : Option α → R α
  | some a => .ok a
  | none => .no
@[simp] theorem R.ok_bind {α β : Type} (a : α) (f : α → R β) : (R.ok a >>= f) = f a := rfl
@[simp] theorem R.pure_bind' {α β : Type} (a : α) (f : α → R β) : ((pure a : R α) >>= f) = f a := rfl
@[simp] theorem R.no_bind {α β : Type} (f : α → R β) : (R.no >>= f) = R.no := rfl
@[simp] theorem R.ex_bind {α β : Type} (c : Nat) (h : Hd) (f : α → R β) : (R.ex c h >>= f) = R.ex c h := rfl
@[simp] theorem R.pure_eq {α : Type} (a : α) : (pure a : R α) = R.ok a := rfl

/-! ### the syntax -/
inductive Bop where
  | add | sub | mul | fdiv | mod | pow
  deriving DecidableEq
inductive Cop where
  | eq | ne | lt | le | gt | ge | is_ | isnot | in_ | notin
  deriving DecidableEq
inductive B1 where
  | len | int_ | str_ | tuple | list | all | any | sum | max | min | sorted | setlist | dict | lenset | sortedset
  deriving DecidableEq
inductive B2 where
  | max | min | divmod | intb
  deriving DecidableEq
inductive Ty where
  | int | bool | str | tuple | list | dict | verr | own (c : Nat) | cls (c : Nat)
  deriving DecidableEq
inductive M0 where
  | pop | keys | values | items
  deriving DecidableEq
inductive M1 where
  | append | extend | pop | index | count | split | join | get
  deriving DecidableEq
inductive M2 where
  | get | replace
  deriving DecidableEq
inductive T where
  | nm (i : Nat) | tp (ts : List T)
mutual
inductive E where
  | v (i : Nat) | c (d : D) | gc (x : String) (d : D) | gf (f : Nat)
  | bin (op : Bop) (a b : E) | neg (a : E) | nt (a : E)
  | cmp (op : Cop) (a b : E) | chn (o p : Cop) (a b c : E)
  | and_ (a b : E) | or_ (a b : E) | ite (t a b : E)
  | tup (es : List E) | lst (es : List E) | dct (ks vs : List E)
  | ix (a i : E) | sl (a : E) (lo hi : E) | rv (a : E)
  | call (f : Nat) (es : List E) | callv (f : E) (es : List E)
  | mk (c : Nat) (es : List E) | um (m : Nat) (o : E) (es : List E) | fld (o : E) (f : Nat)
  | b1 (f : B1) (a : E) | b2 (f : B2) (a b : E) | max3 (a b c : E)
  | m0 (m : M0) (o : E) | m1 (m : M1) (o a : E) | m2 (m : M2) (o a b : E)
  | isi (a : E) (t : List Ty)
  | fs (parts : List E) | lam (l : Nat) (caps : List Nat) | callL (f : Nat) (es : List E) | mkL (c : Nat) (es : List E) | keysL (e : E) | valsL (e : E) | itemsL (e : E)
  | comp (own : List Nat) (t : T) (it : I) (c : E) (elt : E)
inductive I where
  | sq (e : E) | rng (a b : E) | en (e : E) | zp (a b : E) | items (e : E) | keys (e : E) | vals (e : E)
end
inductive S where
  | ex (e : E) | asg (t : T) (e : E) | setIx (o i e : E) | asgIx (i : Nat) (o j e : E) | setFld (o : E) (f : Nat) (e : E)
  | par (is : List Nat) (es : List E) | star (i j : Nat) (e : E)
  | aug (i : Nat) (op : Bop) (e : E) | ite (t : E) (a b : List S) | for_ (t : T) (it : I) (b : List S)
  | whl (t : E) (b : List S) | ret (e : E) | retN | raise (c : Nat) | try_ (b : List S) (c : Nat) (i j : Nat)
  | pas | brk | cnt | bad

/-! ### operations on values -/
def sizeL : Nat := 16777216
/-- as data, to a depth -/
def toP (h : Hd) : Nat → D → Option PySem.PyData
  | 0, _ => none
  | n + 1, d => match d with
    | .non => some .none
    | .bl b => some (.bool b)
    | .int i => some (.int i)
    | .str s => if s.all (· < 0x110000) then some (.str ⟨s.toArray⟩) else none
    | .tup xs => (xs.mapM (toP h n)).map .tuple
    | .ob k => match h[k]? with
      | some (.lst xs) => (xs.mapM (toP h n)).map .list
      | some (.scr xs) => (xs.mapM (toP h n)).map .list
      | _ => none
    | _ => none
def pyEq (h : Hd) (a b : D) : Option Bool := match toP h 40 a, toP h 40 b with
  | some x, some y => some (PySem.PyData.eqv x y)
  | _, _ => none
/-- a question that is never computed -/
noncomputable def pr (p : Prop) : Bool := @decide p (Classical.propDecidable p)
theorem pr_eq {p : Prop} : (pr p = true) = p := propext ⟨fun h => @of_decide_eq_true p (Classical.propDecidable p) h, fun h => @decide_eq_true p (Classical.propDecidable p) h⟩
theorem pr_of {p : Prop} (h : p) : pr p = true := pr_eq.mpr h
noncomputable def small (i : Int) : Bool := pr (-(2 ^ 64) < i) && pr (i < 2 ^ 64)
/-- a new object at the heap's end -/
def new (o : Ob) (h : Hd) : R (D × Hd) := .ok (.ob h.length, h ++ [o])
def lstOf (h : Hd) (d : D) : Option (List D) := match d with
  | .ob k => match h[k]? with
    | some (.lst xs) => some xs
    | _ => none
  | _ => none
def binD (op : Bop) (a b : D) (h : Hd) : R (D × Hd) := match op, a, b with
  | .add, .int i, .int j => .ok (.int (i + j), h)
  | .sub, .int i, .int j => .ok (.int (i - j), h)
  | .mul, .int i, .int j => if small i || small j then .ok (.int (i * j), h) else .no
  | .fdiv, .int i, .int j => if decide (0 < j) && pr (j.natAbs < 2 ^ 9000) then .ok (.int (i / j), h) else .no
  | .mod, .int i, .int j => if 0 < j then .ok (.int (i % j), h) else .no
  | .pow, .int i, .int j => if decide (0 ≤ j) && (pr (j ≤ 1000000) && pr (i.natAbs < 2 ^ 64)) then .ok (.int (i ^ j.toNat), h) else .no
  | .add, .str s, .str t => if s.length + t.length ≤ sizeL then .ok (.str (s ++ t), h) else .no
  | .add, .tup s, .tup t => if s.length + t.length ≤ sizeL then .ok (.tup (s ++ t), h) else .no
  | .add, .ob _, .ob _ => match lstOf h a, lstOf h b with
    | some xs, some ys => if xs.length + ys.length ≤ sizeL then new (.lst (xs ++ ys)) h else .no
    | _, _ => .no
  | .mul, .ob _, .int k => match lstOf h a with
    | some xs => if pr (-(2 ^ 63) ≤ k) && (pr (k < 2 ^ 63) && pr (xs.length * k.toNat ≤ sizeL)) then new (.lst (List.replicate k.toNat xs).flatten) h else .no
    | none => .no
  | .mul, .tup xs, .int k => if decide (xs ≠ []) && (decide (0 ≤ k) && (pr (k ≤ 1000) && pr (xs.length ≤ 1000))) then .ok (.tup (List.replicate k.toNat xs).flatten, h) else .no
  | _, _, _ => .no
/-- the items of a sequence: a list (its object, if it stands in the heap), a tuple, a text -/
inductive Sq where
  | l (id : Option Nat) (xs : List D) | t (xs : List D) | s (x : List Nat) | d (k : Nat) (lk : Bool) (kvs : List (D × D))
def sqOf (h : Hd) (d : D) : Option Sq := match d with
  | .tup xs => some (.t xs)
  | .str s => some (.s s)
  | .ob k => match h[k]? with
    | some (.lst xs) => some (.l (some k) xs)
    | some (.scr xs) => some (.l (some k) xs)
    | some (.dct lk kvs) => some (.d k lk kvs)
    | _ => none
  | _ => none
def Sq.items : Sq → List D
  | .l _ xs => xs
  | .t xs => xs
  | .s x => x.map fun c => .str [c]
  | .d _ _ kvs => kvs.map (·.1)
/-- a flat value as the hand layer's -/
def vOf : D → Option L2.V
  | .non => some .non
  | .bl b => some (.bl b)
  | .int i => some (.int i)
  | .str s => some (.str ⟨s.toArray⟩)
  | _ => none
def dGet (kvs : List (D × D)) (k : D) : Option D := match kvs with
  | [] => none
  | (q, v) :: r => if q = k then some v else dGet r k
def dPut (kvs : List (D × D)) (k v : D) : List (D × D) := match kvs with
  | [] => [(k, v)]
  | (q, w) :: r => if q = k then (q, v) :: r else (q, w) :: dPut r k v
mutual
/-- a key of a dict -/
def keyOf : D → Option PySem.NestedKey
  | .non => some .none
  | .bl b => some (.num (if b then 1 else 0))
  | .int i => some (.num i)
  | .str s => some (.text ⟨s.toArray⟩)
  | .tup xs => (keysOf xs).map .tup
  | _ => none
def keysOf : List D → Option (List PySem.NestedKey)
  | [] => some []
  | x :: xs => match keyOf x, keysOf xs with
    | some k, some ks => some (k :: ks)
    | _, _ => none
end
mutual
/-- numbers and tuples of numbers, to a depth -/
def numK : Nat → D → Bool
  | _, .int _ => true
  | n + 1, .tup xs => numKs n xs
  | _, _ => false
def numKs : Nat → List D → Bool
  | _, [] => true
  | n, x :: xs => numK n x && numKs n xs
end
/-- keys that may be asked for beside one another: both numbers, or both tuples of numbers -/
def likeK : D → D → Bool
  | .int _, .int _ => true
  | .tup xs, .tup ys => numKs 6 xs && numKs 6 ys
  | _, _ => false
def likeKs (kvs : List (D × D)) (k : D) : Bool := likeK k k && kvs.all fun kv => likeK k kv.1
def inD (a b : D) (h : Hd) : R Bool := match b with
  | .str t => match a with
    | .str [c] => .ok (decide (c ∈ t))
    | _ => .no
  | .tup xs => match vOf a, xs.mapM vOf with
    | some x, some ys => .ok (ys.any fun y => L2.eqV y x)
    | _, _ => .no
  | .ob k => match h[k]? with
    | some (.lst xs) => match toP h 40 a, xs.mapM (toP h 40) with
      | some p, some ps => .ok (ps.any fun z => PySem.PyData.eqv z p)
      | _, _ => .no
    | _ => .no
  | _ => .no
def cmpD (op : Cop) (a b : D) (h : Hd) : R Bool := match op with
  | .eq => R.of (pyEq h a b)
  | .ne => R.of ((pyEq h a b).map not)
  | .lt => match a, b with | .int i, .int j => .ok (decide (i < j)) | _, _ => .no
  | .le => match a, b with | .int i, .int j => .ok (decide (i ≤ j)) | _, _ => .no
  | .gt => match a, b with | .int i, .int j => .ok (decide (j < i)) | _, _ => .no
  | .ge => match a, b with | .int i, .int j => .ok (decide (j ≤ i)) | _, _ => .no
  | .is_ => match b with
    | .non => .ok (decide (a = .non))
    | .bl c => match a with | .bl d => .ok (decide (d = c)) | _ => .no
    | _ => .no
  | .isnot => match b with
    | .non => .ok (!decide (a = .non))
    | .bl c => match a with | .bl d => .ok (!decide (d = c)) | _ => .no
    | _ => .no
  | .in_ => inD a b h
  | .notin => inD a b h >>= fun r => .ok (!r)
def truD : D → R Bool
  | .bl b => .ok b
  | _ => .no
def ixD (a i : D) (h : Hd) : R D := match i with
  | .int k => match sqOf h a with
    | some (.d _ _ _) => .no
    | some q => if (match q with | .s x => decide (x.length ≤ sizeL) | _ => true) then R.of ((L2.ixN q.items.length k).bind fun j => q.items[j]?) else .no
    | none => .no
  | _ => .no
/-- a slice's bound -/
def sIx (n d : Nat) : D → Option Nat
  | .non => some d
  | .int v => some (if v < 0 then (v + (n : Int)).toNat else min v.toNat n)
  | _ => none
def cut {α : Type} (xs : List α) (lo hi : Nat) : List α := (xs.drop lo).take (hi - lo)
def slD (a lo hi : D) (h : Hd) : R (D × Hd) := match a with
  | .tup xs => match sIx xs.length 0 lo, sIx xs.length xs.length hi with
    | some l, some u => .ok (.tup (cut xs l u), h)
    | _, _ => .no
  | .str xs => match sIx xs.length 0 lo, sIx xs.length xs.length hi with
    | some l, some u => if xs.length ≤ sizeL then .ok (.str (cut xs l u), h) else .no
    | _, _ => .no
  | .ob _ => match lstOf h a with
    | some xs => match sIx xs.length 0 lo, sIx xs.length xs.length hi with
      | some l, some u => new (.lst (cut xs l u)) h
      | _, _ => .no
    | none => .no
  | _ => .no
/-- the decimal digits of a number -/
def strI (i : Int) : List Nat := (PySem.Str.ofString (toString i)).cps.toList
/-- what int(text) reads: one digit -/
def intS : List Nat → Option Int
  | [c] => if decide (48 ≤ c) && decide (c ≤ 57) then some ((c - 48 : Nat) : Int) else none
  | _ => none
def intL : List D → Option (List Int)
  | [] => some []
  | .int i :: r => (intL r).map (i :: ·)
  | _ :: _ => none
def blL : List D → Option (List Bool)
  | [] => some []
  | .bl i :: r => (blL r).map (i :: ·)
  | _ :: _ => none
def strL : List D → Option (List (List Nat))
  | [] => some []
  | .str i :: r => (strL r).map (i :: ·)
  | _ :: _ => none
def maxI : List Int → Int
  | [] => 0
  | [x] => x
  | x :: r => max x (maxI r)
def minI : List Int → Int
  | [] => 0
  | [x] => x
  | x :: r => min x (minI r)
/-- a built-in's value on a sequence's items -/
def b1D (f : B1) (q : Sq) (h : Hd) : R (D × Hd) := match f, q with
  | _, .d _ _ _ => .no
  | .len, .s x => if x.length ≤ sizeL then .ok (.int x.length, h) else .no
  | .len, q => .ok (.int q.items.length, h)
  | .tuple, .l _ xs => .ok (.tup xs, h)
  | .tuple, .t xs => .ok (.tup xs, h)
  | .sum, .l _ xs => R.of ((intL xs).map fun ns => (.int ns.sum, h))
  | .all, .l _ xs => R.of ((blL xs).map fun bs => (.bl (bs.all id), h))
  | .any, .l _ xs => R.of ((blL xs).map fun bs => (.bl (bs.any id), h))
  | .max, .l _ xs => match intL xs with
    | some (n :: ns) => .ok (.int (maxI (n :: ns)), h)
    | _ => .no
  | .min, .l _ xs => match intL xs with
    | some (n :: ns) => .ok (.int (minI (n :: ns)), h)
    | _ => .no
  | _, _ => .no
/-- a built-in's value on a value -/
def b1V (f : B1) (d : D) (h : Hd) : R (D × Hd) := match f, d with
  | .int_, .int i => .ok (.int i, h)
  | .int_, .bl b => .ok (.int (if b then 1 else 0), h)
  | .int_, .str s => R.of ((intS s).map fun i => (.int i, h))
  | .str_, .int i => if i.natAbs.log2 < 1920 then .ok (.str (strI i), h) else .no
  | _, _ => .no
def b2D (f : B2) (a b : D) (h : Hd) : R (D × Hd) := match f, a, b with
  | .max, .int i, .int j => .ok (.int (if j > i then j else i), h)
  | .min, .int i, .int j => .ok (.int (if j < i then j else i), h)
  | .divmod, .int i, .int j => if decide (0 < j) && pr (j < 1073741824) then .ok (.tup [.int (i / j), .int (i % j)], h) else .no
  | _, _, _ => .no
inductive Kd where
  | non | bool | int | str | tuple | list
  deriving DecidableEq
def kindD (h : Hd) : D → Option Kd
  | .non => some .non
  | .bl _ => some .bool
  | .int _ => some .int
  | .str _ => some .str
  | .tup _ => some .tuple
  | .ob k => match h[k]? with
    | some (.lst _) => some .list
    | some (.scr _) => some .list
    | _ => none
  | _ => none
def kdTy : Kd → Ty → Option Bool
  | k, .int => some (k = .int || k = .bool)
  | k, .bool => some (k = .bool)
  | k, .str => some (k = .str)
  | k, .tuple => some (k = .tuple)
  | k, .list => some (k = .list)
  | _, .dict => some false
  | _, _ => none
def isTy (sub : Nat → Nat → Bool) (h : Hd) (d : D) (t : Ty) : Option Bool := (kindD h d).bind fun k => kdTy k t
/-- pieces between the sign c -/
def splitC (c : Nat) : List Nat → List (List Nat)
  | [] => [[]]
  | x :: xs => if x = c then [] :: splitC c xs else match splitC c xs with
    | [] => [[x]]
    | p :: ps => (x :: p) :: ps
def joinS (sep : List Nat) : List (List Nat) → List Nat
  | [] => []
  | [x] => x
  | x :: r => x ++ sep ++ joinS sep r
def updO (h : Hd) (k : Nat) (o : Ob) : Hd := h.set k o
def m0D (m : M0) (o : D) (h : Hd) : R (D × Hd) := match m, o with
  | .pop, .ob k => match h[k]? with
    | some (.lst xs) => match xs[xs.length - 1]? with
      | some y => .ok (y, h.set k (.lst xs.dropLast))
      | none => .no
    | _ => .no
  | _, _ => .no
def m1D (m : M1) (o a : D) (h : Hd) : R (D × Hd) := match m, o with
  | .append, .ob k => match h[k]? with
    | some (.lst xs) => if xs.length < sizeL then .ok (.non, h.set k (.lst (xs ++ [a]))) else .no
    | _ => .no
  | .pop, .ob k => match h[k]?, a with
    | some (.lst (x :: xs)), .int 0 => .ok (x, h.set k (.lst xs))
    | _, _ => .no
  | .index, .ob k => match h[k]? with
    | some (.lst xs) => match toP h 40 a, xs.mapM (toP h 39) with
      | some p, some ps => match ps.findIdx? (fun z => PySem.PyData.eqv z p) with
        | some j => .ok (.int (j : Nat), h)
        | none => .no
      | _, _ => .no
    | _ => .no
  | .count, .ob k => match h[k]? with
    | some (.lst xs) => match toP h 40 a, xs.mapM (toP h 39) with
      | some p, some ps => .ok (.int ((ps.countP fun z => PySem.PyData.eqv z p) : Nat), h)
      | _, _ => .no
    | _ => .no
  | .split, .str s => match a with
    | .str [c] => if decide (s.length + 2 ≤ sizeL) && decide (c < 256) then new (.lst ((splitC c s).map .str)) h else .no
    | _ => .no
  | .get, .ob k => match h[k]? with
    | some (.dct _ kvs) => if likeKs kvs a then .ok ((dGet kvs a).getD .non, h) else .no
    | _ => .no
  | .index, .str s => match a with
    | .str b => match PySem.Builtin.Str.occurrences ⟨s.toArray⟩ ⟨b.toArray⟩ 0 s.length 1 with
      | i :: _ => .ok (.int (i : Nat), h)
      | [] => .no
    | _ => .no
  | _, _ => .no
def replC (c : Nat) (w : List Nat) : List Nat → List Nat
  | [] => []
  | x :: xs => if x = c then w ++ replC c w xs else x :: replC c w xs
def m2D (m : M2) (o a b : D) (h : Hd) : R (D × Hd) := match m, o with
  | .get, .ob k => match h[k]? with
    | some (.dct _ kvs) => if likeKs kvs a then .ok ((dGet kvs a).getD b, h) else .no
    | _ => .no
  | .replace, .str s => match a, b with
    | .str [c], .str w => if decide (s.length + (s.length + 1) * w.length ≤ sizeL) then .ok (.str (replC c w s), h) else .no
    | _, _ => .no
  | _, _ => .no
def setIxD (o i v : D) (h : Hd) : Option Hd := match o, i with
  | .ob k, .int j => match h[k]? with
    | some (.lst xs) => match L2.ixN xs.length j with
      | some p => some (h.set k (.lst (xs.set p v)))
      | none => none
    | _ => none
  | _, _ => none
/-- a dict of the heap -/
def dctOf (h : Hd) : D → Option (Nat × Bool × List (D × D))
  | .ob k => match h[k]? with
    | some (.dct lk kvs) => some (k, lk, kvs)
    | _ => none
  | _ => none
def ixC (a i : D) (h : Hd) : R D := match dctOf h a with
  | some (_, _, kvs) => if likeKs kvs i then R.of (dGet kvs i) else .no
  | none => ixD a i h
def setIxC (o i v : D) (h : Hd) : Option Hd := match dctOf h o with
  | some (k, false, kvs) => if likeKs kvs i && decide (kvs.length < sizeL) then some (h.set k (.dct false (dPut kvs i v))) else none
  | some _ => none
  | none => setIxD o i v h
/-- an attribute is stored -/
def fPut (fs : List (Nat × D)) (f : Nat) (v : D) : List (Nat × D) := match fs with
  | [] => [(f, v)]
  | (g, w) :: r => if g = f then (g, v) :: r else (g, w) :: fPut r f v
/-! ### what a call leaves of the caller's own functions -/
mutual
def jk : D → D
  | .clo _ _ => .junk
  | .tup xs => .tup (jks xs)
  | d => d
def jks : List D → List D
  | [] => []
  | x :: xs => jk x :: jks xs
end
def jkO : Ob → Ob
  | .lst xs => .lst (jks xs)
  | .scr xs => .scr (jks xs)
  | .dct lk kvs => .dct lk (kvs.map fun kv => (jk kv.1, jk kv.2))
  | .ins c fs => .ins c (fs.map fun kv => (kv.1, jk kv.2))
def jkN (h h2 : Hd) : Hd := h2.mapIdx fun i o => if h[i]? = some o then o else jkO o

/-! ### slots -/
def getV (σ : Sl) (i : Nat) : R D := match σ[i]? with
  | some (some d) => .ok d
  | _ => .no
mutual
def asgT : T → D → Sl → Option Sl
  | .nm i, d, σ => if i < σ.length then some (σ.set i (some d)) else none
  | .tp ts, d, σ => match d with
    | .tup xs => asgTs ts xs σ
    | _ => none
def asgTs : List T → List D → Sl → Option Sl
  | [], [], σ => some σ
  | t :: ts, x :: xs, σ => (asgT t x σ).bind fun σ' => asgTs ts xs σ'
  | _, _, _ => none
end
def wipe (σ : Sl) : List Nat → Sl
  | [] => σ
  | v :: vs => (wipe σ vs).set v none

/-! ### the end of a call -/
mutual
def D.lo (m : Nat) : D → Bool
  | .ob k => decide (k < m)
  | .tup xs => D.los m xs
  | .clo _ vs => D.los m vs
  | _ => true
def D.los (m : Nat) : List D → Bool
  | [] => true
  | x :: xs => D.lo m x && D.los m xs
end
def Ob.lo (m : Nat) : Ob → Bool
  | .lst xs => D.los m xs
  | .scr xs => D.los m xs
  | .dct _ kvs => D.los m (kvs.map (·.1)) && D.los m (kvs.map (·.2))
  | .ins _ fs => D.los m (fs.map (·.2))
/-- the older objects stand as they were, or hold nothing new -/
def oldOk (m : Nat) : Hd → Hd → Bool
  | [], _ => true
  | a :: r, b :: s => (decide (a = b) || Ob.lo m b) && oldOk m r s
  | _ :: _, [] => false
def gc (h0 : Hd) (d : D) (h : Hd) : D × Hd :=
  if oldOk h0.length h0 h then
    if D.lo h0.length d then (d, h.take h0.length)
    else match d with
      | .ob k => match h[k]? with
        | some (.lst xs) => if D.los h0.length xs then (.ob h0.length, h.take h0.length ++ [.lst xs]) else (d, h)
        | some (.dct false kvs) => if Ob.lo h0.length (.dct false kvs) then (.ob h0.length, h.take h0.length ++ [.dct false kvs]) else (d, h)
        | _ => (d, h)
      | _ => (d, h)
  else (d, h)
def gcX (h0 h : Hd) : Hd := if oldOk h0.length h0 h then h.take h0.length else h

/-! ### the run -/
/-- what a program's run leans on: calls (class or 0, def), the exception classes' order, the number of turns of a while -/
structure Cl where
  call : Nat → List D → Hd → R (D × Hd)
  meth : Nat → Nat → Option Nat
  noat : Nat → Nat → Bool
  sub : Nat → Nat → Bool
  fuel : Nat
inductive F where
  | nx (σ : Sl) (h : Hd) | rt (d : D) (h : Hd) | bk (σ : Sl) (h : Hd) | ct (σ : Sl) (h : Hd) | ex (c : Nat) (σ : Sl) (h : Hd) | no
def F.then (x : F) (f : Sl → Hd → F) : F := match x with
  | .nx σ h => f σ h
  | x => x
/-- a list of the heap stands as it was -/
def still (h : Hd) : Sq → Bool
  | .l (some k) xs => decide (h[k]? = some (.lst xs)) || decide (h[k]? = some (.scr xs))
  | .d k _ kvs => decide (h[k]? = some (.dct true kvs))
  | _ => true
/-- a dict that is walked is locked, then open again -/
def lockH (h : Hd) : Sq → Hd
  | .d k _ kvs => h.set k (.dct true kvs)
  | _ => h
def openH (h : Hd) : Sq → Hd
  | .d k lk kvs => h.set k (.dct lk kvs)
  | _ => h
def openD (q : Sq) (f : F) : F := match f with
  | .nx σ h => if still h q then .nx σ (openH h q) else .no
  | .rt d h => if still h q then .rt d (openH h q) else .no
  | .bk σ h => if still h q then .bk σ (openH h q) else .no
  | .ct σ h => if still h q then .ct σ (openH h q) else .no
  | .ex c σ h => if still h q then .ex c σ (openH h q) else .no
  | .no => .no
def openF (q : Sq) (f : F) : F := match q with
  | .d k lk kvs => openD (.d k lk kvs) f
  | _ => f
def forF (ok : Hd → Bool) (t : T) (body : Sl → Hd → F) : List D → Sl → Hd → F
  | [], σ, h => .nx σ h
  | x :: xs, σ, h => match asgT t x σ with
    | some σ' => match body σ' h with
      | .nx σ2 h2 => if ok h2 then forF ok t body xs σ2 h2 else .no
      | .ct σ2 h2 => if ok h2 then forF ok t body xs σ2 h2 else .no
      | .bk σ2 h2 => .nx σ2 h2
      | y => y
    | none => .no
def whlF (c : Sl → Hd → R (Bool × Hd)) (body : Sl → Hd → F) : Nat → Sl → Hd → F
  | 0, _, _ => .no
  | n + 1, σ, h => match c σ h with
    | .ok (true, h1) => match body σ h1 with
      | .nx σ2 h2 => whlF c body n σ2 h2
      | .ct σ2 h2 => whlF c body n σ2 h2
      | .bk σ2 h2 => .nx σ2 h2
      | y => y
    | .ok (false, h1) => .nx σ h1
    | .ex k h1 => .ex k σ h1
    | .no => .no
/-- the items that a comprehension makes -/
def compF (ok : Hd → Bool) (t : T) (own : List Nat) (tst : Sl → Hd → R (Bool × Hd)) (elt : Sl → Hd → R (D × Hd)) (σ : Sl) : List D → Hd → R (List D × Hd)
  | [], h => .ok ([], h)
  | x :: xs, h => match asgT t x (wipe σ own) with
    | some σ' => match tst σ' h with
      | .ok (true, h1) => match elt σ' h1 with
        | .ok (d, h2) => if ok h2 then match compF ok t own tst elt σ xs h2 with
          | .ok (ds, h3) => .ok (d :: ds, h3)
          | _ => .no
          else .no
        | _ => .no
      | .ok (false, h1) => if ok h1 then compF ok t own tst elt σ xs h1 else .no
      | _ => .no
    | none => .no
def enumD (i : Nat) : List D → List D
  | [] => []
  | x :: xs => .tup [.int i, x] :: enumD (i + 1) xs
def rangeD (a b : Int) : List D := (List.range (b - a).toNat).map fun k => .int (a + (k : Nat))
def zipD : List D → List D → List D
  | x :: xs, y :: ys => .tup [x, y] :: zipD xs ys
  | _, _ => []
noncomputable def small62 (i : Int) : Bool := pr (-(2 ^ 62) ≤ i) && pr (i < 2 ^ 62)

/-- what an expression gives: a value, or a new list that nobody holds yet -/
inductive Rv where
  | v (d : D) | l (xs : List D)
def Rv.val : Rv → Hd → R (D × Hd)
  | .v d, h => .ok (d, h)
  | .l xs, h => new (.lst xs) h
def vl (x : R (Rv × Hd)) : R (D × Hd) := x >>= fun p => p.1.val p.2
def qs (x : R (Rv × Hd)) : R (Sq × Hd) := x >>= fun p => match p.1 with
  | .l xs => .ok (.l none xs, p.2)
  | .v d => match sqOf p.2 d with
    | some q => .ok (q, p.2)
    | none => .no
def ts (x : R (Rv × Hd)) : R (Bool × Hd) := vl x >>= fun p => truD p.1 >>= fun b => .ok (b, p.2)
def rv (x : R (D × Hd)) : R (Rv × Hd) := x >>= fun p => .ok (.v p.1, p.2)

section
variable (C : Cl)
def mkD (c : Nat) (ds : List D) (h : Hd) : R (D × Hd) := match C.meth c 0 with
  | some f => C.call f (.ob h.length :: ds) (h ++ [.ins c []]) >>= fun p => if p.1 = .non then .ok (.ob h.length, p.2) else .no
  | none => .no
/-- what is raised by a call without arguments is not told -/
def noex (r : R (D × Hd)) : R (D × Hd) := match r with
  | .ex _ _ => .no
  | r => r
def callD (f : Nat) (es : List E) (ds : List D) (h : Hd) : R (D × Hd) := match es with
  | [] => noex (C.call f ds h)
  | _ => C.call f ds h
/-- a function of some frame's own, with the values that it captured -/
def cloD (l : Nat) (vs ds : List D) (h : Hd) : R (D × Hd) := match C.call l (vs ++ ds) (h.map jkO) with
  | .ok (d, h') => if h' = h.map jkO then .ok (d, h) else .no
  | _ => .no
def callvD (g : D) (ds : List D) (h : Hd) : R (D × Hd) := match g with
  | .fn k => C.call k ds h
  | .clo l vs => cloD C l vs ds h
  | _ => .no
/-- a call that hands over functions of the caller's own -/
def ownD (h : Hd) : R (D × Hd) → R (D × Hd)
  | .ok (d, h2) => .ok (jk d, jkN h h2)
  | .ex c h2 => .ex c (jkN h h2)
  | .no => .no
/-- the method m of the object x -/
def umQ (m : Nat) (x : D) (h1 : Hd) : R Nat := match x with
  | .ob k => match h1[k]? with
    | some (.ins c fs) => match C.meth c m, fs.lookup m with
      | some f, none => .ok f
      | _, _ => .no
    | _ => .no
  | _ => .no
def fldD (x : D) (f : Nat) (h : Hd) : R D := match x with
  | .ob k => match h[k]? with
    | some (.ins c fs) => if C.noat c f then R.of (fs.lookup f) else .no
    | _ => .no
  | _ => .no
/-- len(x), str(x), x == y of what has methods of its own -/
def lenR (p : Rv × Hd) : R (Rv × Hd) := match p.1 with
  | .v (.ob k) => match p.2[k]? with
    | some (.ins c fs) => match C.meth c 1, fs.lookup 1 with
      | some f, none => C.call f [.ob k] p.2 >>= fun q => match q.1 with
        | .int i => if decide (0 ≤ i) && decide (i < 1000000) then .ok (.v (.int i), q.2) else .no
        | _ => .no
      | _, _ => .no
    | _ => qs (.ok p) >>= fun q => rv (b1D .len q.1 q.2)
  | _ => qs (.ok p) >>= fun q => rv (b1D .len q.1 q.2)
def strR (p : D × Hd) : R (Rv × Hd) := match p.1 with
  | .ob k => match p.2[k]? with
    | some (.ins c fs) => match C.meth c 3, fs.lookup 3 with
      | some f, none => C.call f [.ob k] p.2 >>= fun q => match q.1 with
        | .str i => .ok (.v (.str i), q.2)
        | _ => .no
      | _, _ => .no
    | _ => .no
  | _ => rv (b1V .str_ p.1 p.2)
def eqO (x : D) (h : Hd) : Option Nat := match x with
  | .ob k => match h[k]? with
    | some (.ins c _) => C.meth c 2
    | _ => none
  | _ => none
/-- what an own == is asked of: an instance of the same class, a tuple, a text -/
def eqB (a b : D) (h : Hd) : Bool := match b with
  | .tup _ => true
  | .str _ => true
  | .ob k => match a with
    | .ob i => match h[i]?, h[k]? with
      | some (.ins c _), some (.ins c' _) => decide (c = c')
      | _, _ => false
    | _ => false
  | _ => false
def blR (f : Bool → Bool) : R (D × Hd) → R (D × Hd)
  | .ok (.bl r, h') => .ok (.bl (f r), h')
  | _ => .no
def cmpC (op : Cop) (a b : D) (h : Hd) : R (D × Hd) := match op, eqO C a h with
  | .eq, some f => if eqB a b h then blR id (C.call f [a, b] h) else .no
  | .ne, some f => if eqB a b h then blR not (C.call f [a, b] h) else .no
  | .in_, _ => match dctOf h b with
    | some (_, _, kvs) => if likeKs kvs a then .ok (.bl (dGet kvs a).isSome, h) else .no
    | none => cmpD .in_ a b h >>= fun r => .ok (.bl r, h)
  | .notin, _ => match dctOf h b with
    | some (_, _, kvs) => if likeKs kvs a then .ok (.bl (!(dGet kvs a).isSome), h) else .no
    | none => cmpD .notin a b h >>= fun r => .ok (.bl r, h)
  | op, _ => cmpD op a b h >>= fun r => .ok (.bl r, h)
def capD (σ : Sl) : List Nat → R (List D)
  | [] => .ok []
  | i :: is => getV σ i >>= fun d => capD σ is >>= fun ds => .ok (d :: ds)
/-- a dict's keys, values, pairs as a new list -/
def dctL (f : D × D → D) (q : Sq × Hd) : R (Rv × Hd) := match q.1 with
  | .d _ _ kvs => .ok (.l (kvs.map f), q.2)
  | _ => .no
def fmtD : D → R (List Nat)
  | .str s => if s.length ≤ sizeL then .ok s else .no
  | .int i => if i.natAbs.log2 < 1920 then .ok (strI i) else .no
  | _ => .no
def max3D (a b c : D) (h : Hd) : R (D × Hd) := match a, b, c with
  | .int i, .int j, .int k => .ok (.int (max i (max j k)), h)
  | _, _, _ => .no
def dispD : List D → List D → List (D × D) → R (List (D × D))
  | [], [], acc => .ok acc
  | [k], [v], [] => if (keyOf k).isSome then .ok [(k, v)] else .no
  | k :: ks, v :: vs, acc => if likeKs acc k then dispD ks vs (dPut acc k v) else .no
  | _, _, _ => .no
def negD : D → R D
  | .int i => .ok (.int (-i))
  | _ => .no
def rvD (x : D) (h : Hd) : R (Rv × Hd) := match lstOf h x with
  | some xs => .ok (.l xs.reverse, h)
  | none => .no
def isiD (ts : List Ty) (x : D) (h : Hd) : R D := match ts with
  | [.own c] => (match x with
    | .ex k => .ok (.bl (C.sub k c))
    | _ => .no)
  | [.verr] => (match x with
    | .ex _ => .ok (.bl true)
    | _ => .no)
  | [.cls c] => (match x with
    | .ob k => match h[k]? with
      | some (.ins c' _) => if (C.meth c' 0).isSome && (C.meth c 0).isSome then .ok (.bl (decide (c' = c))) else .no
      | some (.lst _) => if (C.meth c 0).isSome then .ok (.bl false) else .no
      | _ => .no
    | .non => if (C.meth c 0).isSome then .ok (.bl false) else .no
    | .bl _ => if (C.meth c 0).isSome then .ok (.bl false) else .no
    | .int _ => if (C.meth c 0).isSome then .ok (.bl false) else .no
    | .str _ => if (C.meth c 0).isSome then .ok (.bl false) else .no
    | .tup _ => if (C.meth c 0).isSome then .ok (.bl false) else .no
    | _ => .no)
  | [t] => R.of ((isTy C.sub h x t).map .bl)
  | _ => .no
def joinD (x : D) (q : Sq) : R D := match x, q with
  | .str sep, .l _ xs => match strL xs with
    | some ys => if (ys.map List.length).sum + ys.length * sep.length ≤ sizeL then .ok (.str (joinS sep ys)) else .no
    | none => .no
  | _, _ => .no
def rngD (x y : D) : R (List D) := match x, y with
  | .int i, .int j => if small62 i && small62 j then .ok (rangeD i j) else .no
  | _, _ => .no
def extD (o : D) (q : Sq) (h : Hd) : R (D × Hd) := match o, q with
  | .ob k, .l none ys => match h[k]? with
    | some (.lst xs) => if xs.length + ys.length ≤ sizeL then .ok (.non, h.set k (.lst (xs ++ ys))) else .no
    | _ => .no
  | _, _ => .no
/-- the receiver is of the type that the method asks -/
def rcv (m : M1) (d : D) (h : Hd) : R Unit := match m, d with
  | .append, d => if (lstOf h d).isSome then .ok () else .no
  | .index, .str _ => .ok ()
  | .index, .ob k => if (lstOf h (.ob k)).isSome then .ok () else .no
  | .count, .ob k => if (lstOf h (.ob k)).isSome then .ok () else .no
  | .pop, .ob k => if (lstOf h (.ob k)).isSome then .ok () else .no
  | .extend, .ob k => if (lstOf h (.ob k)).isSome then .ok () else .no
  | .get, .ob k => match h[k]? with
    | some (.dct _ _) => .ok ()
    | _ => .no
  | .split, .str _ => .ok ()
  | .join, .str _ => .ok ()
  | _, _ => .no
/-- a slice's part: left out, or a number -/
def numR (r : R (D × Hd)) : R (D × Hd) := r >>= fun p => match p.1 with
  | .int i => .ok (.int i, p.2)
  | _ => .no
def isNon : E → Bool
  | .c .non => true
  | _ => false
def prtR (e : E) (r : R (D × Hd)) : R (D × Hd) := if isNon e then r else numR r
def andR (k : Hd → R (Rv × Hd)) (p : D × Hd) : R (Rv × Hd) := match p.1 with
  | .bl true => k p.2
  | .bl false => .ok (.v (.bl false), p.2)
  | _ => .no
def orR (k : Hd → R (Rv × Hd)) (p : D × Hd) : R (Rv × Hd) := match p.1 with
  | .bl true => .ok (.v (.bl true), p.2)
  | .bl false => k p.2
  | _ => .no
/-- what a loop walks: the sequence that must stand, the items -/
abbrev Wk := (Sq × List D) × Hd
mutual
def evR : E → Sl → Hd → R (Rv × Hd)
  | .v i, σ, h => getV σ i >>= fun d => .ok (.v d, h)
  | .c d, _, h => .ok (.v d, h)
  | .gc _ d, _, h => .ok (.v d, h)
  | .gf f, _, h => .ok (.v (.fn f), h)
  | .bin op a b, σ, h => vl (evR a σ h) >>= fun p => vl (evR b σ p.2) >>= fun q => rv (binD op p.1 q.1 q.2)
  | .neg a, σ, h => vl (evR a σ h) >>= fun p => negD p.1 >>= fun d => .ok (.v d, p.2)
  | .nt a, σ, h => ts (evR a σ h) >>= fun p => .ok (.v (.bl (!p.1)), p.2)
  | .cmp op a b, σ, h => vl (evR a σ h) >>= fun p => vl (evR b σ p.2) >>= fun q => rv (cmpC C op p.1 q.1 q.2)
  | .chn o o2 a b c, σ, h => vl (evR a σ h) >>= fun p => vl (evR b σ p.2) >>= fun q => cmpD o p.1 q.1 q.2 >>= fun r =>
    if r then vl (evR c σ q.2) >>= fun z => cmpD o2 q.1 z.1 z.2 >>= fun r2 => .ok (.v (.bl r2), z.2) else .ok (.v (.bl false), q.2)
  | .and_ a b, σ, h => vl (evR a σ h) >>= andR fun h => evR b σ h
  | .or_ a b, σ, h => vl (evR a σ h) >>= orR fun h => evR b σ h
  | .ite t a b, σ, h => ts (evR t σ h) >>= fun p => if p.1 then rv (vl (evR a σ p.2)) else rv (vl (evR b σ p.2))
  | .tup es, σ, h => evEs es σ h >>= fun p => if p.1.length ≤ sizeL then .ok (.v (.tup p.1), p.2) else .no
  | .lst es, σ, h => evEs es σ h >>= fun p => if p.1.length ≤ sizeL then .ok (.l p.1, p.2) else .no
  | .dct ks vs, σ, h => evEs ks σ h >>= fun p => evEs vs σ p.2 >>= fun q => dispD p.1 q.1 [] >>= fun kvs => rv (new (.dct false kvs) q.2)
  | .ix a i, σ, h => vl (evR a σ h) >>= fun p => vl (evR i σ p.2) >>= fun q => ixC p.1 q.1 q.2 >>= fun r => .ok (.v r, q.2)
  | .sl a lo hi, σ, h => vl (evR a σ h) >>= fun p => prtR lo (vl (evR lo σ p.2)) >>= fun l => prtR hi (vl (evR hi σ l.2)) >>= fun u => rv (slD p.1 l.1 u.1 u.2)
  | .rv a, σ, h => vl (evR a σ h) >>= fun p => rvD p.1 p.2
  | .call f es, σ, h => evEs es σ h >>= fun p => rv (callD C f es p.1 p.2)
  | .callv f es, σ, h => vl (evR f σ h) >>= fun g => evEs es σ g.2 >>= fun p => rv (callvD C g.1 p.1 p.2)
  | .mk c es, σ, h => evEs es σ h >>= fun p => rv (mkD C c p.1 p.2)
  | .um m o es, σ, h => vl (evR o σ h) >>= fun p => umQ C m p.1 p.2 >>= fun g => evEs es σ p.2 >>= fun q => rv (C.call g (p.1 :: q.1) q.2)
  | .fld o f, σ, h => vl (evR o σ h) >>= fun p => fldD C p.1 f p.2 >>= fun d => .ok (.v d, p.2)
  | .b1 f a, σ, h => match f with
    | .int_ => vl (evR a σ h) >>= fun p => rv (b1V .int_ p.1 p.2)
    | .str_ => vl (evR a σ h) >>= fun p => rv (b1V .str_ p.1 p.2)
    | .list => qs (evR a σ h) >>= fun p => (match p.1 with
      | .s x => if x.length ≤ sizeL then .ok (.l (Sq.items (.s x)), p.2) else .no
      | .d _ _ _ => .no
      | q => .ok (.l q.items, p.2))
    | f => qs (evR a σ h) >>= fun p => rv (b1D f p.1 p.2)
  | .b2 f a b, σ, h => vl (evR a σ h) >>= fun p => vl (evR b σ p.2) >>= fun q => rv (b2D f p.1 q.1 q.2)
  | .max3 a b c, σ, h => vl (evR a σ h) >>= fun p => vl (evR b σ p.2) >>= fun q => vl (evR c σ q.2) >>= fun r => rv (max3D p.1 q.1 r.1 r.2)
  | .m0 m o, σ, h => vl (evR o σ h) >>= fun p => rv (m0D m p.1 p.2)
  | .m1 m o a, σ, h => match m with
    | .join => vl (evR o σ h) >>= fun p => rcv .join p.1 p.2 >>= fun _ => qs (evR a σ p.2) >>= fun q => joinD p.1 q.1 >>= fun d => .ok (.v d, q.2)
    | .extend => vl (evR o σ h) >>= fun p => rcv .extend p.1 p.2 >>= fun _ => qs (evR a σ p.2) >>= fun q => rv (extD p.1 q.1 q.2)
    | m => vl (evR o σ h) >>= fun p => rcv m p.1 p.2 >>= fun _ => vl (evR a σ p.2) >>= fun q => rv (m1D m p.1 q.1 q.2)
  | .m2 m o a b, σ, h => vl (evR o σ h) >>= fun p => vl (evR a σ p.2) >>= fun q => vl (evR b σ q.2) >>= fun r => rv (m2D m p.1 q.1 r.1 r.2)
  | .isi a ts, σ, h => vl (evR a σ h) >>= fun p => isiD C ts p.1 p.2 >>= fun d => .ok (.v d, p.2)
  | .fs es, σ, h => evFs es σ h [] >>= fun p => .ok (.v (.str p.1), p.2)
  | .lam l caps, σ, h => capD σ caps >>= fun vs => .ok (.v (.clo l vs), h)
  | .callL f es, σ, h => evEs es σ h >>= fun p => rv (ownD p.2 (C.call f p.1 p.2))
  | .mkL c es, σ, h => evEs es σ h >>= fun p => rv (ownD p.2 (mkD C c p.1 p.2))
  | .keysL e, σ, h => qs (evR e σ h) >>= dctL (·.1)
  | .valsL e, σ, h => qs (evR e σ h) >>= dctL (·.2)
  | .itemsL e, σ, h => qs (evR e σ h) >>= dctL fun kv => .tup [kv.1, kv.2]
  | .comp own t it c elt, σ, h => evI it σ h >>= fun w =>
    compF (fun h => still h w.1.1) t own (fun σ h => ts (evR c σ h)) (fun σ h => vl (evR elt σ h)) σ w.1.2 w.2 >>= fun p => if p.1.length ≤ sizeL then .ok (.l p.1, openH p.2 w.1.1) else .no
def evFs : List E → Sl → Hd → List Nat → R (List Nat × Hd)
  | [], _, h, acc => .ok (acc, h)
  | e :: es, σ, h, acc => vl (evR e σ h) >>= fun p => fmtD p.1 >>= fun s => if acc.length + s.length ≤ sizeL then evFs es σ p.2 (acc ++ s) else .no
def evEs : List E → Sl → Hd → R (List D × Hd)
  | [], _, h => .ok ([], h)
  | e :: es, σ, h => vl (evR e σ h) >>= fun p => evEs es σ p.2 >>= fun q => .ok (p.1 :: q.1, q.2)
def evI : I → Sl → Hd → R Wk
  | .sq e, σ, h => qs (evR e σ h) >>= fun p => .ok ((p.1, p.1.items), lockH p.2 p.1)
  | .rng a b, σ, h => vl (evR a σ h) >>= fun p => vl (evR b σ p.2) >>= fun q => rngD p.1 q.1 >>= fun xs => .ok ((.t [], xs), q.2)
  | .en e, σ, h => qs (evR e σ h) >>= fun p => match p.1 with
    | .l id xs => .ok ((.l id xs, enumD 0 xs), p.2)
    | .t xs => .ok ((.t [], enumD 0 xs), p.2)
    | _ => .no
  | .zp a b, σ, h => qs (evR a σ h) >>= fun p => qs (evR b σ p.2) >>= fun q => match p.1, q.1 with
    | .t xs, .t ys => .ok ((.t [], zipD xs ys), q.2)
    | _, _ => .no
  | .items e, σ, h => qs (evR e σ h) >>= fun p => match p.1 with
    | .d k lk kvs => .ok ((.d k lk kvs, kvs.map fun kv => .tup [kv.1, kv.2]), lockH p.2 p.1)
    | _ => .no
  | .keys e, σ, h => qs (evR e σ h) >>= fun p => match p.1 with
    | .d k lk kvs => .ok ((.d k lk kvs, kvs.map (·.1)), lockH p.2 p.1)
    | _ => .no
  | .vals e, σ, h => qs (evR e σ h) >>= fun p => match p.1 with
    | .d k lk kvs => .ok ((.d k lk kvs, kvs.map (·.2)), lockH p.2 p.1)
    | _ => .no
end
def evE (e : E) (σ : Sl) (h : Hd) : R (D × Hd) := vl (evR C e σ h)
def evQ (e : E) (σ : Sl) (h : Hd) : R (Sq × Hd) := qs (evR C e σ h)
def evT (e : E) (σ : Sl) (h : Hd) : R (Bool × Hd) := ts (evR C e σ h)

/-- an expression's run, then a statement's -/
def thenF {β : Type} (σ : Sl) (r : R (β × Hd)) (k : β × Hd → F) : F := match r with
  | .ok p => k p
  | .ex c h => .ex c σ h
  | .no => .no
def asgF (t : T) (σ : Sl) (p : D × Hd) : F := match asgT t p.1 σ with
  | some σ' => .nx σ' p.2
  | none => .no
def setIxF (σ : Sl) (o i v : D) (h : Hd) : F := match setIxC o i v h with
  | some h' => .nx σ h'
  | none => .no
def parF (is : List Nat) (σ : Sl) (p : List D × Hd) : F := match asgTs (is.map .nm) p.1 σ with
  | some σ' => .nx σ' p.2
  | none => .no
def augF (i : Nat) (op : Bop) (σ : Sl) (x : D) (p : D × Hd) : F := match op, x, p.1 with
  | .add, .int a, .int b => asgF (.nm i) σ (.int (a + b), p.2)
  | _, _, _ => .no
def setFldF (σ : Sl) (o : D) (f : Nat) (v : D) (h : Hd) : F := match o with
  | .ob k => match h[k]? with
    | some (.ins c fs) => if C.noat c f && decide (fs.length < 1000) then .nx σ (h.set k (.ins c (fPut fs f v))) else .no
    | _ => .no
  | _ => .no
def starF (i j : Nat) (σ : Sl) (p : D × Hd) : F := match lstOf p.2 p.1 with
  | some (x :: xs) => if decide (i < σ.length) && decide (j < σ.length) then .nx ((σ.set i (some x)).set j (some (.ob p.2.length))) (p.2 ++ [.lst xs]) else .no
  | _ => .no
/-- the end of a try: the exception k is kept in slot j, its name's slot i goes -/
def tryF (c i j : Nat) (f : F) : F := match f with
  | .ex k σ h => if C.sub k c then (if i < σ.length then (if j < σ.length then .nx (((σ.set i (some (.ex k))).set j (some (.ex k))).set i none) h else .no) else .no) else .ex k σ h
  | f => f
mutual
def evS : S → Sl → Hd → F
  | .ex e, σ, h => thenF σ (vl (evR C e σ h)) fun p => .nx σ p.2
  | .asg t e, σ, h => thenF σ (vl (evR C e σ h)) (asgF t σ)
  | .setIx o i e, σ, h => thenF σ (vl (evR C e σ h)) fun p => thenF σ (vl (evR C o σ p.2)) fun q => thenF σ (vl (evR C i σ q.2)) fun r => setIxF σ q.1 r.1 p.1 r.2
  | .setFld o f e, σ, h => thenF σ (vl (evR C e σ h)) fun p => thenF σ (vl (evR C o σ p.2)) fun q => setFldF C σ q.1 f p.1 q.2
  | .asgIx i o j e, σ, h => thenF σ (vl (evR C e σ h)) fun p => match p.1 with
    | .tup [a, b] => if i < σ.length then thenF (σ.set i (some a)) (vl (evR C o (σ.set i (some a)) p.2)) fun q => thenF (σ.set i (some a)) (vl (evR C j (σ.set i (some a)) q.2)) fun r => setIxF (σ.set i (some a)) q.1 r.1 b r.2 else .no
    | _ => .no
  | .par is es, σ, h => thenF σ (evEs C es σ h) (parF is σ)
  | .star i j e, σ, h => thenF σ (vl (evR C e σ h)) (starF i j σ)
  | .aug i op e, σ, h => match getV σ i with
    | .ok x => thenF σ (vl (evR C e σ h)) (augF i op σ x)
    | _ => .no
  | .ite t a b, σ, h => thenF σ (ts (evR C t σ h)) fun p => if p.1 then evSs a σ p.2 else evSs b σ p.2
  | .for_ t it b, σ, h => thenF σ (evI C it σ h) fun w => openF w.1.1 (forF (fun h => still h w.1.1) t (fun σ h => evSs b σ h) w.1.2 σ w.2)
  | .whl t b, σ, h => whlF (fun σ h => ts (evR C t σ h)) (fun σ h => evSs b σ h) C.fuel σ h
  | .ret e, σ, h => thenF σ (vl (evR C e σ h)) fun p => .rt p.1 p.2
  | .retN, _, h => .rt .non h
  | .raise c, σ, h => .ex c σ h
  | .try_ b c i j, σ, h => tryF C c i j (evSs b σ h)
  | .pas, σ, h => .nx σ h
  | .brk, σ, h => .bk σ h
  | .cnt, σ, h => .ct σ h
  | .bad, _, _ => .no
def evSs : List S → Sl → Hd → F
  | [], σ, h => .nx σ h
  | s :: ss, σ, h => match evS s σ h with
    | .nx σ' h' => evSs ss σ' h'
    | f => f
end
end

/-- a def: the number of its parameters and of its names, its body -/
structure Df where
  np : Nat
  ns : Nat
  body : List S
def start (d : Df) (ds : List D) : Sl := ds.map some ++ List.replicate (d.ns - d.np) none
def endF (h0 : Hd) : F → R (D × Hd)
  | .rt d h => .ok (gc h0 d h)
  | .nx _ h => .ok (gc h0 .non h)
  | .ex c _ h => .ex c (gcX h0 h)
  | _ => .no
/-- a program: its defs by number; its classes' methods; the classes of its exceptions -/
structure Pg where
  df : Nat → Option Df
  meth : Nat → Nat → Option Nat
  noat : Nat → Nat → Bool
  sub : Nat → Nat → Bool
  fuel : Nat
def callF (P : Pg) : Nat → Nat → List D → Hd → R (D × Hd)
  | 0, _, _, _ => .no
  | n + 1, f, ds, h => match P.df f with
    | some d => if ds.length = d.np then endF h (evSs ⟨callF P n, P.meth, P.noat, P.sub, P.fuel⟩ d.body (start d ds) h) else .no
    | none => .no
end
end Mp
/-! MiniPy, part 1: what a value of part 0 is in the hand layer's heap; readings. -/
namespace Mp
open PySem PySem.Spec PyProof.Rows L2

/-- the module's names: its written part, where its defs and classes stand, the fields' names -/
structure LamI where
  qual : Str
  params : Arguments
  body : Expr
  scope : Scope
  fr : List Str
structure Gx where
  K : PySem.W.Frag
  w : World
  fa : Nat → Addr
  ca : Nat → Addr
  cc : Nat → Addr
  fnm : Nat → Str
  lm : Nat → LamI
/-- a dict's object: its keys, values, in order -/
def dctφ (w : World) (a : Addr) (es : List (NestedKey × V × V)) : Heap → Prop := fun h => ∃ (o : Obj) (xs : Array DictEntry) (ep : Nat), h.get? a = some o ∧ o.ExactDict ∧ o.data = .dict xs ep ∧ Paired (fun (e : NestedKey × V × V) (x : DictEntry) => x.hash = e.1.hash w ∧ RelV e.2.1 x.key ∧ RelV e.2.2 x.val) es xs.toList ∧ (a == sysModules) = false ∧ es.length ≤ sizeLine
def DctO (w : World) (a : Addr) (es : List (NestedKey × V × V)) : HO := .ext (dctφ w a es)
/-- the heap without a function's cells -/
def unt (H : Hp) (cl : List (Str × Addr)) : Hp := fun a => if a ∈ cl.map (·.2) then none else H a
def LamI.obj (L : LamI) (cl : List (Str × Addr)) (pm : Value) (c : Addr) (ctv : Value) : Obj := PySem.W.kla_obj "<lambda>" L.qual L.params L.body L.scope cl pm c ctv
/-- the cells of a function, with what they hold -/
def Cells (H : Hp) (cl : List (Str × Addr)) : List Str → List V → Prop
  | [], ws => ws = []
  | y :: r, ws => ∃ w rs, ws = w :: rs ∧ (∃ a o u, cl.lookup y = some a ∧ H a = some (.frz o (.own a)) ∧ o.data = .cell (some u) ∧ RelV w u) ∧ Cells H cl r rs
structure Clo (G : Gx) (H : Hp) (L : LamI) (cl : List (Str × Addr)) (ws : List V) (f : Addr) : Prop where
  fn : ∃ c pm ctv, H f = some (.frz (L.obj cl pm c ctv) (.own f)) ∧ H c = some (LamX.CodeO c L.qual)
  cells : Cells H cl L.fr ws
  all : ∀ y a, cl.lookup y = some a → y ∈ L.fr
  inj : ∀ x y a, cl.lookup x = some a → cl.lookup y = some a → x = y
/-- a caught exception of the class at C, held at a -/
def ExH (C a : Addr) : HO := .ext fun h => ∃ oe : Obj, h.get? a = some oe ∧ (oe.cls = .ref C ∧ oe.dict = none) ∧ ∃ vs, oe.data = .fields vs
abbrev Al := Nat → Addr
mutual
def RD (G : Gx) (n : Nat) (α : Al) (H : Hp) : D → V → Prop
  | .non, v => v = .non
  | .bl b, v => v = .bl b
  | .int i, v => v = .int i
  | .str s, v => v = .str ⟨s.toArray⟩
  | .tup xs, v => ∃ a vs, v = .ref a ∧ SqT G.K H a vs ∧ RDs G n α H xs vs
  | .ob k, v => k < n ∧ v = .ref (α k)
  | .fn f, v => v = .ref (G.fa f)
  | .ex c, v => ∃ a, v = .ref a ∧ H a = some (ExH (G.ca c) a)
  | .clo l vs, v => ∃ f cl ws, v = .ref f ∧ Clo G H (G.lm l) cl ws f ∧ RDs G n α (unt H cl) vs ws
  | .junk, v => ∃ a, v = .ref a
def RDs (G : Gx) (n : Nat) (α : Al) (H : Hp) : List D → List V → Prop
  | [], vs => vs = []
  | x :: xs, vs => ∃ v ws, vs = v :: ws ∧ RD G n α H x v ∧ RDs G n α H xs ws
end
def RKs (G : Gx) (n : Nat) (α : Al) (H : Hp) : List (D × D) → List (NestedKey × V × V) → Prop
  | [], es => es = []
  | (k, d) :: r, es => ∃ nk kv v ws, es = (nk, kv, v) :: ws ∧ keyOf k = some nk ∧ RD G n α H k kv ∧ RD G n α H d v ∧ RKs G n α H r ws
def RFs (G : Gx) (n : Nat) (α : Al) (H : Hp) : List (Nat × D) → List (Str × V) → Prop
  | [], gs => gs = []
  | (f, d) :: r, gs => ∃ v ws, gs = (G.fnm f, v) :: ws ∧ RD G n α H d v ∧ RFs G n α H r ws
def ObR (G : Gx) (n : Nat) (α : Al) (H : Hp) (a : Addr) : Ob → Prop
  | .lst xs => ∃ vs, H a = some (.lst vs) ∧ RDs G n α H xs vs
  | .scr xs => ∃ vs, (∃ o, H a = some (.frz o (.lst vs))) ∧ RDs G n α H xs vs
  | .dct lk kvs => ∃ es, (if lk then ∃ o, H a = some (.frz o (DctO G.w a es)) else H a = some (DctO G.w a es)) ∧ RKs G n α H kvs es ∧ (es.map (·.1)).Nodup
  | .ins c fs => ∃ dx gs, H a = some (.ins (G.cc c) dx gs) ∧ RFs G n α H fs gs
structure StR (G : Gx) (α : Al) (hd : Hd) (H : Hp) : Prop where
  inj : ∀ i j, i < hd.length → j < hd.length → α i = α j → i = j
  ob : ∀ i o, hd[i]? = some o → ObR G hd.length α H (α i) o
/-- from one heap to a later one -/
structure Ey (n : Nat) (α : Al) (H : Hp) (n' : Nat) (α' : Al) (H' : Hp) : Prop where
  le : n ≤ n'
  al : ∀ i, i < n → α' i = α i
  keep : ∀ b o, H b = some o → (∀ i, i < n → α i ≠ b) → H' b = some o
  frz : ∀ b o u, H b = some (.frz o u) → H' b = some (.frz o u)
structure Ex (n : Nat) (α : Al) (H : Hp) (n' : Nat) (α' : Al) (H' : Hp) : Prop extends Ey n α H n' α' H' where
  fresh : ∀ i, n ≤ i → i < n' → H (α' i) = none
/-- what stands at the place of an object -/
def DctP (φ : Heap → Prop) : Prop := ∃ w a es, φ = dctφ w a es
def Bx : HO → Prop
  | .lst _ => True
  | .frz _ (.lst _) => True
  | .ext φ => DctP φ
  | .frz _ (.ext φ) => DctP φ
  | .ins _ _ _ => True
  | _ => False
/-- a heap with one object -/
def oneH (a : Addr) (o : Obj) : Heap := ⟨(Array.replicate a { cls := .none }).push o, {}⟩
theorem oneH_at {a : Addr} {o : Obj} (h : o.data ≠ .freed) : (oneH a o).get? a = some o := by
  obtain ⟨c, d, dt, sl⟩ := o
  have e : (oneH a ⟨c, d, dt, sl⟩).objs[a]? = some ⟨c, d, dt, sl⟩ := by show (Array.push _ _)[a]? = _; rw [Array.getElem?_push]; simp
  unfold Heap.get?
  rw [e]
  cases dt <;> first | rfl | exact absurd rfl h
theorem oneH_dict {a b : Addr} {o : Obj} {w : World} {es : List (NestedKey × V × V)} (h : o.cls ≠ .type "dict") (d : dctφ w b es (oneH a o)) : False := by
  obtain ⟨ob, xs, ep, e, ⟨c, _⟩, _⟩ := d
  have e1 : (oneH a o).objs[b]? = some ob := by
    unfold Heap.get? at e
    split at e
    · cases e
    · exact e
  have : ob = o ∨ ob = { cls := .none } := by
    obtain ⟨hb, e2⟩ := Array.getElem?_eq_some_iff.mp e1
    have hb' : b < a + 1 := by simpa [oneH] using hb
    by_cases q : b < a
    · right
      rw [← e2]
      simp [oneH, Array.getElem_push, q]
    · left
      rw [← e2]
      simp [oneH, Array.getElem_push, q]
  rcases this with rfl | rfl
  · exact h c
  · cases c
theorem nb_ex {C a : Addr} : ¬ Bx (ExH C a) := fun ⟨w, b, es, e⟩ => by
  have h : (fun h : Heap => ∃ oe : Obj, h.get? a = some oe ∧ (oe.cls = .ref C ∧ oe.dict = none) ∧ ∃ vs, oe.data = .fields vs) (oneH a { cls := .ref C, data := .fields #[] }) := ⟨_, oneH_at (by simp), ⟨rfl, rfl⟩, #[], rfl⟩
  rw [e] at h
  exact oneH_dict (by simp) h
theorem nb_code {c : Addr} {q : Str} : ¬ Bx (LamX.CodeO c q) := fun ⟨w, b, es, e⟩ => by
  have h : (fun h : Heap => ∃ (oc : Obj) (vs : Array Value) (t : Tok), h.get? c = some oc ∧ oc.data = .fields vs ∧ vs[1]? = some (.str q t)) (oneH c { cls := .none, data := .fields #[.none, .str q 0] }) := ⟨_, _, 0, oneH_at (by simp), rfl, rfl⟩
  rw [e] at h
  exact oneH_dict (by simp) h
theorem nb_own {o : Obj} {a : Addr} : ¬ Bx (.frz o (.own a)) := fun z => z
section
variable {G : Gx} {n n' n2 : Nat} {α α' α2 : Al} {H H' H2 : Hp} {hd hd' : Hd}
theorem StR.at_ (s : StR G α hd H) {i : Nat} (hi : i < hd.length) : ∃ o, H (α i) = some o ∧ Bx o := by
  have h := s.ob i hd[i] (List.getElem?_eq_getElem hi)
  revert h
  cases hd[i] with
  | lst xs => rintro ⟨vs, e, _⟩; exact ⟨_, e, trivial⟩
  | scr xs => rintro ⟨vs, ⟨o, e⟩, _⟩; exact ⟨_, e, trivial⟩
  | dct l kvs =>
    rintro ⟨es, e, _⟩
    cases l with
    | false => rw [if_neg (by decide)] at e; exact ⟨_, e, _, _, _, rfl⟩
    | true => rw [if_pos rfl] at e; obtain ⟨o, e⟩ := e; exact ⟨_, e, _, _, _, rfl⟩
  | ins c fs => rintro ⟨dx, gs, e, _⟩; exact ⟨_, e, trivial⟩
theorem StR.there (s : StR G α hd H) : ∀ j, j < hd.length → H (α j) ≠ none := fun j hj e => by
  obtain ⟨o, h, _⟩ := s.at_ hj
  rw [h] at e; cases e
theorem Ex.refl : Ex n α H n α H := ⟨⟨Nat.le_refl _, fun _ _ => rfl, fun _ _ h _ => h, fun _ _ _ h => h⟩, fun i h1 h2 => absurd h1 (Nat.not_le.mpr h2)⟩
theorem Ey.trans (a : Ex n α H n' α' H') (b : Ey n' α' H' n2 α2 H2) : Ey n α H n2 α2 H2 where
  le := Nat.le_trans a.le b.le
  al := fun i h => (b.al i (Nat.lt_of_lt_of_le h a.le)).trans (a.al i h)
  keep := fun c o h hn => b.keep c o (a.keep c o h hn) fun i hi e => by
    by_cases hin : i < n
    · exact hn i hin ((a.al i hin).symm.trans e)
    · have := a.fresh i (Nat.not_lt.mp hin) hi
      rw [e, h] at this; cases this
  frz := fun c o u h => b.frz c o u (a.frz c o u h)
theorem Ex.trans (a : Ex n α H n' α' H') (t : ∀ j, j < n' → H' (α' j) ≠ none) (b : Ex n' α' H' n2 α2 H2) : Ex n α H n2 α2 H2 where
  toEy := Ey.trans a b.toEy
  fresh := fun i h1 h2 => by
    by_cases h : i < n'
    · rw [b.al i h]; exact a.fresh i h1 h
    · have q := b.fresh i (Nat.not_lt.mp h) h2
      cases e : H (α2 i) with
      | none => rfl
      | some o =>
        by_cases hz : ∃ j, j < n ∧ α j = α2 i
        · obtain ⟨j, hj, ej⟩ := hz
          exact absurd (by rw [a.al j hj, ej]; exact q) (t j (Nat.lt_of_lt_of_le hj a.le))
        · have : H' (α2 i) = some o := a.keep _ _ e fun j hj ej => hz ⟨j, hj, ej⟩
          rw [q] at this; cases this
theorem Ex.nofree (a : Ex n α H n' α' H') (t : ∀ j, j < n' → H' (α' j) ≠ none) {p : Addr} (h : H' p = none) : H p = none := by
  cases e : H p with
  | none => rfl
  | some o =>
    by_cases hz : ∃ j, j < n ∧ α j = p
    · obtain ⟨j, hj, ej⟩ := hz
      exact absurd (by rw [a.al j hj, ej]; exact h) (t j (Nat.lt_of_lt_of_le hj a.le))
    · have : H' p = some o := a.keep _ _ e fun j hj ej => hz ⟨j, hj, ej⟩
      rw [h] at this; cases this
theorem Ey.keepT (a : Ey n α H n' α' H') (bx : ∀ i, i < n → ∃ o, H (α i) = some o ∧ Bx o) {c : Addr} {o : HO} (h : H c = some o) (nb : ¬ Bx o) : H' c = some o := a.keep c o h fun i hi e => by
  obtain ⟨u, hu, bu⟩ := bx i hi
  rw [e, h] at hu
  cases hu
  exact nb bu
/-- what a value leans on: the places of older objects, tuples and exceptions -/
structure Ez (n : Nat) (α : Al) (H : Hp) (n' : Nat) (α' : Al) (H' : Hp) : Prop where
  le : n ≤ n'
  al : ∀ i, i < n → α' i = α i
  keepT : ∀ c o, H c = some o → ¬ Bx o → H' c = some o
theorem Ey.z (a : Ey n α H n' α' H') (bx : ∀ i, i < n → ∃ o, H (α i) = some o ∧ Bx o) : Ez n α H n' α' H' := ⟨a.le, a.al, fun c o h nb => a.keepT bx h nb⟩
theorem Ez.sqT {K : PySem.W.Frag} (a : Ez n α H n' α' H') {c : Addr} {vs : List V} (h : SqT K H c vs) : SqT K H' c vs := by
  rcases h with (h | ⟨o, h⟩) | h
  · exact .inl (.inl (a.keepT _ _ h (fun z => z)))
  · exact .inl (.inr ⟨o, a.keepT _ _ h (fun z => z)⟩)
  · exact .inr h
theorem Ey.sqT {K : PySem.W.Frag} (a : Ey n α H n' α' H') (bx : ∀ i, i < n → ∃ o, H (α i) = some o ∧ Bx o) {c : Addr} {vs : List V} (h : SqT K H c vs) : SqT K H' c vs := by
  rcases h with (h | ⟨o, h⟩) | h
  · exact .inl (.inl (a.keepT bx h (fun z => z)))
  · exact .inl (.inr ⟨o, a.keepT bx h (fun z => z)⟩)
  · exact .inr h
theorem Ez.unt (a : Ez n α H n' α' H') (cl : List (Str × Addr)) : Ez n α (unt H cl) n' α' (unt H' cl) := ⟨a.le, a.al, fun c o h nb => by
  unfold Mp.unt at h ⊢
  by_cases q : c ∈ cl.map (·.2)
  · rw [if_pos q] at h; cases h
  · rw [if_neg q] at h ⊢; exact a.keepT c o h nb⟩
theorem Cells.mono (a : Ez n α H n' α' H') {cl : List (Str × Addr)} : ∀ {fr : List Str} {ws : List V}, Cells H cl fr ws → Cells H' cl fr ws
  | [], ws, h => h
  | y :: r, ws, ⟨w, rs, e, ⟨c, o, u, e1, e2, e3, e4⟩, h⟩ => ⟨w, rs, e, ⟨c, o, u, e1, a.keepT _ _ e2 nb_own, e3, e4⟩, Cells.mono a h⟩
theorem Clo.mono (a : Ez n α H n' α' H') {G : Gx} {L : LamI} {cl : List (Str × Addr)} {ws : List V} {f : Addr} (h : Clo G H L cl ws f) : Clo G H' L cl ws f :=
  ⟨let ⟨c, pm, ctv, e1, e2⟩ := h.fn; ⟨c, pm, ctv, a.keepT _ _ e1 nb_own, a.keepT _ _ e2 nb_code⟩, h.cells.mono a, h.all, h.inj⟩
mutual
theorem RD.monoZ {H H' : Hp} (a : Ez n α H n' α' H') : ∀ (d : D) (v : V), RD G n α H d v → RD G n' α' H' d v
  | .non, v, h => by unfold RD at h ⊢; exact h
  | .bl b, v, h => by unfold RD at h ⊢; exact h
  | .int i, v, h => by unfold RD at h ⊢; exact h
  | .str x, v, h => by unfold RD at h ⊢; exact h
  | .tup xs, v, h => by
    unfold RD at h ⊢
    obtain ⟨p, vs, e, t, r⟩ := h
    exact ⟨p, vs, e, a.sqT t, RDs.monoZ a xs vs r⟩
  | .ob k, v, h => by
    unfold RD at h ⊢
    exact ⟨Nat.lt_of_lt_of_le h.1 a.le, by rw [a.al k h.1]; exact h.2⟩
  | .fn f, v, h => by unfold RD at h ⊢; exact h
  | .ex c, v, h => by
    unfold RD at h ⊢
    obtain ⟨p, e, t⟩ := h
    exact ⟨p, e, a.keepT _ _ t nb_ex⟩
  | .clo l vs, v, h => by
    unfold RD at h ⊢
    obtain ⟨f, cl, ws, e, c, r⟩ := h
    exact ⟨f, cl, ws, e, c.mono a, RDs.monoZ (a.unt cl) vs ws r⟩
  | .junk, v, h => by unfold RD at h ⊢; exact h
theorem RDs.monoZ {H H' : Hp} (a : Ez n α H n' α' H') : ∀ (d : List D) (v : List V), RDs G n α H d v → RDs G n' α' H' d v
  | [], v, h => by unfold RDs at h ⊢; exact h
  | x :: xs, v, h => by
    unfold RDs at h ⊢
    obtain ⟨y, ws, e, r1, r2⟩ := h
    exact ⟨y, ws, e, RD.monoZ a x y r1, RDs.monoZ a xs ws r2⟩
end
theorem RKs.monoZ (a : Ez n α H n' α' H') : ∀ (d : List (D × D)) (v : List (NestedKey × V × V)), RKs G n α H d v → RKs G n' α' H' d v
  | [], v, h => h
  | (k, x) :: xs, v, h => by
    obtain ⟨nk, kv, y, ws, e, e1, r1, r2, r3⟩ := h
    exact ⟨nk, kv, y, ws, e, e1, RD.monoZ a k kv r1, RD.monoZ a x y r2, RKs.monoZ a xs ws r3⟩
theorem RFs.monoZ (a : Ez n α H n' α' H') : ∀ (d : List (Nat × D)) (v : List (Str × V)), RFs G n α H d v → RFs G n' α' H' d v
  | [], v, h => h
  | (f, x) :: xs, v, h => by
    obtain ⟨y, ws, e, r1, r2⟩ := h
    exact ⟨y, ws, e, RD.monoZ a x y r1, RFs.monoZ a xs ws r2⟩
theorem RD.mono (a : Ey n α H n' α' H') (bx : ∀ i, i < n → ∃ o, H (α i) = some o ∧ Bx o) (d : D) (v : V) (h : RD G n α H d v) : RD G n' α' H' d v := RD.monoZ (a.z bx) d v h
theorem RDs.mono (a : Ey n α H n' α' H') (bx : ∀ i, i < n → ∃ o, H (α i) = some o ∧ Bx o) (d : List D) (v : List V) (h : RDs G n α H d v) : RDs G n' α' H' d v := RDs.monoZ (a.z bx) d v h
theorem RKs.mono (a : Ey n α H n' α' H') (bx : ∀ i, i < n → ∃ o, H (α i) = some o ∧ Bx o) (d : List (D × D)) (v : List (NestedKey × V × V)) (h : RKs G n α H d v) : RKs G n' α' H' d v := RKs.monoZ (a.z bx) d v h
theorem RFs.mono (a : Ey n α H n' α' H') (bx : ∀ i, i < n → ∃ o, H (α i) = some o ∧ Bx o) (d : List (Nat × D)) (v : List (Str × V)) (h : RFs G n α H d v) : RFs G n' α' H' d v := RFs.monoZ (a.z bx) d v h
theorem RDs.length : ∀ {xs : List D} {vs : List V}, RDs G n α H xs vs → vs.length = xs.length
  | [], vs, h => by unfold RDs at h; rw [h]; rfl
  | x :: xs, vs, h => by
    unfold RDs at h
    obtain ⟨v, ws, e, _, r⟩ := h
    rw [e, List.length_cons, List.length_cons, RDs.length r]
theorem RDs.get : ∀ {xs : List D} {vs : List V} {i : Nat} {x : D}, RDs G n α H xs vs → xs[i]? = some x → ∃ v, vs[i]? = some v ∧ RD G n α H x v
  | [], _, i, x, _, h => by simp at h
  | y :: xs, vs, i, x, h, e => by
    unfold RDs at h
    obtain ⟨v, ws, rfl, r1, r⟩ := h
    cases i with
    | zero => simp at e; subst e; exact ⟨v, rfl, r1⟩
    | succ i => simp at e; obtain ⟨u, h1, h2⟩ := RDs.get r e; exact ⟨u, by simpa using h1, h2⟩
theorem RDs.append : ∀ {xs ys : List D} {vs ws : List V}, RDs G n α H xs vs → RDs G n α H ys ws → RDs G n α H (xs ++ ys) (vs ++ ws)
  | [], _, _, _, h, r => by unfold RDs at h; subst h; exact r
  | x :: xs, ys, vs, ws, h, r => by
    unfold RDs at h
    obtain ⟨v, us, rfl, r1, r2⟩ := h
    show RDs G n α H (x :: (xs ++ ys)) (v :: (us ++ ws))
    unfold RDs
    exact ⟨v, _, rfl, r1, RDs.append r2 r⟩
theorem RDs.cons {x : D} {v : V} {xs : List D} {vs : List V} (h : RD G n α H x v) (r : RDs G n α H xs vs) : RDs G n α H (x :: xs) (v :: vs) := by
  unfold RDs; exact ⟨v, vs, rfl, h, r⟩
theorem RDs.nil : RDs G n α H [] [] := by unfold RDs; rfl
theorem RDs.one {x : D} {v : V} (h : RD G n α H x v) : RDs G n α H [x] [v] := .cons h .nil
theorem RDs.set : ∀ {xs : List D} {vs : List V} (i : Nat) {x : D} {v : V}, RDs G n α H xs vs → RD G n α H x v → RDs G n α H (xs.set i x) (vs.set i v)
  | [], vs, i, x, v, h, r => by unfold RDs at h; subst h; exact .nil
  | y :: xs, vs, i, x, v, h, r => by
    unfold RDs at h
    obtain ⟨u, ws, rfl, r1, r2⟩ := h
    cases i with
    | zero => exact .cons r r2
    | succ i => exact .cons r1 (RDs.set i r2 r)
theorem RDs.take : ∀ (k : Nat) {xs : List D} {vs : List V}, RDs G n α H xs vs → RDs G n α H (xs.take k) (vs.take k)
  | 0, _, _, _ => .nil
  | k + 1, [], vs, h => by unfold RDs at h; subst h; exact .nil
  | k + 1, x :: xs, vs, h => by
    unfold RDs at h
    obtain ⟨u, ws, rfl, r1, r2⟩ := h
    exact .cons r1 (RDs.take k r2)
theorem RDs.drop : ∀ (k : Nat) {xs : List D} {vs : List V}, RDs G n α H xs vs → RDs G n α H (xs.drop k) (vs.drop k)
  | 0, _, _, h => h
  | k + 1, [], vs, h => by unfold RDs at h; subst h; exact .nil
  | k + 1, x :: xs, vs, h => by
    unfold RDs at h
    obtain ⟨u, ws, rfl, r1, r2⟩ := h
    exact RDs.drop k r2
theorem RDs.reverse : ∀ {xs : List D} {vs : List V}, RDs G n α H xs vs → RDs G n α H xs.reverse vs.reverse
  | [], vs, h => by unfold RDs at h; subst h; exact .nil
  | x :: xs, vs, h => by
    unfold RDs at h
    obtain ⟨u, ws, rfl, r1, r2⟩ := h
    rw [List.reverse_cons, List.reverse_cons]
    exact (RDs.reverse r2).append (.one r1)
theorem RDs.rep : ∀ (k : Nat) {xs : List D} {vs : List V}, RDs G n α H xs vs → RDs G n α H (List.replicate k xs).flatten (List.replicate k vs).flatten
  | 0, _, _, _ => .nil
  | k + 1, xs, vs, h => by
    rw [List.replicate_succ, List.replicate_succ, List.flatten_cons, List.flatten_cons]
    exact h.append (RDs.rep k h)
theorem RDs.mem {y : V} : ∀ {xs : List D} {vs : List V}, RDs G n α H xs vs → y ∈ vs → ∃ x, x ∈ xs ∧ RD G n α H x y
  | [], vs, h, m => by unfold RDs at h; subst h; cases m
  | x :: xs, vs, h, m => by
    unfold RDs at h
    obtain ⟨u, ws, rfl, r1, r2⟩ := h
    rcases List.mem_cons.mp m with rfl | m
    · exact ⟨x, List.mem_cons_self, r1⟩
    · obtain ⟨z, hz, rz⟩ := RDs.mem r2 m
      exact ⟨z, List.mem_cons_of_mem _ hz, rz⟩
theorem RDs.eraseIdx : ∀ {xs : List D} {vs : List V} (i : Nat), RDs G n α H xs vs → RDs G n α H (xs.eraseIdx i) (vs.eraseIdx i)
  | [], vs, i, h => by unfold RDs at h; subst h; exact .nil
  | x :: xs, vs, i, h => by
    unfold RDs at h
    obtain ⟨u, ws, rfl, r1, r2⟩ := h
    cases i with
    | zero => exact r2
    | succ i => exact .cons r1 (RDs.eraseIdx i r2)
theorem RDs.dropLast : ∀ {xs : List D} {vs : List V}, RDs G n α H xs vs → RDs G n α H xs.dropLast vs.dropLast := fun {xs vs} h => by
  rw [List.dropLast_eq_take, List.dropLast_eq_take, h.length]
  exact h.take _
end
/-- slots -/
def SlR (G : Gx) (n : Nat) (α : Al) (H : Hp) (σD : Sl) (σ : L2.St) : Prop :=
  σD.length = σ.length ∧ ∀ (i : Nat) (d : D), σD[i]? = some (some d) → ∃ v : V, σ[i]? = some (some v) ∧ RD G n α H d v
section
variable {G : Gx} {n n' n2 : Nat} {α α' α2 : Al} {H H' H2 : Hp} {hd hd' : Hd} {σD : Sl} {σ : L2.St}
theorem SlR.mono (a : Ey n α H n' α' H') (bx : ∀ i, i < n → ∃ o, H (α i) = some o ∧ Bx o) (h : SlR G n α H σD σ) : SlR G n' α' H' σD σ :=
  ⟨h.1, fun i d e => let ⟨v, e1, r⟩ := h.2 i d e; ⟨v, e1, RD.mono a bx d v r⟩⟩
theorem SlR.monoZ (a : Ez n α H n' α' H') (h : SlR G n α H σD σ) : SlR G n' α' H' σD σ :=
  ⟨h.1, fun i d e => let ⟨v, e1, r⟩ := h.2 i d e; ⟨v, e1, RD.monoZ a d v r⟩⟩
theorem SlR.set (h : SlR G n α H σD σ) {i : Nat} {d : D} {v : V} (r : RD G n α H d v) : SlR G n α H (σD.set i (some d)) (σ.set i (some v)) := by
  refine ⟨by simp [h.1], fun j x e => ?_⟩
  by_cases hj : i = j
  · subst hj
    by_cases hl : i < σD.length
    · rw [List.getElem?_set_self hl] at e
      cases e
      exact ⟨v, List.getElem?_set_self (by rw [← h.1]; exact hl), r⟩
    · rw [List.getElem?_eq_none (by simpa using hl)] at e; cases e
  · rw [List.getElem?_set_ne hj] at e
    rw [List.getElem?_set_ne hj]
    exact h.2 j x e
theorem SlR.setN (h : SlR G n α H σD σ) (i : Nat) : SlR G n α H (σD.set i none) (σ.set i none) := by
  refine ⟨by simp [h.1], fun j x e => ?_⟩
  by_cases hj : i = j
  · subst hj
    by_cases hl : i < σD.length
    · rw [List.getElem?_set_self hl] at e; cases e
    · rw [List.getElem?_eq_none (by simpa using hl)] at e; cases e
  · rw [List.getElem?_set_ne hj] at e
    rw [List.getElem?_set_ne hj]
    exact h.2 j x e
theorem SlR.wipe (h : SlR G n α H σD σ) : ∀ vs : List Nat, SlR G n α H (Mp.wipe σD vs) (L2.wipe σ vs)
  | [] => h
  | v :: vs => (SlR.wipe h vs).setN v
end

/-! ### readings -/
/-- what is said of a result: by the heap ahead of the run, the objects, the heap behind it -/
abbrev Rl (β γ : Type) := Hp → Nat → Al → Hp → β → γ → Prop
/-- .. that leans on the heap ahead only by what is free there -/
class Dn {β γ : Type} (Rel : Rl β γ) : Prop where
  dn : ∀ {H H1 : Hp} {n : Nat} {α : Al} {H2 : Hp} {b : β} {v : γ}, (∀ a, H1 a = none → H a = none) → Rel H1 n α H2 b v → Rel H n α H2 b v
/-- where a run lands -/
def Lnd (G : Gx) {β γ : Type} (Rel : Rl β γ) (E : Value → Option Addr → Hp → Prop) (n : Nat) (α : Al) (H : Hp) (Q : γ → Hp → Prop) : R (β × Hd) → Prop
  | .ok (b, h1) => ∀ α1 v H1, Ex n α H h1.length α1 H1 → StR G α1 h1 H1 → Rel H h1.length α1 H1 b v → Q v H1
  | .ex c h1 => ∀ α1 H1, Ex n α H h1.length α1 H1 → StR G α1 h1 H1 → E (.ref (G.ca c)) none H1
  | .no => False
/-- a reading by a run -/
def tX (G : Gx) {β γ : Type} (Rel : Rl β γ) (W : WX) (f : Sl → Hd → R (β × Hd)) : L2.St → Hp → (γ → Hp → Prop) → Prop := fun σ H Q =>
  ∃ α σD hd, StR G α hd H ∧ SlR G hd.length α H σD σ ∧ Lnd G Rel (fun c d H1 => W c d σ H1) hd.length α H Q (f σD hd)
section
variable {G : Gx} {β γ δ ε : Type} {Rel : Rl β γ} {Rel2 : Rl δ ε} {E : Value → Option Addr → Hp → Prop} {n n1 : Nat} {α α1 : Al} {H H1 : Hp} {Q : γ → Hp → Prop} {W : WX}
theorem Lnd.from [Dn Rel] (a : Ex n α H n1 α1 H1) (t : ∀ j, j < n1 → H1 (α1 j) ≠ none) {r : R (β × Hd)} (h : Lnd G Rel E n α H Q r) : Lnd G Rel E n1 α1 H1 Q r := by
  match r, h with
  | .ok (b, h1), h => exact fun α2 v H2 x s r => h α2 v H2 (a.trans t x) s (Dn.dn (fun p => a.nofree t) r)
  | .ex c h1, h => exact fun α2 H2 x s => h α2 H2 (a.trans t x) s
/-- one run, then another -/
theorem tX_bind [Dn Rel2] {f : Sl → Hd → R (β × Hd)} {k : β × Hd → R (δ × Hd)} {Q2 : ε → Hp → Prop} {σ : L2.St} {σD : Sl} {hd : Hd} (s : StR G α hd H) (l : SlR G hd.length α H σD σ)
    (h : Lnd G Rel2 (fun c d H1 => W c d σ H1) hd.length α H Q2 (f σD hd >>= k))
    (hk : ∀ x h1 α1 v H1, f σD hd = .ok (x, h1) → Ex hd.length α H h1.length α1 H1 → StR G α1 h1 H1 → SlR G h1.length α1 H1 σD σ → Rel H h1.length α1 H1 x v → Lnd G Rel2 (fun c d H1 => W c d σ H1) h1.length α1 H1 Q2 (k (x, h1)) → Q v H1) :
    tX G Rel W f σ H Q := by
  refine ⟨α, σD, hd, s, l, ?_⟩
  revert h
  cases e : f σD hd with
  | no => intro h; exact h
  | ex c h1 => intro h; exact h
  | ok p =>
    obtain ⟨x, h1⟩ := p
    intro h α1 v H1 x1 s1 r
    exact hk x h1 α1 v H1 e x1 s1 (l.mono x1.toEy fun i hi => s.at_ hi) r (Lnd.from x1 s1.there h)
/-- a pure step of a run -/
theorem Lnd.step {r : R δ} {h1 : Hd} {k : δ → R (β × Hd)} (h : Lnd G Rel E n α H Q (r >>= k)) (np : ∀ c h, r ≠ .ex c h) : ∃ x, r = .ok x ∧ Lnd G Rel E n α H Q (k x) := by
  cases e : r with
  | no => rw [e] at h; exact h.elim
  | ex c h1 => exact absurd e (np c h1)
  | ok x => rw [e] at h; exact ⟨x, rfl, h⟩
end

/-! ### kinds of results -/
def rD (G : Gx) : Rl D V := fun _ n α H d v => RD G n α H d v
def rDs (G : Gx) : Rl (List D) (List V) := fun _ n α H d v => RDs G n α H d v
def rB : Rl Bool Bool := fun _ _ _ _ b c => b = c
/-- a new list at a, nobody's yet -/
def Tmp (G : Gx) (H0 : Hp) (n : Nat) (α : Al) (H : Hp) (xs : List D) (v : V) : Prop := ∃ a vs, v = .ref a ∧ H a = some (.lst vs) ∧ RDs G n α H xs vs ∧ H0 a = none ∧ ∀ i, i < n → α i ≠ a
def rR (G : Gx) : Rl Rv V := fun H0 n α H r v => match r with
  | .v d => RD G n α H d v
  | .l xs => Tmp G H0 n α H xs v
def rQ (G : Gx) : Rl Sq V := fun _ n α H q v => match q with
  | .l (some k) xs => k < n ∧ v = .ref (α k) ∧ ∃ vs, SqL G.K H (α k) vs ∧ RDs G n α H xs vs
  | .l none xs => ∃ a vs, v = .ref a ∧ H a = some (.lst vs) ∧ RDs G n α H xs vs ∧ ∀ i, i < n → α i ≠ a
  | .t xs => ∃ a vs, v = .ref a ∧ SqT G.K H a vs ∧ RDs G n α H xs vs
  | .s x => v = .str ⟨x.toArray⟩
  | .d k lk kvs => k < n ∧ v = .ref (α k) ∧ ObR G n α H (α k) (.dct lk kvs)
instance {G : Gx} : Dn (rD G) := ⟨fun _ h => h⟩
instance {G : Gx} : Dn (rDs G) := ⟨fun _ h => h⟩
instance : Dn rB := ⟨fun _ h => h⟩
instance {G : Gx} : Dn (rQ G) := ⟨fun _ h => h⟩
instance {G : Gx} : Dn (rR G) := ⟨fun {H H1 n α H2 b v} f h => by
  cases b with
  | v d => exact h
  | l xs => obtain ⟨a, vs, e, h1, r, h0, na⟩ := h; exact ⟨a, vs, e, h1, r, f a h0, na⟩⟩
/-- the map with one more -/
def alUp (α : Al) (n : Nat) (a : Addr) : Al := fun i => if i = n then a else α i
theorem alUp_lt {α : Al} {n i : Nat} {a : Addr} (h : i < n) : alUp α n a i = α i := if_neg (Nat.ne_of_lt h)
theorem alUp_eq {α : Al} {n : Nat} {a : Addr} : alUp α n a n = a := if_pos rfl
section
variable {G : Gx} {n n1 : Nat} {α α1 : Al} {H H1 : Hp} {hd : Hd}
theorem ObR.monoZ (x : Ez n α H n1 α1 H1) {a : Addr} {o : Ob} (h : ObR G n α H a o) (k : ∀ u, Bx u → H a = some u → H1 a = some u) : ObR G n1 α1 H1 a o := by
  cases o with
  | lst xs => obtain ⟨vs, e, r⟩ := h; exact ⟨vs, k _ trivial e, RDs.monoZ x xs vs r⟩
  | scr xs => obtain ⟨vs, ⟨o, e⟩, r⟩ := h; exact ⟨vs, ⟨o, k _ trivial e⟩, RDs.monoZ x xs vs r⟩
  | dct l kvs =>
    obtain ⟨es, e, r, nd⟩ := h
    refine ⟨es, ?_, RKs.monoZ x kvs es r, nd⟩
    cases l with
    | false => rw [if_neg (by decide)] at e ⊢; exact k _ ⟨_, _, _, rfl⟩ e
    | true => rw [if_pos rfl] at e ⊢; obtain ⟨o, e⟩ := e; exact ⟨o, k _ ⟨_, _, _, rfl⟩ e⟩
  | ins c fs => obtain ⟨dx, gs, e, r⟩ := h; exact ⟨dx, gs, k _ trivial e, RFs.monoZ x fs gs r⟩
theorem ObR.mono (x : Ey n α H n1 α1 H1) (bx : ∀ i, i < n → ∃ o, H (α i) = some o ∧ Bx o) {a : Addr} {o : Ob} (h : ObR G n α H a o) (k : ∀ u, Bx u → H a = some u → H1 a = some u) : ObR G n1 α1 H1 a o := by
  cases o with
  | lst xs => obtain ⟨vs, e, r⟩ := h; exact ⟨vs, k _ trivial e, RDs.mono x bx xs vs r⟩
  | scr xs => obtain ⟨vs, ⟨o, e⟩, r⟩ := h; exact ⟨vs, ⟨o, k _ trivial e⟩, RDs.mono x bx xs vs r⟩
  | dct l kvs =>
    obtain ⟨es, e, r, nd⟩ := h
    refine ⟨es, ?_, RKs.mono x bx kvs es r, nd⟩
    cases l with
    | false => rw [if_neg (by decide)] at e ⊢; exact k _ ⟨_, _, _, rfl⟩ e
    | true => rw [if_pos rfl] at e ⊢; obtain ⟨o, e⟩ := e; exact ⟨o, k _ ⟨_, _, _, rfl⟩ e⟩
  | ins c fs => obtain ⟨dx, gs, e, r⟩ := h; exact ⟨dx, gs, k _ trivial e, RFs.mono x bx fs gs r⟩
/-- an object is taken up: it stands in the heap already, at a place of nobody's -/
theorem StR.adopt (s : StR G α hd H) {a : Addr} {o : Ob} (na : ∀ i, i < hd.length → α i ≠ a) (h : ObR G hd.length α H a o) : StR G (alUp α hd.length a) (hd ++ [o]) H ∧ Ey hd.length α H (hd.length + 1) (alUp α hd.length a) H := by
  have x : Ey hd.length α H (hd.length + 1) (alUp α hd.length a) H := ⟨Nat.le_succ _, fun i hi => alUp_lt hi, fun _ _ e _ => e, fun _ _ _ h => h⟩
  refine ⟨⟨fun i j hi hj e => ?_, fun i u e => ?_⟩, x⟩
  · simp only [List.length_append, List.length_singleton] at hi hj
    by_cases h1 : i < hd.length
    · by_cases h2 : j < hd.length
      · rw [alUp_lt h1, alUp_lt h2] at e; exact s.inj i j h1 h2 e
      · have : j = hd.length := by omega
        subst this
        rw [alUp_lt h1, alUp_eq] at e
        exact absurd e (na i h1)
    · have : i = hd.length := by omega
      subst this
      by_cases h2 : j < hd.length
      · rw [alUp_lt h2, alUp_eq] at e
        exact absurd e.symm (na j h2)
      · omega
  · have bx : ∀ i, i < hd.length → ∃ o, H (α i) = some o ∧ Bx o := fun i hi => s.at_ hi
    by_cases h1 : i < hd.length
    · rw [List.getElem?_append_left h1] at e
      rw [alUp_lt h1, List.length_append, List.length_singleton]
      exact (s.ob i u e).mono x bx fun _ _ q => q
    · have : i = hd.length := by
        have := List.getElem?_eq_some_iff.mp e
        obtain ⟨h2, _⟩ := this
        simp only [List.length_append, List.length_singleton] at h2
        omega
      subst this
      rw [List.getElem?_append_right (Nat.le_refl _), Nat.sub_self] at e
      cases e
      rw [alUp_eq, List.length_append, List.length_singleton]
      exact h.mono x bx fun _ _ q => q
theorem Ex.adopt (x : Ex n α H n1 α1 H1) {a : Addr} (h0 : H a = none) : Ex n α H (n1 + 1) (alUp α1 n1 a) H1 :=
  ⟨⟨Nat.le_succ_of_le x.le, fun i hi => (alUp_lt (Nat.lt_of_lt_of_le hi x.le)).trans (x.al i hi), x.keep, x.frz⟩, fun i h1 h2 => by
    by_cases h : i < n1
    · rw [alUp_lt h]; exact x.fresh i h1 h
    · have : i = n1 := by omega
      subst this
      rw [alUp_eq]; exact h0⟩
/-- a thing of nobody's is laid anew -/
theorem Ex.other {a : Addr} {o : HO} (h : H a = none) : Ex n α H n α (upd H a o) :=
  ⟨⟨Nat.le_refl _, fun _ _ => rfl, fun b u e _ => by rw [upd_ne (ne_of_none e h)]; exact e, fun b _ u e => by rw [upd_ne (ne_of_none e h)]; exact e⟩, fun i h1 h2 => absurd h1 (Nat.not_le.mpr h2)⟩
theorem StR.other (s : StR G α hd H) {a : Addr} {o : HO} (h : H a = none) : StR G α hd (upd H a o) :=
  ⟨s.inj, fun i u e => (s.ob i u e).mono (Ex.other h).toEy (fun i hi => s.at_ hi) fun w _ q => by rw [upd_ne (ne_of_none q h)]; exact q⟩
/-- an object of ours is written -/
theorem Ex.write {k : Nat} (hk : k < n) {o : HO} (nf : ∀ o u, H (α k) ≠ some (.frz o u)) : Ex n α H n α (upd H (α k) o) :=
  ⟨⟨Nat.le_refl _, fun _ _ => rfl, fun b u e na => by rw [upd_ne (fun z => na k hk z.symm)]; exact e, fun b o u e => by rw [upd_ne (fun z => nf o u (by rw [← z]; exact e))]; exact e⟩, fun i h1 h2 => absurd h1 (Nat.not_le.mpr h2)⟩
theorem StR.write (s : StR G α hd H) {k : Nat} {o : Ob} {u : HO} (hk : k < hd.length) (h : ObR G hd.length α (upd H (α k) u) (α k) o) : StR G α (hd.set k o) (upd H (α k) u) := by
  have bx : ∀ i, i < hd.length → ∃ o, H (α i) = some o ∧ Bx o := fun i hi => s.at_ hi
  have wz : Ez hd.length α H hd.length α (upd H (α k) u) := ⟨Nat.le_refl _, fun _ _ => rfl, fun c o q nb => by
    rw [upd_ne fun z => by
      obtain ⟨v, ev, bv⟩ := bx k hk
      rw [← z, q] at ev; cases ev; exact nb bv]
    exact q⟩
  refine ⟨fun i j hi hj => s.inj i j (by simpa using hi) (by simpa using hj), fun i w e => ?_⟩
  rw [List.length_set]
  by_cases hi : k = i
  · subst hi
    rw [List.getElem?_set_self hk] at e
    cases e
    exact h
  · rw [List.getElem?_set_ne hi] at e
    have hl : i < hd.length := (List.getElem?_eq_some_iff.mp e).1
    exact (s.ob i w e).monoZ wz fun _ _ q => by rw [upd_ne (fun z => hi (s.inj i k hl hk z).symm)]; exact q
/-- a thing of nobody's is changed: a list that we fill -/
theorem Ez.touch {a : Addr} {vs : List V} {o : HO} (h : H a = some (.lst vs)) : Ez n α H n α (upd H a o) :=
  ⟨Nat.le_refl _, fun _ _ => rfl, fun c u e nb => by
    have : c ≠ a := fun z => by rw [z, h] at e; cases e; exact nb trivial
    rw [upd_ne this]; exact e⟩
theorem Ex.touch (x : Ex n α H n1 α1 H1) {a : Addr} {o : HO} (h0 : H a = none) : Ex n α H n1 α1 (upd H1 a o) :=
  ⟨⟨x.le, x.al, fun b u e na => by rw [upd_ne (ne_of_none e h0)]; exact x.keep b u e na, fun b o u e => by rw [upd_ne (ne_of_none e h0)]; exact x.frz b o u e⟩, x.fresh⟩
theorem StR.touch (s : StR G α hd H) {a : Addr} {vs : List V} {o : HO} (h : H a = some (.lst vs)) (na : ∀ i, i < hd.length → α i ≠ a) : StR G α hd (upd H a o) := by
  refine ⟨s.inj, fun i u e => ?_⟩
  have hi : i < hd.length := (List.getElem?_eq_some_iff.mp e).1
  have ho := s.ob i u e
  have z : Ez hd.length α H hd.length α (upd H a o) := Ez.touch h
  cases u with
  | lst xs => obtain ⟨ws, e1, r⟩ := ho; exact ⟨ws, by rw [upd_ne (na i hi)]; exact e1, RDs.monoZ z xs ws r⟩
  | scr xs => obtain ⟨ws, ⟨q, e1⟩, r⟩ := ho; exact ⟨ws, ⟨q, by rw [upd_ne (na i hi)]; exact e1⟩, RDs.monoZ z xs ws r⟩
  | dct l kvs =>
    obtain ⟨es, e1, r, nd⟩ := ho
    refine ⟨es, ?_, RKs.monoZ z kvs es r, nd⟩
    cases l with
    | false => rw [if_neg (by decide)] at e1 ⊢; rw [upd_ne (na i hi)]; exact e1
    | true => rw [if_pos rfl] at e1 ⊢; rw [upd_ne (na i hi)]; exact e1
  | ins c fs => obtain ⟨dx, gs, e1, r⟩ := ho; exact ⟨dx, gs, by rw [upd_ne (na i hi)]; exact e1, RFs.monoZ z fs gs r⟩
theorem Ex.notin (x : Ex n α H n1 α1 H1) {a : Addr} {o : HO} (h : H a = some o) (na : ∀ i, i < n → α i ≠ a) : ∀ i, i < n1 → α1 i ≠ a := fun i hi e => by
  by_cases c : i < n
  · exact na i c ((x.al i c).symm.trans e)
  · have := x.fresh i (Nat.not_lt.mp c) hi
    rw [e, h] at this; cases this
end
end Mp
set_option maxHeartbeats 1000000
/-! MiniPy, part 2: expressions. -/
namespace Mp
open PySem PySem.Spec PyProof.Rows L2

theorem _root_.L2.PE.imp {X : Cx} {e : Expr} {t t' : TE} (h : PE X e t) (hi : ∀ σ H Q, t' σ H Q → t σ H Q) : PE X e t' := ⟨fun pins s σ H Q I q => h.run pins s σ H Q I (hi σ H Q q)⟩
theorem _root_.L2.PT.imp {X : Cx} {e : Expr} {t t' : TT} (h : PT X e t) (hi : ∀ σ H Q, t' σ H Q → t σ H Q) : PT X e t' := ⟨fun pins s σ H Q I q => h.run pins s σ H Q I (hi σ H Q q)⟩
theorem _root_.L2.PA.imp {X : Cx} {e : List Expr} {t t' : TA} (h : PA X e t) (hi : ∀ σ H Q, t' σ H Q → t σ H Q) : PA X e t' := ⟨fun pos pins s σ H Q I q => h.run pos pins s σ H Q I (hi σ H Q q)⟩
/-- the context of a body -/
structure Ok (G : Gx) (X : Cx) (W : WX) : Prop where
  K : X.K = G.K
  w : X.w = G.w
  calm : X.calm = true
  tk : Takes X W
  un : X.A.units + 65 < cLine
  nd : X.N.Nodup
abbrev tR (G : Gx) (W : WX) (f : Sl → Hd → R (Rv × Hd)) : TE := tX G (rR G) W f
abbrev tE (G : Gx) (W : WX) (f : Sl → Hd → R (D × Hd)) : TE := tX G (rD G) W f
abbrev tQ (G : Gx) (W : WX) (f : Sl → Hd → R (Sq × Hd)) : TE := tX G (rQ G) W f
abbrev tT (G : Gx) (W : WX) (f : Sl → Hd → R (Bool × Hd)) : TT := tX G rB W f
abbrev tEs (G : Gx) (W : WX) (f : Sl → Hd → R (List D × Hd)) : TA := tX G (rDs G) W f
section
variable {G : Gx} {n : Nat} {α : Al} {H : Hp} {hd : Hd} {E : Value → Option Addr → Hp → Prop}
theorem Lnd.ok {β γ : Type} {Rel : Rl β γ} {Q : γ → Hp → Prop} {b : β} {v : γ} (h : Lnd G Rel E hd.length α H Q (.ok (b, hd))) (s : StR G α hd H) (r : Rel H hd.length α H b v) : Q v H := h α v H Ex.refl s r
theorem Lnd.rv {Q : VK} {r : R (D × Hd)} (h : Lnd G (rR G) E n α H Q (Mp.rv r)) : Lnd G (rD G) E n α H Q r := by
  cases r with
  | no => exact h
  | ex c h1 => exact h
  | ok p => exact fun α1 v H1 x s r => h α1 v H1 x s r
/-- a new temporary is taken up by the heap -/
theorem Lnd.val {Q : VK} {r : Rv} {h1 : Hd} {α1 : Al} {H1 : Hp} {v : V} (x : Ex n α H h1.length α1 H1) (s : StR G α1 h1 H1) (rr : rR G H h1.length α1 H1 r v)
    (h : Lnd G (rD G) E n α H Q (r.val h1)) : Q v H1 := by
  cases r with
  | v d => exact h α1 v H1 x s rr
  | l xs =>
    obtain ⟨a, vs, rfl, ea, rs, h0, na⟩ := rr
    obtain ⟨s2, y⟩ := s.adopt (o := .lst xs) na ⟨vs, ea, rs⟩
    have x2 : Ex n α H (h1 ++ [Ob.lst xs]).length (alUp α1 h1.length a) H1 := by
      rw [List.length_append, List.length_singleton]; exact x.adopt h0
    refine h _ (.ref a) H1 x2 s2 ?_
    show RD G _ _ _ (.ob h1.length) _
    unfold RD
    exact ⟨by rw [List.length_append, List.length_singleton]; exact Nat.lt_succ_self _, by rw [alUp_eq]⟩
end
section
variable {G : Gx} {X : Cx} {W : WX} {e : Expr} {f : Sl → Hd → R (Rv × Hd)}
/-- the value of an expression -/
theorem pe_vl (h : PE X e (tR G W f)) : PE X e (tE G W fun σ h => vl (f σ h)) := h.imp fun σ H Q hh => by
  obtain ⟨α, σD, hd, s, l, z⟩ := hh
  refine ⟨α, σD, hd, s, l, ?_⟩
  revert z
  show Lnd G (rD G) _ _ _ _ _ (vl (f σD hd)) → _
  cases e : f σD hd with
  | no => exact fun z => z
  | ex c h1 => exact fun z => z
  | ok p =>
    obtain ⟨r, h1⟩ := p
    exact fun z α1 v H1 x s1 rr => Lnd.val x s1 rr z
theorem pe_rv {f : Sl → Hd → R (D × Hd)} (h : PE X e (tE G W f)) : PE X e (tR G W fun σ h => rv (f σ h)) := h.imp fun σ H Q ⟨α, σD, hd, s, l, z⟩ => ⟨α, σD, hd, s, l, z.rv⟩
theorem sqOf_rel {α : Al} {H : Hp} {h1 : Hd} {d : D} {q : Sq} {v : V} (s : StR G α h1 H) (r : RD G h1.length α H d v) (e : sqOf h1 d = some q) : rQ G H h1.length α H q v := by
  cases d with
  | tup xs => cases e; unfold RD at r; exact r
  | str x => cases e; unfold RD at r; exact r
  | ob k =>
    unfold RD at r
    obtain ⟨hk, rfl⟩ := r
    simp only [sqOf] at e
    cases ek : h1[k]? with
    | none => rw [ek] at e; cases e
    | some o =>
      rw [ek] at e
      have ho := s.ob k o ek
      cases o with
      | lst xs => cases e; obtain ⟨vs, e1, r1⟩ := ho; exact ⟨hk, rfl, vs, SqL.of e1, r1⟩
      | scr xs => cases e; obtain ⟨vs, ⟨o, e1⟩, r1⟩ := ho; exact ⟨hk, rfl, vs, .inl (.inr ⟨o, e1⟩), r1⟩
      | dct l kvs => cases e; exact ⟨hk, rfl, ho⟩
      | ins c fs => cases e
  | non => cases e
  | bl b => cases e
  | int i => cases e
  | fn f => cases e
  | ex c => cases e
  | clo l vs => cases e
  | junk => cases e
/-- an expression as a sequence -/
theorem pe_qs (h : PE X e (tR G W f)) : PE X e (tQ G W fun σ h => qs (f σ h)) := h.imp fun σ H Q hh => by
  obtain ⟨α, σD, hd, s, l, z⟩ := hh
  refine ⟨α, σD, hd, s, l, ?_⟩
  revert z
  show Lnd G (rQ G) _ _ _ _ _ (qs (f σD hd)) → _
  cases e : f σD hd with
  | no => exact fun z => z
  | ex c h1 => exact fun z => z
  | ok p =>
    obtain ⟨r, h1⟩ := p
    intro z α1 v H1 x s1 rr
    cases r with
    | l xs =>
      obtain ⟨a, vs, rfl, ea, rs, h0, na⟩ := rr
      exact z α1 (.ref a) H1 x s1 ⟨a, vs, rfl, ea, rs, na⟩
    | v d =>
      have z' : Lnd G (rQ G) (fun c d H1 => W c d σ H1) hd.length α H Q (match sqOf h1 d with
        | some q => R.ok (q, h1)
        | none => .no) := z
      cases eq : sqOf h1 d with
      | none => rw [eq] at z'; exact z'.elim
      | some q =>
        rw [eq] at z'
        exact z' α1 v H1 x s1 (sqOf_rel s1 rr eq)
/-- an expression as a test, where the model asks its value -/
theorem pt_ts (h : PE X e (tR G W f)) (he : ∀ whole, isTrue e X.env whole = (do let v ← whole; standAt e.pos; holding [v] (truthy v))) : PT X e (tT G W fun σ h => ts (f σ h)) := by
  refine (pt_val (pe_vl h) he).imp fun σ H Q ⟨α, σD, hd, s, l, z⟩ => ?_
  refine tX_bind (Rel := rD G) s l z fun d h1 α1 v H1 e x s1 l1 r z => ?_
  cases d with
  | bl c =>
    have r' : RD G h1.length α1 H1 (.bl c) v := r
    unfold RD at r'
    exact ⟨c, r', Lnd.ok (Rel := rB) (b := c) z s1 rfl⟩
  | _ => exact z.elim
end
/-! ### names, constants -/
section
variable {G : Gx} {X : Cx} {W : WX} {pos : Pos}
theorem de_v {i : Nat} {x : Str} (hN : X.N[i]? = some x) (hv : Vis X.env.scope x) (hd : (x == ("__debug__" : Str)) = false) (hcd : (x == ("__classdict__" : Str)) = false) : PE X (.Name x pos) (tR G W fun σ h => getV σ i >>= fun d => .ok (.v d, h)) := by
  refine (pe_var hN hv hd hcd).imp fun σ H Q ⟨α, σD, hd, s, l, z⟩ => ?_
  dsimp only [getV] at z
  cases e : σD[i]? with
  | none => rw [e] at z; exact z.elim
  | some o =>
    cases o with
    | none => rw [e] at z; exact z.elim
    | some d =>
      rw [e] at z
      obtain ⟨v, hv, r⟩ := l.2 i d e
      exact ⟨v, hv, Lnd.ok (Rel := rR G) (b := Rv.v d) z s r⟩
theorem de_tC {e : Expr} {v : V} {d : D} (h : PE X e (tC v)) (r : ∀ n α H, RD G n α H d v) : PE X e (tR G W fun _ h => .ok (.v d, h)) := h.imp fun σ H Q ⟨α, σD, hd, s, l, z⟩ => Lnd.ok (Rel := rR G) (b := Rv.v d) z s (r _ _ _)
theorem de_int {i : Int} {j : Nat} : PE X (.Constant (.int i) j pos) (tR G W fun _ h => .ok (.v (.int i), h)) := de_tC pe_int fun _ _ _ => by unfold RD; rfl
theorem de_bl {b : Bool} {j : Nat} : PE X (.Constant (.bool b) j pos) (tR G W fun _ h => .ok (.v (.bl b), h)) := de_tC pe_bl fun _ _ _ => by unfold RD; rfl
theorem de_non {j : Nat} : PE X (.Constant .none j pos) (tR G W fun _ h => .ok (.v .non, h)) := de_tC pe_non fun _ _ _ => by unfold RD; rfl
theorem de_str {s : Str} {j : Nat} : PE X (.Constant (.str s) j pos) (tR G W fun _ h => .ok (.v (.str s.cps.toList), h)) := de_tC pe_str fun _ _ _ => by unfold RD; simp
end
/-! ### operators -/
/-- two values and what an operation of part 0 says of them -/
def r2 (G : Gx) (g : D → D → Hd → R (D × Hd)) : R2 := fun x y H Q => ∃ α hd d e E, StR G α hd H ∧ RD G hd.length α H d x ∧ RD G hd.length α H e y ∧ Lnd G (rD G) E hd.length α H Q (g d e hd)
section
variable {G : Gx} {X : Cx} {W : WX} {pos : Pos} {a b : Expr} {fa fb : Sl → Hd → R (Rv × Hd)}
theorem tOp_of {g : D → D → Hd → R (D × Hd)} {σ : L2.St} {H : Hp} {Q : VK} (h : tR G W (fun σ h => vl (fa σ h) >>= fun p => vl (fb σ p.2) >>= fun q => rv (g p.1 q.1 q.2)) σ H Q) :
    tOp (r2 G g) (tE G W fun σ h => vl (fa σ h)) (tE G W fun σ h => vl (fb σ h)) σ H Q := by
  obtain ⟨α, σD, hd, s, l, z⟩ := h
  refine tX_bind (Rel := rD G) s l z fun x h1 α1 v H1 e x1 s1 l1 r z => ?_
  refine tX_bind (Rel := rD G) s1 l1 z fun y h2 α2 u H2 e x2 s2 l2 r2 z => ?_
  exact ⟨α2, h2, x, y, _, s2, RD.mono x2.toEy (fun i hi => s1.at_ hi) x v r, r2, z.rv⟩
/-- a new tuple of values -/
theorem Lnd.tupN {E : Value → Option Addr → Hp → Prop} {Q : VK} {xs : List D} {vs : List V} {hd : Hd} {α : Al} {H : Hp} (h : Lnd G (rD G) E hd.length α H Q (.ok (.tup xs, hd))) (s : StR G α hd H) (r : RDs G hd.length α H xs vs) {p : Addr} (hp : H p = none) : Q (.ref p) (upd H p (.tup vs)) := by
  refine h α (.ref p) _ (Ex.other hp) (s.other hp) ?_
  show RD G _ _ _ (.tup xs) _
  unfold RD
  exact ⟨p, vs, rfl, SqT.of upd_same, RDs.mono (Ex.other hp).toEy (fun i hi => s.at_ hi) xs vs r⟩
theorem Lnd.lstN {E : Value → Option Addr → Hp → Prop} {Q : VK} {xs : List D} {vs : List V} {hd : Hd} {α : Al} {H : Hp} (h : Lnd G (rD G) E hd.length α H Q (new (.lst xs) hd)) (s : StR G α hd H) (r : RDs G hd.length α H xs vs) {p : Addr} (hp : H p = none) : Q (.ref p) (upd H p (.lst vs)) :=
  Lnd.val (r := .l xs) (Ex.other hp) (s.other hp) ⟨p, vs, rfl, upd_same, RDs.mono (Ex.other hp).toEy (fun i hi => s.at_ hi) xs vs r, hp, fun i hi e => by
    obtain ⟨o, ho, _⟩ := s.at_ hi
    rw [e, hp] at ho; cases ho⟩ h
theorem Lnd.tmpN {E : Value → Option Addr → Hp → Prop} {Q : VK} {xs : List D} {vs : List V} {hd : Hd} {α : Al} {H : Hp} (h : Lnd G (rR G) E hd.length α H Q (.ok (.l xs, hd))) (s : StR G α hd H) (r : RDs G hd.length α H xs vs) {p : Addr} (hp : H p = none) : Q (.ref p) (upd H p (.lst vs)) :=
  h α (.ref p) _ (Ex.other hp) (s.other hp) ⟨p, vs, rfl, upd_same, RDs.mono (Ex.other hp).toEy (fun i hi => s.at_ hi) xs vs r, hp, fun i hi e => by
    obtain ⟨o, ho, _⟩ := s.at_ hi
    rw [e, hp] at ho; cases ho⟩
theorem lstOf_rel {α : Al} {H : Hp} {hd : Hd} {d : D} {xs : List D} {v : V} (s : StR G α hd H) (r : RD G hd.length α H d v) (e : lstOf hd d = some xs) : ∃ k vs, d = .ob k ∧ k < hd.length ∧ hd[k]? = some (.lst xs) ∧ v = .ref (α k) ∧ H (α k) = some (.lst vs) ∧ RDs G hd.length α H xs vs := by
  cases d with
  | ob k =>
    unfold RD at r
    obtain ⟨hk, rfl⟩ := r
    simp only [lstOf] at e
    cases ek : hd[k]? with
    | none => rw [ek] at e; cases e
    | some o =>
      rw [ek] at e
      cases o with
      | lst ys => cases e; obtain ⟨vs, e1, r1⟩ := s.ob k _ ek; exact ⟨k, vs, rfl, hk, ek, rfl, e1, r1⟩
      | scr ys => cases e
      | dct l kvs => cases e
      | ins c fs => cases e
  | tup xs => cases e
  | str x => cases e
  | non => cases e
  | bl b => cases e
  | int i => cases e
  | fn f => cases e
  | ex c => cases e
  | clo l vs => cases e
  | junk => cases e
theorem small_c {i j : Int} (h : (small i || small j) = true) : CMul i j := by
  unfold small at h
  simp only [Bool.or_eq_true, Bool.and_eq_true, decide_eq_true_eq, pr_eq] at h
  exact h
theorem op_cut {op : Operator} {r1 r2' : R2} (h : OpR X (binaryOp op) r1) (i : ∀ x y H Q, r2' x y H Q → r1 x y H Q) : OpR X (binaryOp op) r2' := fun pins s σ H x y v u Q I rx ry q => h pins s σ H x y v u Q I rx ry (i x y H Q q)
end
end Mp
set_option maxHeartbeats 4000000
/-! MiniPy, part 33: a tuple times 1, times 0. -/
namespace Mp
open PySem PySem.Spec PyProof.Rows L2
open PySem.Sem (wp)
theorem tup_mul1 (l : Addr) (items : Array Value) (n : Nat) (dd : Option Addr) (sl : Array (Option Value)) (u : Tok) :
    Meets (Builtin.«tuple.__mul__» ⟨[.ref l, .int 1 u], []⟩) (fun _ R s => s.heap.get? l = some { cls := .type "tuple", dict := dd, data := .seq items n, slots := sl } ∧ R (.ok (.ret (Value.ref l))) s) :=
  .of_wp fun prog w A R s h => by
    obtain ⟨hp, g, d, tk, os⟩ := s
    obtain ⟨hl, h⟩ := h
    have f1 := AutoSeq1.idx_int
    wp_walk using AutoSeq1.wpAny_loadPart' hl
    exact ⟨_, rfl, h⟩
theorem tup_mul0 (l : Addr) (items : Array Value) (n : Nat) (dd : Option Addr) (sl : Array (Option Value)) (u : Tok) (c1 : items.isEmpty = false) :
    Meets (Builtin.«tuple.__mul__» ⟨[.ref l, .int 0 u], []⟩) (fun _ R s => s.heap.get? l = some { cls := .type "tuple", dict := dd, data := .seq items n, slots := sl } ∧
      R (.ok (.ret (Value.ref s.heap.objs.size))) { s with heap := s.heap.push { cls := Value.type "tuple", data := Data.seq #[] } }) :=
  .of_wp fun prog w A R s h => by
    obtain ⟨hp, g, d, tk, os⟩ := s
    obtain ⟨hl, h⟩ := h
    have f1 := AutoSeq1.idx_int
    wp_walk using AutoSeq1.wpAny_loadPart' hl
    exact ⟨_, rfl, h⟩
/-- a tuple times 1 is the tuple; times 0 a new empty one -/
def rRep1 (K : PySem.W.Frag) : R2 := fun x y H Q => ∃ l xs, x = .ref l ∧ y = .int 1 ∧ SqT K H l xs ∧ Q (.ref l) H
def rRep0 (K : PySem.W.Frag) : R2 := fun x y H Q => ∃ l xs, x = .ref l ∧ y = .int 0 ∧ SqT K H l xs ∧ xs ≠ [] ∧ ∀ p, H p = none → Q (.ref p) (upd H p (.tup []))
section
variable {X : Cx}
theorem op_rep1 : OpR X (binaryOp .Mult) (rRep1 X.K) := by
  intro pins s σ H x y v u Q I rx ry ⟨l, xs, ex, ey, hT, q⟩
  subst ex; subst ey
  cases rx
  obtain ⟨t, rfl⟩ := ry
  obtain ⟨its, r, ⟨⟨cls, dd, data, sl⟩, ho, hc, n, hd⟩, hs⟩ := I.tuple hT
  cases (show cls = .type "tuple" from hc)
  cases (show data = .seq its.toArray n from hd)
  refine wpAny_binaryOp_repeat_ref (T := "tuple") (U := "int") (by decide) ⟨_, ho, rfl⟩ (fun s' => typeIs_int s' 1 t) noFill_tuple_mul F.fills_int_mul F.slot_int_rmul repeat_tuple F.slot_int_index.lookup
    (call_meets F.slot_int_rmul (typeIs_int s 1 t) F.entry_int_rmul (F.args_int_rmul_2 _ _) (int_rmul_tuple 1 t l its.toArray n dd sl)
      ⟨ho, rfl, ⟨_, ho, rfl⟩, call_meets F.slot_tuple_mul ⟨_, ho, rfl⟩ F.entry_tuple_mul (F.args_tuple_mul_2 _ _) (tup_mul1 l its.toArray n dd sl t) ⟨ho, ?_⟩⟩)
  exact ⟨.ref l, _, I, rfl, q⟩
theorem op_rep0 : OpR X (binaryOp .Mult) (rRep0 X.K) := by
  intro pins s σ H x y v u Q I rx ry ⟨l, xs, ex, ey, hT, hne, q⟩
  subst ex; subst ey
  cases rx
  obtain ⟨t, rfl⟩ := ry
  obtain ⟨its, r, ⟨⟨cls, dd, data, sl⟩, ho, hc, n, hd⟩, hs⟩ := I.tuple hT
  cases (show cls = .type "tuple" from hc)
  cases (show data = .seq its.toArray n from hd)
  have hi : its.toArray.isEmpty = false := by
    cases its with
    | nil => exact absurd (List.length_eq_zero_iff.mp (show xs.length = 0 by rw [r.length]; rfl)) hne
    | cons a b => rfl
  refine wpAny_binaryOp_repeat_ref (T := "tuple") (U := "int") (by decide) ⟨_, ho, rfl⟩ (fun s' => typeIs_int s' 0 t) noFill_tuple_mul F.fills_int_mul F.slot_int_rmul repeat_tuple F.slot_int_index.lookup
    (call_meets F.slot_int_rmul (typeIs_int s 0 t) F.entry_int_rmul (F.args_int_rmul_2 _ _) (int_rmul_tuple 0 t l its.toArray n dd sl)
      ⟨ho, rfl, ⟨_, ho, rfl⟩, call_meets F.slot_tuple_mul ⟨_, ho, rfl⟩ F.entry_tuple_mul (F.args_tuple_mul_2 _ _) (tup_mul0 l its.toArray n dd sl t hi) ⟨ho, ?_⟩⟩)
  refine ⟨.ref s.heap.objs.size, _, I.laid (t' := s.toks) (o := .tup []) (fun b ob q => Heap.get?_push_of_some _ q) (Nat.le_refl _) ?_, rfl, q _ (I.hok.fresh (Nat.le_refl _))⟩
  exact ⟨Nat.zero_le _, [], .nil, IsTup.new _ _⟩
end
end Mp
set_option maxHeartbeats 1000000
/-! MiniPy, part 3: operators by values. -/
namespace Mp
open PySem PySem.Spec PyProof.Rows L2
section
variable {G : Gx} {X : Cx} {W : WX} {pins : List (Addr × Obj)} {s : Shared} {σ : L2.St} {H : Hp} {x y : V} {v u : Value} {Q : VK}
theorem RDint {n : Nat} {α : Al} {H : Hp} {i : Int} {x : V} (r : RD G n α H (.int i) x) : x = .int i := by unfold RD at r; exact r
theorem RDstr {n : Nat} {α : Al} {H : Hp} {i : List Nat} {x : V} (r : RD G n α H (.str i) x) : x = .str ⟨i.toArray⟩ := by unfold RD at r; exact r
theorem RDbl {n : Nat} {α : Al} {H : Hp} {i : Bool} {x : V} (r : RD G n α H (.bl i) x) : x = .bl i := by unfold RD at r; exact r
theorem RDnon {n : Nat} {α : Al} {H : Hp} {x : V} (r : RD G n α H .non x) : x = .non := by unfold RD at r; exact r
theorem RDtup {n : Nat} {α : Al} {H : Hp} {xs : List D} {x : V} (r : RD G n α H (.tup xs) x) : ∃ a vs, x = .ref a ∧ SqT G.K H a vs ∧ RDs G n α H xs vs := by unfold RD at r; exact r
theorem rInt {n : Nat} {α : Al} {H H0 : Hp} {i : Int} : rD G H0 n α H (.int i) (.int i) := by show RD _ _ _ _ _ _; unfold RD; rfl
theorem rStr {n : Nat} {α : Al} {H H0 : Hp} {i : List Nat} : rD G H0 n α H (.str i) (.str ⟨i.toArray⟩) := by show RD _ _ _ _ _ _; unfold RD; rfl
theorem rBl {n : Nat} {α : Al} {H H0 : Hp} {i : Bool} : rD G H0 n α H (.bl i) (.bl i) := by show RD _ _ _ _ _ _; unfold RD; rfl
theorem rNon {n : Nat} {α : Al} {H H0 : Hp} : rD G H0 n α H .non .non := by show RD _ _ _ _ _ _; unfold RD; rfl
theorem if_no {P : Prop} [Decidable P] {E : Value → Option Addr → Hp → Prop} {β γ : Type} {Rel : Rl β γ} {n : Nat} {α : Al} {Q : γ → Hp → Prop} {r : R (β × Hd)} (h : Lnd G Rel E n α H Q (if P then r else .no)) : P ∧ Lnd G Rel E n α H Q r := by
  by_cases c : P
  · rw [if_pos c] at h; exact ⟨c, h⟩
  · rw [if_neg c] at h; exact h.elim
theorem strLen (s : List Nat) : (⟨s.toArray⟩ : Str).length = s.length := by simp [Str.length]
theorem strApp (s t : List Nat) : (⟨s.toArray⟩ : Str) ++ (⟨t.toArray⟩ : Str) = ⟨(s ++ t).toArray⟩ := by
  show Str.append _ _ = _
  simp [Str.append]
theorem sizeL_eq : sizeL = sizeLine := by rw [sizeLine_eq]; rfl
def opOf : Bop → Operator
  | .add => .Add | .sub => .Sub | .mul => .Mult | .fdiv => .FloorDiv | .mod => .Mod | .pow => .Pow
theorem b_add (hK : X.K = G.K) : OpR X (binaryOp .Add) (r2 G (binD .add)) := by
  intro pins s σ H x y v u Q I rx ry h
  obtain ⟨α, hd, d, e, E, st, rd, re, z⟩ := h
  cases d <;> cases e <;> first | exact z.elim | skip
  · obtain rfl := RDint rd; obtain rfl := RDint re
    exact op_add pins s σ H _ _ v u Q I rx ry ⟨_, _, rfl, rfl, Lnd.ok (Rel := rD G) (b := D.int _) z st rInt⟩
  · obtain rfl := RDstr rd; obtain rfl := RDstr re
    obtain ⟨c, z⟩ := if_no z
    refine op_add_str pins s σ H _ _ v u Q I rx ry ⟨_, _, rfl, rfl, ?_, ?_⟩
    · rw [strLen, strLen, ← sizeL_eq]; exact c
    · rw [strApp]; exact Lnd.ok (Rel := rD G) (b := D.str _) z st rStr
  · obtain ⟨a, vs, rfl, ta, ra⟩ := RDtup rd; obtain ⟨b, ws, rfl, tb, rb⟩ := RDtup re
    obtain ⟨c, z⟩ := if_no z
    refine op_catA pins s σ H _ _ v u Q I rx ry ⟨a, b, vs, ws, rfl, rfl, hK ▸ ta, hK ▸ tb, ?_, fun e => ?_, fun _ e => ?_, fun _ _ p hp => ?_⟩
    · rw [ra.length, rb.length, ← sizeL_eq]; exact c
    · have : vs.length = 0 := by rw [e]; rfl
      rw [ra.length] at this
      rw [List.length_eq_zero_iff.mp this, List.nil_append] at z
      exact Lnd.ok (Rel := rD G) (b := D.tup _) z st re
    · have : ws.length = 0 := by rw [e]; rfl
      rw [rb.length] at this
      rw [List.length_eq_zero_iff.mp this, List.append_nil] at z
      exact Lnd.ok (Rel := rD G) (b := D.tup _) z st rd
    · exact z.tupN st (ra.append rb) hp
  · rename_i k l
    dsimp only [binD] at z
    cases e1 : lstOf hd (.ob k) with
    | none => rw [e1] at z; exact z.elim
    | some xs =>
      cases e2 : lstOf hd (.ob l) with
      | none => rw [e1, e2] at z; exact z.elim
      | some ys =>
        rw [e1, e2] at z
        obtain ⟨c, z⟩ := if_no z
        obtain ⟨k', vs, ek, hk, _, rfl, e1, ra⟩ := lstOf_rel st rd e1
        obtain ⟨l', ws, el, hl, _, rfl, e2, rb⟩ := lstOf_rel st re e2
        refine op_cat pins s σ H _ _ v u Q I rx ry ⟨_, _, vs, ws, rfl, rfl, e1, e2, ?_, fun p hp => ?_⟩
        · rw [ra.length, rb.length, ← sizeL_eq]; exact c
        · exact z.lstN st (ra.append rb) hp
theorem b_sub : OpR X (binaryOp .Sub) (r2 G (binD .sub)) := by
  intro pins s σ H x y v u Q I rx ry h
  obtain ⟨α, hd, d, e, E, st, rd, re, z⟩ := h
  cases d <;> cases e <;> first | exact z.elim | skip
  obtain rfl := RDint rd; obtain rfl := RDint re
  exact op_sub pins s σ H _ _ v u Q I rx ry ⟨_, _, rfl, rfl, Lnd.ok (Rel := rD G) (b := D.int _) z st rInt⟩
theorem b_mul (hK : X.K = G.K) : OpR X (binaryOp .Mult) (r2 G (binD .mul)) := by
  intro pins s σ H x y v u Q I rx ry h
  obtain ⟨α, hd, d, e, E, st, rd, re, z⟩ := h
  cases d <;> cases e <;> first | exact z.elim | skip
  · obtain rfl := RDint rd; obtain rfl := RDint re
    obtain ⟨c, z⟩ := if_no z
    exact op_mul pins s σ H _ _ v u Q I rx ry ⟨_, _, rfl, rfl, small_c c, Lnd.ok (Rel := rD G) (b := D.int _) z st rInt⟩
  · rename_i xs k
    obtain ⟨a, vs, rfl, ta, ra⟩ := RDtup rd; obtain rfl := RDint re
    obtain ⟨c, z⟩ := if_no z
    simp only [Bool.and_eq_true, decide_eq_true_eq, pr_eq] at c
    obtain ⟨c1, c2, c3, c4⟩ := c
    have vne : vs ≠ [] := fun e => by
      have : vs.length = 0 := by rw [e]; rfl
      rw [ra.length] at this
      exact c1 (List.length_eq_zero_iff.mp this)
    by_cases k1 : k = 1
    · subst k1
      refine op_rep1 pins s σ H _ _ v u Q I rx ry ⟨a, vs, rfl, rfl, hK ▸ ta, ?_⟩
      have e1 : (List.replicate (1 : Int).toNat xs).flatten = xs := by show (List.replicate 1 xs).flatten = xs; simp
      rw [e1] at z
      exact Lnd.ok (Rel := rD G) (b := D.tup xs) z st (by show RD G _ _ _ _ _; unfold RD; exact ⟨a, vs, rfl, ta, ra⟩)
    · by_cases k0 : k = 0
      · subst k0
        exact op_rep0 pins s σ H _ _ v u Q I rx ry ⟨a, vs, rfl, rfl, hK ▸ ta, vne, fun p hp => z.tupN st .nil hp⟩
      · exact op_repT pins s σ H _ _ v u Q I rx ry ⟨a, _, vs, rfl, rfl, hK ▸ ta, vne, by omega, c3, by rw [ra.length]; exact c4, fun p hp => z.tupN st (ra.rep _) hp⟩
  · rename_i k l
    dsimp only [binD] at z
    cases e1 : lstOf hd (.ob k) with
    | none => rw [e1] at z; exact z.elim
    | some xs =>
      rw [e1] at z
      obtain ⟨c, z⟩ := if_no z
      simp only [Bool.and_eq_true, decide_eq_true_eq, pr_eq] at c
      obtain ⟨c1, c2, c3⟩ := c
      obtain ⟨k', vs, ek, hk, _, rfl, e1, ra⟩ := lstOf_rel st rd e1
      obtain rfl := RDint re
      refine op_rep pins s σ H _ _ v u Q I rx ry ⟨_, _, vs, rfl, rfl, e1, c1, c2, by rw [ra.length, ← sizeL_eq]; exact c3, fun p hp => ?_⟩
      exact z.lstN st (ra.rep _) hp
theorem b_fdiv : OpR X (binaryOp .FloorDiv) (r2 G (binD .fdiv)) := by
  intro pins s σ H x y v u Q I rx ry h
  obtain ⟨α, hd, d, e, E, st, rd, re, z⟩ := h
  cases d <;> cases e <;> first | exact z.elim | skip
  obtain rfl := RDint rd; obtain rfl := RDint re
  obtain ⟨c, z⟩ := if_no z
  simp only [Bool.and_eq_true, decide_eq_true_eq, pr_eq] at c
  exact op_fdivW pins s σ H _ _ v u Q I rx ry ⟨_, _, rfl, rfl, wide_div c.1 c.2 (by decide) (by decide), Lnd.ok (Rel := rD G) (b := D.int _) z st rInt⟩
theorem b_mod : OpR X (binaryOp .Mod) (r2 G (binD .mod)) := by
  intro pins s σ H x y v u Q I rx ry h
  obtain ⟨α, hd, d, e, E, st, rd, re, z⟩ := h
  cases d <;> cases e <;> first | exact z.elim | skip
  obtain rfl := RDint rd; obtain rfl := RDint re
  obtain ⟨c, z⟩ := if_no z
  exact op_mod pins s σ H _ _ v u Q I rx ry ⟨_, _, rfl, rfl, c, Lnd.ok (Rel := rD G) (b := D.int _) z st rInt⟩
theorem b_pow : OpR X (binaryOp .Pow) (r2 G (binD .pow)) := by
  intro pins s σ H x y v u Q I rx ry h
  obtain ⟨α, hd, d, e, E, st, rd, re, z⟩ := h
  cases d <;> cases e <;> first | exact z.elim | skip
  obtain rfl := RDint rd; obtain rfl := RDint re
  obtain ⟨c, z⟩ := if_no z
  simp only [Bool.and_eq_true, decide_eq_true_eq, pr_eq] at c
  exact op_pow pins s σ H _ _ v u Q I rx ry ⟨_, _, rfl, rfl, c, Lnd.ok (Rel := rD G) (b := D.int _) z st rInt⟩
theorem b_op (hK : X.K = G.K) : ∀ op, OpR X (binaryOp (opOf op)) (r2 G (binD op))
  | .add => b_add hK | .sub => b_sub | .mul => b_mul hK | .fdiv => b_fdiv | .mod => b_mod | .pow => b_pow
/-! ### comparisons -/
theorem dpAll_of {K : PySem.W.Frag} {H : Hp} : ∀ {vs : List V} {ps : List PyData}, vs.length = ps.length → (∀ (i : Nat) (v : V) (p : PyData), vs[i]? = some v → ps[i]? = some p → Dp K H v p) → DpAll K H vs ps
  | [], [], _, _ => .nil
  | [], _ :: _, h, _ => by simp at h
  | _ :: _, [], h, _ => by simp at h
  | v :: vs, p :: ps, h, f => .cons (f 0 v p rfl rfl) (dpAll_of (by simpa using h) fun i v p e1 e2 => f (i + 1) v p (by simpa using e1) (by simpa using e2))
theorem mapM_get {α β : Type} {f : α → Option β} : ∀ {xs : List α} {ys : List β}, xs.mapM f = some ys → ys.length = xs.length ∧ ∀ (i : Nat) (x : α) (y : β), xs[i]? = some x → ys[i]? = some y → f x = some y
  | [], ys, h => by
    rw [List.mapM_nil] at h
    cases h
    exact ⟨rfl, fun i x y e => by simp at e⟩
  | x :: xs, ys, h => by
    rw [List.mapM_cons] at h
    cases e1 : f x with
    | none => rw [e1] at h; cases h
    | some y =>
      rw [e1] at h
      cases e2 : xs.mapM f with
      | none => rw [e2] at h; cases h
      | some r =>
        rw [e2] at h
        cases h
        obtain ⟨l, g⟩ := mapM_get e2
        refine ⟨by simp [l], fun i a b h1 h2 => ?_⟩
        cases i with
        | zero => simp at h1 h2; subst h1; subst h2; exact e1
        | succ i => exact g i a b (by simpa using h1) (by simpa using h2)
theorem canAll {ps : List PyData} (h : ∀ p ∈ ps, PyData.canLay0 p = true) : PyData.canLayAll0 ps = true := by
  induction ps with
  | nil => rfl
  | cons p ps ih => rw [PyData.canLayAll0, h p List.mem_cons_self, ih fun q hq => h q (List.mem_cons_of_mem _ hq)]; rfl
theorem depthAllLe {n : Nat} {ps : List PyData} (h : ∀ p ∈ ps, PyData.depth p ≤ n) : PyData.depthAll ps ≤ n := by
  induction ps with
  | nil => exact Nat.zero_le _
  | cons p ps ih => rw [PyData.depthAll]; exact Nat.max_le.mpr ⟨h p List.mem_cons_self, ih fun q hq => h q (List.mem_cons_of_mem _ hq)⟩
/-- a value as data -/
theorem toP_rel {α : Al} {hd : Hd} (st : StR G α hd H) : ∀ (n : Nat) (d : D) (v : V) (p : PyData), RD G hd.length α H d v → toP hd n d = some p → Dp G.K H v p ∧ PyData.canLay0 p = true ∧ PyData.depth p ≤ n
  | 0, d, v, p, r, e => by cases e
  | n + 1, d, v, p, r, e => by
    have seq : ∀ {xs : List D} {vs : List V} {ps : List PyData}, RDs G hd.length α H xs vs → xs.mapM (toP hd n) = some ps → DpAll G.K H vs ps ∧ PyData.canLayAll0 ps = true ∧ PyData.depthAll ps ≤ n := fun {xs vs ps} rr em => by
      obtain ⟨l, g⟩ := mapM_get em
      have at_ : ∀ (i : Nat) (q : PyData), ps[i]? = some q → ∃ (x : D) (v : V), xs[i]? = some x ∧ vs[i]? = some v ∧ Dp G.K H v q ∧ PyData.canLay0 q = true ∧ PyData.depth q ≤ n := fun i q eq => by
        have hi : i < xs.length := by rw [← l]; exact (List.getElem?_eq_some_iff.mp eq).1
        have ex : xs[i]? = some xs[i] := List.getElem?_eq_getElem hi
        obtain ⟨v, ev, rv⟩ := rr.get ex
        exact ⟨_, v, ex, ev, toP_rel st n _ v q rv (g i _ q ex eq)⟩
      have mem : ∀ q ∈ ps, PyData.canLay0 q = true ∧ PyData.depth q ≤ n := fun q hq => by
        obtain ⟨i, hi, eq⟩ := List.mem_iff_getElem.mp hq
        obtain ⟨_, _, _, _, _, h1, h2⟩ := at_ i q (by rw [← eq]; exact List.getElem?_eq_getElem hi)
        exact ⟨h1, h2⟩
      refine ⟨dpAll_of (by rw [rr.length, l]) fun i v q ev eq => ?_, canAll fun q hq => (mem q hq).1, depthAllLe fun q hq => (mem q hq).2⟩
      obtain ⟨_, v', _, ev', h, _⟩ := at_ i q eq
      rw [ev] at ev'; cases ev'; exact h
    cases d with
    | non => cases e; obtain rfl := RDnon r; exact ⟨.non, rfl, Nat.zero_le _⟩
    | bl b => cases e; obtain rfl := RDbl r; exact ⟨.bl b, rfl, Nat.zero_le _⟩
    | int i => cases e; obtain rfl := RDint r; exact ⟨.int i, rfl, Nat.zero_le _⟩
    | str x =>
      obtain rfl := RDstr r
      simp only [toP] at e
      by_cases c : x.all (· < 0x110000) = true
      · rw [if_pos c] at e
        cases e
        refine ⟨.str _, ?_, Nat.zero_le _⟩
        simpa [PyData.canLay0, PyData.strOk] using c
      · rw [if_neg c] at e; cases e
    | tup xs =>
      obtain ⟨a, vs, rfl, t, rr⟩ := RDtup r
      simp only [toP] at e
      cases em : xs.mapM (toP hd n) with
      | none => rw [em] at e; cases e
      | some ps =>
        rw [em] at e
        cases e
        obtain ⟨h1, h2, h3⟩ := seq rr em
        exact ⟨.tup t h1, h2, Nat.succ_le_succ h3⟩
    | ob k =>
      unfold RD at r
      obtain ⟨hk, rfl⟩ := r
      simp only [toP] at e
      cases ek : hd[k]? with
      | none => rw [ek] at e; cases e
      | some o =>
        rw [ek] at e
        have ho := st.ob k o ek
        cases o with
        | lst xs =>
          obtain ⟨vs, e1, rr⟩ := ho
          cases em : xs.mapM (toP hd n) with
          | none => dsimp only at e; rw [em] at e; cases e
          | some ps =>
            dsimp only at e; rw [em] at e
            cases e
            obtain ⟨h1, h2, h3⟩ := seq rr em
            exact ⟨.lst (SqL.of e1) h1, h2, Nat.succ_le_succ h3⟩
        | scr xs =>
          obtain ⟨vs, ⟨o, e1⟩, rr⟩ := ho
          cases em : xs.mapM (toP hd n) with
          | none => dsimp only at e; rw [em] at e; cases e
          | some ps =>
            dsimp only at e; rw [em] at e
            cases e
            obtain ⟨h1, h2, h3⟩ := seq rr em
            exact ⟨.lst (.inl (.inr ⟨o, e1⟩)) h1, h2, Nat.succ_le_succ h3⟩
        | dct l kvs => cases e
        | ins c fs => cases e
    | fn f => cases e
    | ex c => cases e
    | clo l vs => cases e
    | junk => cases e
theorem shaped_of {p : PyData} (h1 : PyData.canLay0 p = true) (h2 : PyData.depth p ≤ 40) : SeqAt.shaped p = true := by
  unfold SeqAt.shaped
  rw [h1, decide_eq_true (by omega : PyData.depth p ≤ 64)]
  rfl
/-- two values compared -/
def rc2 (G : Gx) (g : D → D → Hd → R Bool) : R2 := fun x y H Q => ∃ α hd d e r, StR G α hd H ∧ RD G hd.length α H d x ∧ RD G hd.length α H e y ∧ g d e hd = .ok r ∧ Q (.bl r) H
theorem pyEq_rel {α : Al} {hd : Hd} {d e : D} {x y : V} {r : Bool} (st : StR G α hd H) (rd : RD G hd.length α H d x) (re : RD G hd.length α H e y) (h : pyEq hd d e = some r) :
    ∃ p q, Dp G.K H x p ∧ Dp G.K H y q ∧ SeqAt.shaped p = true ∧ SeqAt.shaped q = true ∧ r = PyData.eqv p q := by
  unfold pyEq at h
  cases e1 : toP hd 40 d with
  | none => rw [e1] at h; cases h
  | some p =>
    cases e2 : toP hd 40 e with
    | none => rw [e1, e2] at h; cases h
    | some q =>
      rw [e1, e2] at h
      cases h
      obtain ⟨h1, h2, h3⟩ := toP_rel st 40 d x p rd e1
      obtain ⟨k1, k2, k3⟩ := toP_rel st 40 e y q re e2
      exact ⟨p, q, h1, k1, shaped_of h2 h3, shaped_of k2 k3, rfl⟩
theorem c_eq (hK : X.K = G.K) (hu : X.A.units + 64 < cLine) : OpR X (compareOp .Eq) (rc2 G (cmpD .eq)) := by
  intro pins s σ H x y v u Q I rx ry h
  obtain ⟨α, hd, d, e, r, st, rd, re, z, q⟩ := h
  cases eh : pyEq hd d e with
  | none => simp only [cmpD, eh] at z; cases z
  | some b =>
    simp only [cmpD, eh] at z
    cases z
    obtain ⟨p, k, h1, h2, h3, h4, rfl⟩ := pyEq_rel st rd re eh
    exact op_eqD hu pins s σ H x y v u Q I rx ry ⟨p, k, hK ▸ h1, hK ▸ h2, h3, h4, q⟩
theorem c_ne (hK : X.K = G.K) (hu : X.A.units + 64 < cLine) : OpR X (compareOp .NotEq) (rc2 G (cmpD .ne)) := by
  intro pins s σ H x y v u Q I rx ry h
  obtain ⟨α, hd, d, e, r, st, rd, re, z, q⟩ := h
  cases eh : pyEq hd d e with
  | none => simp only [cmpD, eh] at z; cases z
  | some b =>
    simp only [cmpD, eh] at z
    cases z
    obtain ⟨p, k, h1, h2, h3, h4, rfl⟩ := pyEq_rel st rd re eh
    exact op_neD hu pins s σ H x y v u Q I rx ry ⟨p, k, hK ▸ h1, hK ▸ h2, h3, h4, q⟩
theorem c_lt : OpR X (compareOp .Lt) (rc2 G (cmpD .lt)) := by
  intro pins s σ H x y v u Q I rx ry h
  obtain ⟨α, hd, d, e, r, st, rd, re, z, q⟩ := h
  cases d <;> cases e <;> first | (cases z; done) | skip
  obtain rfl := RDint rd; obtain rfl := RDint re
  cases z
  exact op_lt pins s σ H _ _ v u Q I rx ry ⟨_, _, rfl, rfl, q⟩
theorem c_le : OpR X (compareOp .LtE) (rc2 G (cmpD .le)) := by
  intro pins s σ H x y v u Q I rx ry h
  obtain ⟨α, hd, d, e, r, st, rd, re, z, q⟩ := h
  cases d <;> cases e <;> first | (cases z; done) | skip
  obtain rfl := RDint rd; obtain rfl := RDint re
  cases z
  exact op_le pins s σ H _ _ v u Q I rx ry ⟨_, _, rfl, rfl, q⟩
theorem c_gt : OpR X (compareOp .Gt) (rc2 G (cmpD .gt)) := by
  intro pins s σ H x y v u Q I rx ry h
  obtain ⟨α, hd, d, e, r, st, rd, re, z, q⟩ := h
  cases d <;> cases e <;> first | (cases z; done) | skip
  obtain rfl := RDint rd; obtain rfl := RDint re
  cases z
  exact op_gt pins s σ H _ _ v u Q I rx ry ⟨_, _, rfl, rfl, q⟩
theorem c_ge : OpR X (compareOp .GtE) (rc2 G (cmpD .ge)) := by
  intro pins s σ H x y v u Q I rx ry h
  obtain ⟨α, hd, d, e, r, st, rd, re, z, q⟩ := h
  cases d <;> cases e <;> first | (cases z; done) | skip
  obtain rfl := RDint rd; obtain rfl := RDint re
  cases z
  exact op_ge pins s σ H _ _ v u Q I rx ry ⟨_, _, rfl, rfl, q⟩
theorem RDnon_iff {n : Nat} {α : Al} {d : D} {x : V} (r : RD G n α H d x) : decide (x = .non) = decide (d = .non) := by
  cases d with
  | non => obtain rfl := RDnon r; rfl
  | bl b => obtain rfl := RDbl r; rfl
  | int i => obtain rfl := RDint r; rfl
  | str b => obtain rfl := RDstr r; rfl
  | tup xs => obtain ⟨a, vs, rfl, _⟩ := RDtup r; rfl
  | ob k => unfold RD at r; obtain ⟨_, rfl⟩ := r; rfl
  | fn f => unfold RD at r; rw [r]; rfl
  | ex c => unfold RD at r; obtain ⟨a, rfl, _⟩ := r; rfl
  | clo l vs => unfold RD at r; obtain ⟨f, cl, ws, rfl, _⟩ := r; rfl
  | junk => unfold RD at r; obtain ⟨a, rfl⟩ := r; rfl
theorem c_is : OpR X (compareOp .Is) (rc2 G (cmpD .is_)) := by
  intro pins s σ H x y v u Q I rx ry h
  obtain ⟨α, hd, d, e, r, st, rd, re, z, q⟩ := h
  cases e with
  | non =>
    obtain rfl := RDnon re
    cases z
    exact op_isN pins s σ H x _ v u Q I rx ry ⟨rfl, by rw [RDnon_iff rd]; exact q⟩
  | bl c =>
    obtain rfl := RDbl re
    cases d <;> first | (cases z; done) | skip
    obtain rfl := RDbl rd
    cases z
    exact op_isBl pins s σ H _ _ v u Q I rx ry ⟨_, _, rfl, rfl, q⟩
  | _ => cases z
theorem c_isnot : OpR X (compareOp .IsNot) (rc2 G (cmpD .isnot)) := by
  intro pins s σ H x y v u Q I rx ry h
  obtain ⟨α, hd, d, e, r, st, rd, re, z, q⟩ := h
  cases e with
  | non =>
    obtain rfl := RDnon re
    cases z
    exact op_notN pins s σ H x _ v u Q I rx ry ⟨rfl, by rw [RDnon_iff rd]; exact q⟩
  | bl c =>
    obtain rfl := RDbl re
    cases d <;> first | (cases z; done) | skip
    obtain rfl := RDbl rd
    cases z
    exact op_notBl pins s σ H _ _ v u Q I rx ry ⟨_, _, rfl, rfl, q⟩
  | _ => cases z
theorem vOf_rel {n : Nat} {α : Al} {d : D} {x w : V} (r : RD G n α H d x) (e : vOf d = some w) : x = w ∧ flatV w = true := by
  cases d with
  | non => cases e; exact ⟨RDnon r, rfl⟩
  | bl b => cases e; exact ⟨RDbl r, rfl⟩
  | int i => cases e; exact ⟨RDint r, rfl⟩
  | str b => cases e; exact ⟨RDstr r, rfl⟩
  | _ => cases e
theorem vOfs_rel {n : Nat} {α : Al} : ∀ {xs : List D} {vs ws : List V}, RDs G n α H xs vs → xs.mapM vOf = some ws → vs = ws ∧ ws.all flatV = true
  | [], vs, ws, r, e => by
    rw [List.mapM_nil] at e
    cases e
    unfold RDs at r
    exact ⟨r, rfl⟩
  | x :: xs, vs, ws, r, e => by
    unfold RDs at r
    obtain ⟨v, us, rfl, r1, r2⟩ := r
    rw [List.mapM_cons] at e
    cases e1 : vOf x with
    | none => rw [e1] at e; cases e
    | some y =>
      cases e2 : xs.mapM vOf with
      | none => rw [e1, e2] at e; cases e
      | some ys =>
        rw [e1, e2] at e
        cases e
        obtain ⟨rfl, f⟩ := vOf_rel r1 e1
        obtain ⟨rfl, g⟩ := vOfs_rel r2 e2
        exact ⟨rfl, by rw [List.all_cons, f, g]; rfl⟩
theorem toP_ob {hd : Hd} {n k : Nat} {xs : List D} {ps : List PyData} (ek : hd[k]? = some (.lst xs)) (e : xs.mapM (toP hd n) = some ps) : toP hd (n + 1) (.ob k) = some (.list ps) := by
  simp only [toP, ek, e]; rfl
/-- in, with its answer turned -/
theorem c_inG (hK : X.K = G.K) (hu : X.A.units + 65 < cLine) {α : Al} {hd : Hd} {d e : D} {r : Bool} (st : StR G α hd H) (rd : RD G hd.length α H d x) (re : RD G hd.length α H e y) (z : inD d e hd = .ok r) :
    (∃ (c : Nat) (t : List Nat), x = .str ⟨#[c]⟩ ∧ y = .str ⟨t.toArray⟩ ∧ r = decide (c ∈ t)) ∨
    (∃ p xs, y = .ref p ∧ SqT X.K H p xs ∧ flatV x = true ∧ xs.all flatV = true ∧ r = inV x xs) ∨
    (∃ d ds, Dp X.K H x d ∧ Dp X.K H y (.list ds) ∧ SeqAt.shaped d = true ∧ SeqAt.shaped (.list ds) = true ∧ r = ds.any fun z => PyData.eqv z d) := by
  cases e with
  | str t =>
    cases d with
    | str a =>
      cases a with
      | nil => cases z
      | cons c a =>
        cases a with
        | nil => cases z; exact .inl ⟨c, t, by rw [RDstr rd], RDstr re, rfl⟩
        | cons c' a => cases z
    | _ => cases z
  | tup xs =>
    obtain ⟨p, vs, rfl, t, rr⟩ := RDtup re
    simp only [inD] at z
    cases e1 : vOf d with
    | none => rw [e1] at z; cases z
    | some w =>
      cases e2 : xs.mapM vOf with
      | none => rw [e1, e2] at z; cases z
      | some ws =>
        rw [e1, e2] at z
        cases z
        obtain ⟨rfl, f⟩ := vOf_rel rd e1
        obtain ⟨rfl, g⟩ := vOfs_rel rr e2
        exact .inr (.inl ⟨p, vs, rfl, hK ▸ t, f, g, rfl⟩)
  | ob k =>
    unfold RD at re
    obtain ⟨hk, rfl⟩ := re
    simp only [inD] at z
    cases ek : hd[k]? with
    | none => rw [ek] at z; cases z
    | some o =>
      rw [ek] at z
      cases o with
      | lst xs =>
        dsimp only at z
        cases e1 : toP hd 40 d with
        | none => rw [e1] at z; cases z
        | some p =>
          cases e2 : xs.mapM (toP hd 40) with
          | none => rw [e1, e2] at z; cases z
          | some ps =>
            rw [e1, e2] at z
            cases z
            obtain ⟨h1, h2, h3⟩ := toP_rel st 40 d x p rd e1
            have rl : RD G hd.length α H (.ob k) (.ref (α k)) := by unfold RD; exact ⟨hk, rfl⟩
            have el : toP hd (40 + 1) (.ob k) = some (.list ps) := toP_ob ek e2
            obtain ⟨k1, k2, k3⟩ := toP_rel st 41 (.ob k) _ _ rl el
            refine .inr (.inr ⟨p, ps, hK ▸ h1, hK ▸ k1, shaped_of h2 h3, ?_, rfl⟩)
            unfold SeqAt.shaped
            rw [k2, decide_eq_true (by omega : PyData.depth (.list ps) ≤ 64)]
            rfl
      | _ => cases z
  | _ => cases z
theorem c_in (hK : X.K = G.K) (hu : X.A.units + 65 < cLine) : OpR X (compareOp .In) (rc2 G (cmpD .in_)) := by
  intro pins s σ H x y v u Q I rx ry h
  obtain ⟨α, hd, d, e, r, st, rd, re, z, q⟩ := h
  rcases c_inG hK hu st rd re z with ⟨c, t, rfl, rfl, rfl⟩ | ⟨p, xs, rfl, t, f, g, rfl⟩ | ⟨d, ds, h1, h2, h3, h4, rfl⟩
  · exact op_in_sign pins s σ H _ _ v u Q I rx ry ⟨c, _, rfl, rfl, q⟩
  · exact op_in_seq pins s σ H _ _ v u Q I rx ry ⟨p, xs, rfl, .inr t, f, g, by simpa using q⟩
  · exact op_inD hu pins s σ H _ _ v u Q I rx ry ⟨d, ds, h1, h2, h3, h4, q⟩
theorem c_notin (hK : X.K = G.K) (hu : X.A.units + 65 < cLine) : OpR X (compareOp .NotIn) (rc2 G (cmpD .notin)) := by
  intro pins s σ H x y v u Q I rx ry h
  obtain ⟨α, hd, d, e, r, st, rd, re, z, q⟩ := h
  have z : (inD d e hd >>= fun r => R.ok (!r)) = R.ok r := z
  cases ez : inD d e hd with
  | no => rw [ez] at z; cases z
  | ex c h => rw [ez] at z; cases z
  | ok r' =>
    rw [ez] at z
    cases z
    rcases c_inG hK hu st rd re ez with ⟨c, t, rfl, rfl, rfl⟩ | ⟨p, xs, rfl, t, f, g, rfl⟩ | ⟨d, ds, h1, h2, h3, h4, rfl⟩
    · exact op_notIn_sign pins s σ H _ _ v u Q I rx ry ⟨c, _, rfl, rfl, q⟩
    · exact op_notIn_seq pins s σ H _ _ v u Q I rx ry ⟨p, xs, rfl, .inr t, f, g, by simpa using q⟩
    · exact op_notInD hu pins s σ H _ _ v u Q I rx ry ⟨d, ds, h1, h2, h3, h4, q⟩
def cOf : Cop → CmpOp
  | .eq => .Eq | .ne => .NotEq | .lt => .Lt | .le => .LtE | .gt => .Gt | .ge => .GtE | .is_ => .Is | .isnot => .IsNot | .in_ => .In | .notin => .NotIn
theorem c_op (hK : X.K = G.K) (hu : X.A.units + 65 < cLine) : ∀ op, OpR X (compareOp (cOf op)) (rc2 G (cmpD op))
  | .eq => c_eq hK (Nat.lt_of_succ_lt hu) | .ne => c_ne hK (Nat.lt_of_succ_lt hu) | .lt => c_lt | .le => c_le | .gt => c_gt | .ge => c_ge | .is_ => c_is | .isnot => c_isnot | .in_ => c_in hK hu | .notin => c_notin hK hu
end
end Mp
set_option maxHeartbeats 1000000
/-! MiniPy, part 4: each expression form. -/
namespace Mp
open PySem PySem.Spec PyProof.Rows L2
/-! ### side conditions of the syntax -/
def isStar : Expr → Bool
  | .Starred _ _ => true
  | _ => false
theorem starEach_cons {e : Expr} {es : List Expr} {env : Env} (h : isStar e = false) : starEach (e :: es) env = (false, eval e env) :: starEach es env := by
  cases e <;> first | rfl | (cases h; done)
def plainT : Expr → Bool
  | .UnaryOp .Not _ _ => false
  | .BoolOp _ _ _ => false
  | .IfExp _ _ _ _ => false
  | .Compare _ _ _ _ => false
  | _ => true
theorem isTrue_plainT {e : Expr} {env : Env} (h : plainT e = true) (whole : Sem Value) : isTrue e env whole = (do let v ← whole; standAt e.pos; holding [v] (truthy v)) := by
  cases e <;> first | rfl | (cases h; done) | skip
  rename_i op x pos
  cases op <;> first | rfl | (cases h; done)
def abOk : Expr → Bool
  | .Call (.Name id _) [] [] _ => id != "super"
  | _ => true
theorem attributeBase_ok {o : Expr} {m : Str} {env : Env} (h : abOk o = true) (whole : Sem Value) : attributeBase o m env whole = whole := by
  cases o <;> first | rfl | skip
  rename_i f args kws pos
  cases f <;> first | rfl | skip
  rename_i id p
  cases args <;> first | rfl | skip
  cases kws <;> first | rfl | skip
  have h' : (id != "super") = true := h
  unfold attributeBase
  simp only [h', Bool.true_or, if_true]
def notSlice : Expr → Bool
  | .Slice _ _ _ _ => false
  | _ => true
theorem plainIx_of {e : Expr} (h : notSlice e = true) : PlainIx e := fun o i => by
  cases e <;> first | rfl | (cases h; done)
def notSet : Expr → Bool
  | .Set _ _ _ => false
  | _ => true
theorem folded_of {e : Expr} {env : Env} (h : notSet e = true) (x : Value) : foldedSetIterable e env x = pure x := by
  cases e <;> first | rfl | (cases h; done)
theorem noBehind {op : CmpOp} {e : Expr} (h : notSet e = true) : behindInMarks op e = false := by
  cases e <;> first | rfl | (cases h; done)
theorem noLast {op op' : CmpOp} {b c : Expr} (h : notSet c = true) : lastMarks [op, op'] [b, c] = false := by
  show behindInMarks op' c = false
  exact noBehind h
theorem noPlain : ∀ {es : List Expr} {env : Env} {pos : Pos}, es.all (fun e => !isStar e) = true → (backTo pos (starEach es env)).any (·.1) = false
  | [], env, pos, _ => rfl
  | e :: es, env, pos, h => by
    rw [List.all_cons, Bool.and_eq_true] at h
    have h1 : isStar e = false := by simpa using h.1
    have ih := noPlain (env := env) (pos := pos) h.2
    rw [starEach_cons h1]
    revert ih
    cases es with
    | nil => intro _; rfl
    | cons e2 r =>
      rw [List.all_cons, Bool.and_eq_true] at h
      rw [starEach_cons (by simpa using h.2.1)]
      intro ih
      simp only [backTo, List.map_cons, List.any_cons, Bool.false_or] at ih ⊢
      first | exact ih | simpa using ih
theorem dBl {G : Gx} {n : Nat} {α : Al} {H : Hp} {i : Bool} : RD G n α H (.bl i) (.bl i) := by unfold RD; rfl
theorem dInt {G : Gx} {n : Nat} {α : Al} {H : Hp} {i : Int} : RD G n α H (.int i) (.int i) := by unfold RD; rfl
theorem rRbl {G : Gx} {H0 : Hp} {n : Nat} {α : Al} {H : Hp} {i : Bool} : rR G H0 n α H (.v (.bl i)) (.bl i) := by show RD G n α H (.bl i) (.bl i); exact dBl
theorem rRint {G : Gx} {H0 : Hp} {n : Nat} {α : Al} {H : Hp} {i : Int} : rR G H0 n α H (.v (.int i)) (.int i) := by show RD G n α H (.int i) (.int i); exact dInt
theorem RDbl' {G : Gx} {H0 : Hp} {n : Nat} {α : Al} {H : Hp} {i : Bool} {x : V} (r : rD G H0 n α H (.bl i) x) : x = .bl i := RDbl (show RD G n α H (.bl i) x from r)
theorem RDint' {G : Gx} {H0 : Hp} {n : Nat} {α : Al} {H : Hp} {i : Int} {x : V} (r : rD G H0 n α H (.int i) x) : x = .int i := RDint (show RD G n α H (.int i) x from r)
theorem RRbl {G : Gx} {H0 : Hp} {n : Nat} {α : Al} {H : Hp} {i : Bool} {x : V} (r : rR G H0 n α H (.v (.bl i)) x) : x = .bl i := RDbl (show RD G n α H (.bl i) x from r)
section
variable {G : Gx} {X : Cx} {W : WX} {pos : Pos} {a b c : Expr} {fa fb fc : Sl → Hd → R (Rv × Hd)}
theorem de_bin (ok : Ok G X W) (op : Bop) (ha : PE X a (tR G W fa)) (hb : PE X b (tR G W fb)) : PE X (.BinOp a (opOf op) b pos) (tR G W fun σ h => vl (fa σ h) >>= fun p => vl (fb σ p.2) >>= fun q => rv (binD op p.1 q.1 q.2)) :=
  (pe_op (b_op ok.K op) (pe_vl ha) (pe_vl hb)).imp fun σ H Q h => tOp_of h
theorem tCmp_of {g : D → D → Hd → R Bool} (ng : ∀ d e h c h', g d e h ≠ .ex c h') {σ : L2.St} {H : Hp} {Q : VK} (h : tR G W (fun σ h => vl (fa σ h) >>= fun p => vl (fb σ p.2) >>= fun q => g p.1 q.1 q.2 >>= fun r => .ok (.v (.bl r), q.2)) σ H Q) :
    tOp (rc2 G g) (tE G W fun σ h => vl (fa σ h)) (tE G W fun σ h => vl (fb σ h)) σ H Q := by
  obtain ⟨α, σD, hd, s, l, z⟩ := h
  refine tX_bind (Rel := rD G) s l z fun x h1 α1 v H1 e x1 s1 l1 r z => ?_
  refine tX_bind (Rel := rD G) s1 l1 z fun y h2 α2 u H2 e x2 s2 l2 r2 z => ?_
  dsimp only at z
  cases eg : g x y h2 with
  | no => rw [eg] at z; exact z.elim
  | ex c h' => exact absurd eg (ng _ _ _ _ _)
  | ok t =>
    rw [eg] at z
    exact ⟨α2, h2, x, y, t, s2, RD.mono x2.toEy (fun i hi => s1.at_ hi) x v r, r2, eg, Lnd.ok (Rel := rR G) (b := Rv.v (.bl t)) z s2 rRbl⟩
theorem inD_nx (a b : D) (h : Hd) (c : Nat) (h' : Hd) : inD a b h ≠ .ex c h' := by
  unfold inD
  repeat' split
  all_goals (intro e; cases e)
theorem R.of_nx {α : Type} (o : Option α) (c : Nat) (h' : Hd) : R.of o ≠ .ex c h' := by
  cases o <;> (intro e; cases e)
theorem cmpD_nx (op : Cop) (d e : D) (h : Hd) (c : Nat) (h' : Hd) : cmpD op d e h ≠ .ex c h' := by
  cases op
  case eq => exact R.of_nx _ _ _
  case ne => exact R.of_nx _ _ _
  case in_ => exact inD_nx _ _ _ _ _
  case notin =>
    show (inD d e h >>= fun r => R.ok (!r)) ≠ _
    cases ei : inD d e h with
    | no => intro q; cases q
    | ok r => intro q; cases q
    | ex k h2 => exact absurd ei (inD_nx _ _ _ _ _)
  all_goals
    simp only [cmpD]
    repeat' split
    all_goals (intro q; cases q)
theorem de_cmp (ok : Ok G X W) (op : Cop) (ha : PE X a (tR G W fa)) (hb : PE X b (tR G W fb)) (hm : notSet b = true) : PE X (.Compare a [cOf op] [b] pos) (tR G W fun σ h => vl (fa σ h) >>= fun p => vl (fb σ p.2) >>= fun q => cmpD op p.1 q.1 q.2 >>= fun r => .ok (.v (.bl r), q.2)) :=
  (pe_cmpR (c_op ok.K ok.un op) (pe_vl ha) (pe_vl hb) (noBehind hm)).imp fun σ H Q h => tCmp_of (cmpD_nx op) h
/-- a reading that ends in a bool, as a test -/
theorem tTest_of {f : Sl → Hd → R (Rv × Hd)} {t : TE} {σ : L2.St} {H : Hp} {Q : Bool → Hp → Prop} (ht : ∀ σ H Q, tR G W f σ H Q → t σ H Q) (h : tT G W (fun σ h => ts (f σ h)) σ H Q) : tTest t σ H Q := by
  obtain ⟨α, σD, hd, s, l, z⟩ := h
  refine ht σ H _ (tX_bind (Rel := rR G) (k := fun p => p.1.val p.2 >>= fun p => truD p.1 >>= fun b => R.ok (b, p.2)) s l (by
    have e : (ts (f σD hd)) = (f σD hd >>= fun p => p.1.val p.2 >>= fun p => truD p.1 >>= fun b => R.ok (b, p.2)) := by
      unfold ts vl
      cases f σD hd <;> rfl
    rw [← e]; exact z) fun x h1 α1 v H1 e x1 s1 l1 r z => ?_)
  cases x with
  | l xs => exact z.elim
  | v d =>
    cases d with
    | bl k => exact ⟨k, RRbl r, Lnd.ok (Rel := rB) (b := k) z s1 rfl⟩
    | _ => exact z.elim
theorem dt_val (h : PE X a (tR G W fa)) (hp : plainT a = true) : PT X a (tT G W fun σ h => ts (fa σ h)) := pt_ts h (isTrue_plainT hp)
theorem dt_cmp (ok : Ok G X W) (op : Cop) (ha : PE X a (tR G W fa)) (hb : PE X b (tR G W fb)) (hm : notSet b = true) : PT X (.Compare a [cOf op] [b] pos) (tT G W fun σ h => ts (vl (fa σ h) >>= fun p => vl (fb σ p.2) >>= fun q => cmpD op p.1 q.1 q.2 >>= fun r => .ok (.v (.bl r), q.2))) :=
  (pt_cmpR (c_op ok.K ok.un op) (pe_vl ha) (pe_vl hb) (noBehind hm)).imp fun σ H Q h => tTest_of (fun σ H Q => tCmp_of (cmpD_nx op)) h
theorem tChn_of {g g2 : D → D → Hd → R Bool} (ng : ∀ d e h c h', g d e h ≠ .ex c h') (ng2 : ∀ d e h c h', g2 d e h ≠ .ex c h') {σ : L2.St} {H : Hp} {Q : VK}
    (h : tR G W (fun σ h => vl (fa σ h) >>= fun p => vl (fb σ p.2) >>= fun q => g p.1 q.1 q.2 >>= fun r => if r then vl (fc σ q.2) >>= fun z => g2 q.1 z.1 z.2 >>= fun r2 => .ok (.v (.bl r2), z.2) else .ok (.v (.bl false), q.2)) σ H Q) :
    tChain (rc2 G g) (rc2 G g2) (tE G W fun σ h => vl (fa σ h)) (tE G W fun σ h => vl (fb σ h)) (tE G W fun σ h => vl (fc σ h)) σ H Q := by
  obtain ⟨α, σD, hd, s, l, z⟩ := h
  refine tX_bind (Rel := rD G) s l z fun x h1 α1 v H1 e x1 s1 l1 r z => ?_
  refine tX_bind (Rel := rD G) s1 l1 z fun y h2 α2 u H2 e x2 s2 l2 r2 z => ?_
  dsimp only at z
  cases eg : g x y h2 with
  | no => rw [eg] at z; exact z.elim
  | ex c h' => exact absurd eg (ng _ _ _ _ _)
  | ok t =>
    rw [eg] at z
    refine ⟨α2, h2, x, y, t, s2, RD.mono x2.toEy (fun i hi => s1.at_ hi) x v r, r2, eg, t, rfl, ?_⟩
    cases t with
    | false => exact Lnd.ok (Rel := rR G) (b := Rv.v (.bl false)) z s2 rRbl
    | true =>
      refine tX_bind (Rel := rD G) s2 l2 z fun w h3 α3 m H3 e x3 s3 l3 r3 z => ?_
      dsimp only at z
      cases eg2 : g2 y w h3 with
      | no => rw [eg2] at z; exact z.elim
      | ex c h' => exact absurd eg2 (ng2 _ _ _ _ _)
      | ok t2 =>
        rw [eg2] at z
        exact ⟨α3, h3, y, w, t2, s3, RD.mono x3.toEy (fun i hi => s2.at_ hi) y u r2, r3, eg2, Lnd.ok (Rel := rR G) (b := Rv.v (.bl t2)) z s3 rRbl⟩
theorem de_chn (ok : Ok G X W) (o p : Cop) (ha : PE X a (tR G W fa)) (hb : PE X b (tR G W fb)) (hc : PE X c (tR G W fc)) (hm : notSet c = true) :
    PE X (.Compare a [cOf o, cOf p] [b, c] pos) (tR G W fun σ h => vl (fa σ h) >>= fun q => vl (fb σ q.2) >>= fun q' => cmpD o q.1 q'.1 q'.2 >>= fun r => if r then vl (fc σ q'.2) >>= fun z => cmpD p q'.1 z.1 z.2 >>= fun r2 => .ok (.v (.bl r2), z.2) else .ok (.v (.bl false), q'.2)) :=
  (pe_chain (c_op ok.K ok.un o) (c_op ok.K ok.un p) (pe_vl ha) (pe_vl hb) (pe_vl hc) (noLast hm)).imp fun σ H Q h => tChn_of (cmpD_nx o) (cmpD_nx p) h
theorem dt_chn (ok : Ok G X W) (o p : Cop) (ha : PE X a (tR G W fa)) (hb : PE X b (tR G W fb)) (hc : PE X c (tR G W fc)) (hm : notSet c = true) :
    PT X (.Compare a [cOf o, cOf p] [b, c] pos) (tT G W fun σ h => ts (vl (fa σ h) >>= fun q => vl (fb σ q.2) >>= fun q' => cmpD o q.1 q'.1 q'.2 >>= fun r => if r then vl (fc σ q'.2) >>= fun z => cmpD p q'.1 z.1 z.2 >>= fun r2 => .ok (.v (.bl r2), z.2) else .ok (.v (.bl false), q'.2))) :=
  (pt_chain (c_op ok.K ok.un o) (c_op ok.K ok.un p) (pe_vl ha) (pe_vl hb) (pe_vl hc) (noLast hm)).imp fun σ H Q h => tTest_of (fun σ H Q => tChn_of (cmpD_nx o) (cmpD_nx p)) h
/-! ### not, and, or, if -/
theorem tR_ts {f : Sl → Hd → R (Rv × Hd)} {α : Al} {σ : L2.St} {σD : Sl} {H : Hp} {hd : Hd} {β γ : Type} {Rel : Rl β γ} [Dn Rel] {k : Bool × Hd → R (β × Hd)} {Q2 : γ → Hp → Prop} {Q : Bool → Hp → Prop} (s : StR G α hd H) (l : SlR G hd.length α H σD σ)
    (z : Lnd G Rel (fun c d H1 => W c d σ H1) hd.length α H Q2 (ts (f σD hd) >>= k))
    (hk : ∀ t h1 α1 H1, Ex hd.length α H h1.length α1 H1 → StR G α1 h1 H1 → SlR G h1.length α1 H1 σD σ → Lnd G Rel (fun c d H1 => W c d σ H1) h1.length α1 H1 Q2 (k (t, h1)) → Q t H1) : tT G W (fun σ h => ts (f σ h)) σ H Q :=
  tX_bind (Rel := rB) s l z fun t h1 α1 v H1 e x1 s1 l1 r z => by
    have r' : t = v := r
    subst r'
    exact hk t h1 α1 H1 x1 s1 l1 z
theorem de_not (hp : plainT a = true ∨ True) (ha : PE X a (tR G W fa)) : PE X (.UnaryOp .Not a pos) (tR G W fun σ h => ts (fa σ h) >>= fun p => .ok (.v (.bl (!p.1)), p.2)) :=
  (pe_not (pe_vl ha)).imp fun σ H Q ⟨α, σD, hd, s, l, z⟩ => by
    have e : ∀ r : R (Rv × Hd), (ts r >>= fun p => R.ok (Rv.v (.bl (!p.1)), p.2)) = (vl r >>= fun p => truD p.1 >>= fun b => R.ok (Rv.v (.bl (!b)), p.2)) := fun r => by
      unfold ts
      cases vl r with
      | no => rfl
      | ex c h => rfl
      | ok p => 
        show ((truD p.1 >>= fun b => R.ok (b, p.2)) >>= _) = (truD p.1 >>= _)
        cases truD p.1 <;> rfl
    dsimp only at z
    rw [e] at z
    refine tX_bind (Rel := rD G) s l z fun x h1 α1 v H1 e x1 s1 l1 r z => ?_
    cases x with
    | bl k => exact ⟨k, RDbl' r, Lnd.ok (Rel := rR G) (b := Rv.v (.bl (!k))) z s1 rRbl⟩
    | _ => exact z.elim
theorem dt_not (ha : PT X a (tT G W fun σ h => ts (fa σ h))) : PT X (.UnaryOp .Not a pos) (tT G W fun σ h => ts (ts (fa σ h) >>= fun p => .ok (.v (.bl (!p.1)), p.2))) :=
  (pt_not ha).imp fun σ H Q ⟨α, σD, hd, s, l, z⟩ => by
    have e : ∀ r : R (Rv × Hd), ts (ts r >>= fun p => R.ok (Rv.v (.bl (!p.1)), p.2)) = (ts r >>= fun p => R.ok (!p.1, p.2)) := fun r => by
      cases ts r <;> rfl
    dsimp only at z
    rw [e] at z
    exact tR_ts s l z fun t h1 α1 H1 x1 s1 l1 z => Lnd.ok (Rel := rB) (b := !t) z s1 rfl
variable {rest : List Expr}
theorem de_one {op : BoolOp} (ha : PE X a (tR G W fa)) : PE X (.BoolOp op [a] pos) (tR G W fa) := pe_one ha
theorem de_and (ha : PE X a (tR G W fa)) (hb : PE X (.BoolOp .And (b :: rest) pos) (tR G W fb)) : PE X (.BoolOp .And (a :: b :: rest) pos) (tR G W fun σ h => vl (fa σ h) >>= andR fun h => fb σ h) :=
  (L2.pe_and (pe_vl ha) hb).imp fun σ H Q ⟨α, σD, hd, s, l, z⟩ => by
    refine tX_bind (Rel := rD G) s l z fun x h1 α1 v H1 e x1 s1 l1 r z => ?_
    cases x with
    | bl k =>
      refine ⟨k, RDbl' r, ?_⟩
      cases k with
      | true => exact ⟨α1, σD, h1, s1, l1, z⟩
      | false => exact Lnd.ok (Rel := rR G) (b := Rv.v (.bl false)) z s1 rRbl
    | _ => exact z.elim
theorem de_or (ha : PE X a (tR G W fa)) (hb : PE X (.BoolOp .Or (b :: rest) pos) (tR G W fb)) : PE X (.BoolOp .Or (a :: b :: rest) pos) (tR G W fun σ h => vl (fa σ h) >>= orR fun h => fb σ h) :=
  (L2.pe_or (pe_vl ha) hb).imp fun σ H Q ⟨α, σD, hd, s, l, z⟩ => by
    refine tX_bind (Rel := rD G) s l z fun x h1 α1 v H1 e x1 s1 l1 r z => ?_
    cases x with
    | bl k =>
      refine ⟨k, RDbl' r, ?_⟩
      cases k with
      | false => exact ⟨α1, σD, h1, s1, l1, z⟩
      | true => exact Lnd.ok (Rel := rR G) (b := Rv.v (.bl true)) z s1 rRbl
    | _ => exact z.elim
theorem dw_one {op : BoolOp} (hop : op = .And ∨ op = .Or) (ha : PT X a (tT G W fun σ h => ts (fa σ h))) : PW X (.BoolOp op [a] pos) (tT G W fun σ h => ts (fa σ h)) := by
  rcases hop with rfl | rfl
  · exact pw_and1 ha
  · exact pw_or1 ha
theorem _root_.L2.PW.imp {X : Cx} {e : Expr} {t t' : TT} (h : PW X e t) (hi : ∀ σ H Q, t' σ H Q → t σ H Q) : PW X e t' := ⟨fun wh pins s σ H Q I q => h.run wh pins s σ H Q I (hi σ H Q q)⟩
theorem andE : ∀ (r : R (Rv × Hd)) (k : Hd → R (Rv × Hd)), ts (vl r >>= andR k) = (ts r >>= fun p => if p.1 then ts (k p.2) else R.ok (false, p.2)) := fun r k => by
  unfold ts
  cases vl r with
  | no => rfl
  | ex c h => rfl
  | ok p =>
    obtain ⟨d, h⟩ := p
    cases d with
    | bl b => cases b <;> rfl
    | _ => rfl
theorem orE : ∀ (r : R (Rv × Hd)) (k : Hd → R (Rv × Hd)), ts (vl r >>= orR k) = (ts r >>= fun p => if p.1 then R.ok (true, p.2) else ts (k p.2)) := fun r k => by
  unfold ts
  cases vl r with
  | no => rfl
  | ex c h => rfl
  | ok p =>
    obtain ⟨d, h⟩ := p
    cases d with
    | bl b => cases b <;> rfl
    | _ => rfl
theorem dw_and (ha : PT X a (tT G W fun σ h => ts (fa σ h))) (hb : PW X (.BoolOp .And (b :: rest) pos) (tT G W fun σ h => ts (fb σ h))) : PW X (.BoolOp .And (a :: b :: rest) pos) (tT G W fun σ h => ts (vl (fa σ h) >>= andR fun h => fb σ h)) :=
  (pw_and ha hb).imp fun σ H Q ⟨α, σD, hd, s, l, z⟩ => by
    dsimp only at z
    rw [andE] at z
    refine tR_ts s l z fun t h1 α1 H1 x1 s1 l1 z => ?_
    cases t with
    | true => exact ⟨α1, σD, h1, s1, l1, z⟩
    | false => exact Lnd.ok (Rel := rB) (b := false) z s1 rfl
theorem dw_or (ha : PT X a (tT G W fun σ h => ts (fa σ h))) (hb : PW X (.BoolOp .Or (b :: rest) pos) (tT G W fun σ h => ts (fb σ h))) : PW X (.BoolOp .Or (a :: b :: rest) pos) (tT G W fun σ h => ts (vl (fa σ h) >>= orR fun h => fb σ h)) :=
  (pw_or ha hb).imp fun σ H Q ⟨α, σD, hd, s, l, z⟩ => by
    dsimp only at z
    rw [orE] at z
    refine tR_ts s l z fun t h1 α1 H1 x1 s1 l1 z => ?_
    cases t with
    | false => exact ⟨α1, σD, h1, s1, l1, z⟩
    | true => exact Lnd.ok (Rel := rB) (b := true) z s1 rfl
theorem de_ite (ht : PT X c (tT G W fun σ h => ts (fc σ h))) (ha : PE X a (tR G W fa)) (hb : PE X b (tR G W fb)) : PE X (.IfExp c a b pos) (tR G W fun σ h => ts (fc σ h) >>= fun p => if p.1 then rv (vl (fa σ p.2)) else rv (vl (fb σ p.2))) :=
  (pe_ifExp ht (pe_rv (pe_vl ha)) (pe_rv (pe_vl hb))).imp fun σ H Q ⟨α, σD, hd, s, l, z⟩ => by
    refine tR_ts s l z fun t h1 α1 H1 x1 s1 l1 z => ?_
    cases t with
    | true => exact ⟨α1, σD, h1, s1, l1, z⟩
    | false => exact ⟨α1, σD, h1, s1, l1, z⟩
theorem de_neg (ha : PE X a (tR G W fa)) : PE X (.UnaryOp .USub a pos) (tR G W fun σ h => vl (fa σ h) >>= fun p => negD p.1 >>= fun d => .ok (.v d, p.2)) :=
  (pe_un un_neg (pe_vl ha)).imp fun σ H Q ⟨α, σD, hd, s, l, z⟩ => by
    refine tX_bind (Rel := rD G) s l z fun x h1 α1 v H1 e x1 s1 l1 r z => ?_
    cases x with
    | int i => exact ⟨i, RDint' r, Lnd.ok (Rel := rR G) (b := Rv.v (.int (-i))) z s1 rRint⟩
    | _ => exact z.elim
/-! ### arguments, displays -/
variable {es : List Expr} {fs : Sl → Hd → R (List D × Hd)}
theorem da_nil : PA X [] (tEs G W fun _ h => .ok ([], h)) := pa_nil.imp fun σ H Q ⟨α, σD, hd, s, l, z⟩ => Lnd.ok (Rel := rDs G) (b := []) z s RDs.nil
theorem da_cons (hs : isStar a = false) (ha : PE X a (tR G W fa)) (hr : PA X es (tEs G W fs)) : PA X (a :: es) (tEs G W fun σ h => vl (fa σ h) >>= fun p => fs σ p.2 >>= fun q => .ok (p.1 :: q.1, q.2)) :=
  (pa_cons (pe_vl ha) hr (starEach_cons hs)).imp fun σ H Q ⟨α, σD, hd, s, l, z⟩ => by
    refine tX_bind (Rel := rD G) s l z fun x h1 α1 v H1 e x1 s1 l1 r z => ?_
    refine tX_bind (Rel := rDs G) s1 l1 z fun xs h2 α2 vs H2 e x2 s2 l2 r2 z => ?_
    exact Lnd.ok (Rel := rDs G) (b := x :: xs) z s2 (.cons (RD.mono x2.toEy (fun i hi => s1.at_ hi) x v r) r2)
theorem de_tup {k : Nat} (h : PA X es (tEs G W fs)) : PE X (.Tuple es k pos) (tR G W fun σ h => fs σ h >>= fun p => if p.1.length ≤ sizeL then .ok (.v (.tup p.1), p.2) else .no) :=
  (pe_tup h).imp fun σ H Q ⟨α, σD, hd, s, l, z⟩ => by
    refine tX_bind (Rel := rDs G) s l z fun xs h1 α1 vs H1 e x1 s1 l1 r z => ?_
    obtain ⟨c, z⟩ := if_no z
    exact ⟨by rw [r.length, ← sizeL_eq]; exact c, fun p hp => Lnd.tupN (E := fun c d H1 => W c d σ H1) (fun α2 v H2 x s r => z α2 v H2 x s r) s1 r hp⟩
theorem de_lst (h : PA X es (tEs G W fs)) : PE X (.List es pos) (tR G W fun σ h => fs σ h >>= fun p => if p.1.length ≤ sizeL then .ok (.l p.1, p.2) else .no) :=
  (pe_lst h).imp fun σ H Q ⟨α, σD, hd, s, l, z⟩ => by
    refine tX_bind (Rel := rDs G) s l z fun xs h1 α1 vs H1 e x1 s1 l1 r z => ?_
    obtain ⟨c, z⟩ := if_no z
    exact ⟨by rw [r.length, ← sizeL_eq]; exact c, fun p hp => z.tmpN s1 r hp⟩
end
end Mp
set_option maxHeartbeats 1000000
/-! MiniPy, part 5: subscripts, slices, built-ins, methods, calls. -/
namespace Mp
open PySem PySem.Spec PyProof.Rows L2
section
variable {G : Gx} {X : Cx} {W : WX} {pos : Pos} {a b c : Expr} {fa fb fc : Sl → Hd → R (Rv × Hd)}
/-! ### a[i] -/
def rIxG (G : Gx) : R2 := fun x y H Q => ∃ α hd d e t, StR G α hd H ∧ RD G hd.length α H d x ∧ RD G hd.length α H e y ∧ ixD d e hd = .ok t ∧ ∀ v, RD G hd.length α H t v → Q v H
theorem atI_of {α β : Type} {xs : List α} {vs : List β} {k : Int} {t : α} (hl : vs.length = xs.length) (h : ((L2.ixN xs.length k).bind fun j => xs[j]?) = some t) : ∃ j : Nat, L2.ixN vs.length k = some j ∧ xs[j]? = some t := by
  rw [hl]
  cases e : L2.ixN xs.length k with
  | none => rw [e] at h; cases h
  | some j => rw [e] at h; exact ⟨j, rfl, h⟩
theorem ix_all (hK : X.K = G.K) : IxR X (rIxG G) := by
  intro value slice pins s σ H x y v u Q I rx ry h hs
  obtain ⟨α, hd, d, e, t, st, rd, re, z, q⟩ := h
  cases e with
  | int k =>
    obtain rfl := RDint re
    unfold ixD at z
    cases eq : sqOf hd d with
    | none => rw [eq] at z; cases z
    | some sq =>
      rw [eq] at z
      have rel := sqOf_rel st rd eq
      cases sq with
      | l id xs =>
        have z' : R.of ((L2.ixN xs.length k).bind fun j => xs[j]?) = R.ok t := z
        cases eo : (L2.ixN xs.length k).bind fun j => xs[j]? with
        | none => rw [eo] at z'; cases z'
        | some t' =>
          rw [eo] at z'
          cases z'
          cases id with
          | none =>
            obtain ⟨p, vs, rfl, h1, r, _⟩ := rel
            obtain ⟨j, e1, e2⟩ := atI_of r.length eo
            obtain ⟨w, ew, rw'⟩ := r.get e2
            exact ix_list value slice pins s σ H _ _ v u Q I rx ry ⟨p, vs, k, w, rfl, rfl, SqL.of h1, by unfold L2.atI; rw [e1]; exact ew, q w rw'⟩ hs
          | some id =>
            obtain ⟨_, rfl, vs, h1, r⟩ := rel
            obtain ⟨j, e1, e2⟩ := atI_of r.length eo
            obtain ⟨w, ew, rw'⟩ := r.get e2
            exact ix_list value slice pins s σ H _ _ v u Q I rx ry ⟨_, vs, k, w, rfl, rfl, hK ▸ h1, by unfold L2.atI; rw [e1]; exact ew, q w rw'⟩ hs
      | t xs =>
        have z' : R.of ((L2.ixN xs.length k).bind fun j => xs[j]?) = R.ok t := z
        cases eo : (L2.ixN xs.length k).bind fun j => xs[j]? with
        | none => rw [eo] at z'; cases z'
        | some t' =>
          rw [eo] at z'
          cases z'
          obtain ⟨p, vs, rfl, h1, r⟩ := rel
          obtain ⟨j, e1, e2⟩ := atI_of r.length eo
          obtain ⟨w, ew, rw'⟩ := r.get e2
          exact ix_tup value slice pins s σ H _ _ v u Q I rx ry ⟨p, vs, k, w, rfl, rfl, hK ▸ h1, by unfold L2.atI; rw [e1]; exact ew, q w rw'⟩ hs
      | s xs =>
        have rel' : x = .str ⟨xs.toArray⟩ := rel
        subst rel'
        have z' : (if decide (xs.length ≤ sizeL) = true then R.of ((L2.ixN (Sq.items (.s xs)).length k).bind fun j => (Sq.items (.s xs))[j]?) else R.no) = R.ok t := z
        by_cases cl : xs.length ≤ sizeL
        · rw [if_pos (decide_eq_true cl)] at z'
          have il : (Sq.items (.s xs)).length = xs.length := by simp [Sq.items]
          rw [il] at z'
          cases eo : L2.ixN xs.length k with
          | none => rw [eo] at z'; cases z'
          | some j =>
            rw [eo] at z'
            have z2 : R.of ((xs.map fun c => D.str [c])[j]?) = R.ok t := z'
            rw [List.getElem?_map] at z2
            cases ej : xs[j]? with
            | none => rw [ej] at z2; cases z2
            | some c =>
              rw [ej] at z2
              cases z2
              refine ix_str value slice pins s σ H _ _ v u Q I rx ry ⟨_, k, c, rfl, rfl, ?_, ?_, ?_⟩ hs
              · rw [strLen, ← sizeL_eq]; exact cl
              · unfold L2.atI
                simp only [List.toList_toArray]
                rw [eo]; exact ej
              · exact q _ (by unfold RD; rfl)
        · rw [if_neg (by simpa using cl)] at z'; cases z'
      | d k2 lk kvs => cases z
  | _ => cases z
theorem de_ix (ok : Ok G X W) (ha : PE X a (tR G W fa)) (hb : PE X b (tR G W fb)) (hs : notSlice b = true) : PE X (.Subscript a b pos) (tR G W fun σ h => vl (fa σ h) >>= fun p => vl (fb σ p.2) >>= fun q => ixD p.1 q.1 q.2 >>= fun r => .ok (.v r, q.2)) :=
  (pe_ix (ix_all ok.K) (pe_vl ha) (pe_vl hb) (plainIx_of hs)).imp fun σ H Q ⟨α, σD, hd, s, l, z⟩ => by
    refine tX_bind (Rel := rD G) s l z fun x h1 α1 v H1 e x1 s1 l1 r z => ?_
    refine tX_bind (Rel := rD G) s1 l1 z fun y h2 α2 u H2 e x2 s2 l2 r2 z => ?_
    dsimp only at z
    cases ei : ixD x y h2 with
    | no => rw [ei] at z; exact z.elim
    | ex c h' =>
      exfalso
      unfold ixD at ei
      revert ei
      repeat' split
      all_goals (intro ei; first | (cases ei; done) | exact R.of_nx _ _ _ ei)
    | ok t =>
      rw [ei] at z
      exact ⟨α2, h2, x, y, t, s2, RD.mono x2.toEy (fun i hi => s1.at_ hi) x v r, r2, ei, fun w hw => Lnd.ok (Rel := rR G) (b := Rv.v t) z s2 hw⟩
/-! ### a[lo:hi], a[::-1] -/
def rO (G : Gx) : Rl D (Option Int) := fun _ _ _ _ d o => (d = .non ∧ o = none) ∨ ∃ i, d = .int i ∧ o = some i
instance : Dn (rO G) := ⟨fun _ h => h⟩
theorem do_none : PO X none (tX G (rO G) W fun _ h => .ok (.non, h)) := ⟨fun pins s σ H Q I ⟨α, σD, hd, st, l, z⟩ => (po_none (X := X)).run pins s σ H Q I (Lnd.ok (Rel := rO G) (b := .non) z st (.inl ⟨rfl, rfl⟩))⟩
theorem do_some (ha : PE X a (tR G W fa)) : PO X (some a) (tX G (rO G) W fun σ h => numR (vl (fa σ h))) := ⟨fun pins s σ H Q I ⟨α, σD, hd, st, l, z⟩ => (po_some (pe_vl ha)).run pins s σ H Q I (by
    refine tX_bind (Rel := rD G) st l z fun x h1 α1 v H1 e x1 s1 l1 r z => ?_
    cases x with
    | int i => exact ⟨i, RDint' r, Lnd.ok (Rel := rO G) (b := .int i) z s1 (.inr ⟨i, rfl, rfl⟩)⟩
    | _ => exact z.elim)⟩
/-- what a slice does, by values -/
def rSlG (G : Gx) : V → Option Int → Option Int → Hp → VK → Prop := fun x lo hi H Q => ∃ α hd d l u E, StR G α hd H ∧ RD G hd.length α H d x ∧ ((l = D.non ∧ lo = none) ∨ ∃ i, l = .int i ∧ lo = some i) ∧ ((u = D.non ∧ hi = none) ∨ ∃ i, u = .int i ∧ hi = some i) ∧ Lnd G (rD G) E hd.length α H Q (slD d l u hd)
theorem sIx_eq {n d : Nat} {l : D} {lo : Option Int} (h : (l = D.non ∧ lo = none) ∨ ∃ i, l = .int i ∧ lo = some i) : sIx n d l = some (HT.sIx n d lo) := by
  rcases h with ⟨rfl, rfl⟩ | ⟨i, rfl, rfl⟩ <;> rfl
theorem cutV_rel {n : Nat} {α : Al} {H : Hp} {xs : List D} {vs : List V} (r : RDs G n α H xs vs) (lo hi : Option Int) : RDs G n α H (cut xs (HT.sIx xs.length 0 lo) (HT.sIx xs.length xs.length hi)) (cutV vs lo hi) := by
  unfold cut cutV
  rw [r.length]
  exact (r.drop _).take _
theorem sl_all (hK : X.K = G.K) : L2.SlR X (rSlG G) := by
  intro pins s σ H x v vl vu lo hi sl Q I rx hs pl pu h
  obtain ⟨α, hd, d, l, u, E, st, rd, hl, hu, z⟩ := h
  cases d with
  | tup xs =>
    obtain ⟨p, vs, rfl, t, r⟩ := RDtup rd
    simp only [slD, sIx_eq hl, sIx_eq hu] at z
    refine sl_tupA pins s σ H _ v vl vu lo hi sl Q I rx hs pl pu ⟨p, vs, rfl, hK ▸ t, fun w => ?_, fun _ p' hp => ?_⟩
    · rw [r.length] at w
      refine Lnd.ok (Rel := rD G) (b := .tup _) z st ?_
      rw [w.1, w.2]
      unfold cut
      rw [List.drop_zero, Nat.sub_zero, List.take_length]
      exact rd
    · exact z.tupN st (cutV_rel r lo hi) hp
  | str xs =>
    obtain rfl := RDstr rd
    simp only [slD, sIx_eq hl, sIx_eq hu] at z
    obtain ⟨c, z⟩ := if_no z
    refine sl_str pins s σ H _ v vl vu lo hi sl Q I rx hs pl pu ⟨_, rfl, ?_, ?_⟩
    · rw [strLen, ← sizeL_eq]; exact c
    · have e : cutS ⟨xs.toArray⟩ lo hi = ⟨(cut xs (HT.sIx xs.length 0 lo) (HT.sIx xs.length xs.length hi)).toArray⟩ := by
        unfold cutS cut
        rw [strLen]
      rw [e]
      exact Lnd.ok (Rel := rD G) (b := .str _) z st rStr
  | ob k =>
    simp only [slD] at z
    cases el : lstOf hd (.ob k) with
    | none => rw [el] at z; exact z.elim
    | some xs =>
      rw [el] at z
      simp only [sIx_eq hl, sIx_eq hu] at z
      obtain ⟨k', vs, _, hk, _, rfl, e1, r⟩ := lstOf_rel st rd el
      exact sl_list pins s σ H _ v vl vu lo hi sl Q I rx hs pl pu ⟨_, vs, rfl, SqL.of e1, fun p hp => z.lstN st (cutV_rel r lo hi) hp⟩
  | _ => exact z.elim
theorem de_sl {el eu : Option Expr} {fl fu : Sl → Hd → R (D × Hd)} {p2 : Pos} (ok : Ok G X W) (ha : PE X a (tR G W fa)) (hl : PO X el (tX G (rO G) W fl)) (hu : PO X eu (tX G (rO G) W fu)) :
    PE X (.Subscript a (.Slice el eu none p2) pos) (tR G W fun σ h => vl (fa σ h) >>= fun p => fl σ p.2 >>= fun l => fu σ l.2 >>= fun u => rv (slD p.1 l.1 u.1 u.2)) :=
  (pe_slice (sl_all ok.K) (pe_vl ha) hl hu).imp fun σ H Q ⟨α, σD, hd, s, l, z⟩ => by
    refine tX_bind (Rel := rD G) s l z fun x h1 α1 v H1 e x1 s1 l1 r z => ?_
    refine tX_bind (Rel := rO G) s1 l1 z fun lo h2 α2 vl H2 e x2 s2 l2 r2 z => ?_
    refine tX_bind (Rel := rO G) s2 l2 z fun hi h3 α3 vh H3 e x3 s3 l3 r3 z => ?_
    exact ⟨α3, h3, x, lo, hi, _, s3, RD.mono x3.toEy (fun i hi => s2.at_ hi) x v (RD.mono x2.toEy (fun i hi => s1.at_ hi) x v r), r2, r3, z.rv⟩
theorem de_rv {k : Nat} {p1 p2 p3 : Pos} (ok : Ok G X W) (ha : PE X a (tR G W fa)) : PE X (.Subscript a (.Slice none none (some (.UnaryOp .USub (.Constant (.int 1) k p1) p2)) p3) pos) (tR G W fun σ h => vl (fa σ h) >>= fun p => rvD p.1 p.2) :=
  (pe_revL (pe_vl ha)).imp fun σ H Q ⟨α, σD, hd, s, l, z⟩ => by
    refine tX_bind (Rel := rD G) s l z fun x h1 α1 v H1 e x1 s1 l1 r z => ?_
    unfold rvD at z
    cases el : lstOf h1 x with
    | none => rw [el] at z; exact z.elim
    | some xs =>
      rw [el] at z
      obtain ⟨k', vs, _, hk, _, rfl, e1, rr⟩ := lstOf_rel s1 (show RD G _ _ _ x v from r) el
      exact ⟨_, vs, rfl, SqL.of e1, fun p hp => z.tmpN s1 rr.reverse hp⟩
end
end Mp
set_option maxHeartbeats 1000000
/-! MiniPy, part 6: built-ins. -/
namespace Mp
open PySem PySem.Spec PyProof.Rows L2
section
variable {G : Gx} {X : Cx} {W : WX} {pos p : Pos} {a b c : Expr} {x : Str} {id T : String} {r : List V → Hp → VK → Prop}
/-- the text is a free name of the module: a built-in -/
structure Bi (X : Cx) (x : Str) : Prop where
  gl : Gl X x
  mg : X.mg x = none
  nn : x ≠ "__name__"
  nd : (x == ("__debug__" : Str)) = false
section
variable {β γ : Type} {Rel : Rl β V} {Rel2 : Rl γ V} {fa : Sl → Hd → R (β × Hd)} {fb : Sl → Hd → R (γ × Hd)} {k : β × Hd → R (Rv × Hd)} {k2 : β × Hd → γ × Hd → R (Rv × Hd)}
theorem tCB1_of {σ : L2.St} {H : Hp} {Q : VK} (hr : ∀ b h α H0 v H Q E, StR G α h H → Rel H0 h.length α H b v → Lnd G (rR G) E h.length α H Q (k (b, h)) → r [v] H Q) (h : tR G W (fun σ h => fa σ h >>= k) σ H Q) : tCB r (tCons (tX G Rel W fa) tNil) σ H Q := by
  obtain ⟨α, σD, hd, s, l, z⟩ := h
  exact tX_bind (Rel := Rel) s l z fun x h1 α1 v H1 e x1 s1 l1 rr z => hr x h1 α1 _ v H1 Q _ s1 rr z
theorem de_call1 (hc : CallR X (.builtin id) r) (hb : Bi X x) (hv : bootBuiltins x = some (.builtin id)) (hs : isStar a = false) (ha : PE X a (tX G Rel W fa))
    (hr : ∀ b h α H0 v H Q E, StR G α h H → Rel H0 h.length α H b v → Lnd G (rR G) E h.length α H Q (k (b, h)) → r [v] H Q) : PE X (.Call (.Name x p) [a] [] pos) (tR G W fun σ h => fa σ h >>= k) :=
  (pe_callB hc hb.gl hb.mg hv (pa_cons ha pa_nil (starEach_cons hs)) hb.nn hb.nd (starEach_cons hs) rfl).imp fun σ H Q h => tCB1_of hr h
theorem de_callT1 (hc : CallR X (.type T) r) (hb : Bi X x) (hv : bootBuiltins x = some (.type T)) (hs : isStar a = false) (ha : PE X a (tX G Rel W fa))
    (hr : ∀ b h α H0 v H Q E, StR G α h H → Rel H0 h.length α H b v → Lnd G (rR G) E h.length α H Q (k (b, h)) → r [v] H Q) : PE X (.Call (.Name x p) [a] [] pos) (tR G W fun σ h => fa σ h >>= k) :=
  (pe_callTy hc hb.gl hb.mg hv (pa_cons ha pa_nil (starEach_cons hs)) hb.nn hb.nd (starEach_cons hs) rfl).imp fun σ H Q h => tCB1_of hr h
end
variable {fa fb : Sl → Hd → R (Rv × Hd)}
/-- a list that is read -/
theorem rQ_list {H0 : Hp} {n : Nat} {α : Al} {H : Hp} {id : Option Nat} {xs : List D} {v : V} (hK : X.K = G.K) (h : rQ G H0 n α H (.l id xs) v) : ∃ p vs, v = .ref p ∧ SqL X.K H p vs ∧ RDs G n α H xs vs := by
  cases id with
  | none => obtain ⟨p, vs, rfl, h1, r, _⟩ := h; exact ⟨p, vs, rfl, SqL.of h1, r⟩
  | some k => obtain ⟨_, rfl, vs, h1, r⟩ := h; exact ⟨_, vs, rfl, hK ▸ h1, r⟩
theorem intL_rel {n : Nat} {α : Al} {H : Hp} : ∀ {xs : List D} {vs : List V} {ns : List Int}, RDs G n α H xs vs → intL xs = some ns → vs = ns.map V.int
  | [], vs, ns, r, e => by cases e; unfold RDs at r; rw [r]; rfl
  | x :: xs, vs, ns, r, e => by
    unfold RDs at r
    obtain ⟨v, ws, rfl, r1, r2⟩ := r
    cases x with
    | int i =>
      simp only [intL] at e
      cases e2 : intL xs with
      | none => rw [e2] at e; cases e
      | some ms => rw [e2] at e; cases e; rw [RDint r1, intL_rel r2 e2]; rfl
    | _ => cases e
theorem blL_rel {n : Nat} {α : Al} {H : Hp} : ∀ {xs : List D} {vs : List V} {ns : List Bool}, RDs G n α H xs vs → blL xs = some ns → vs = ns.map V.bl
  | [], vs, ns, r, e => by cases e; unfold RDs at r; rw [r]; rfl
  | x :: xs, vs, ns, r, e => by
    unfold RDs at r
    obtain ⟨v, ws, rfl, r1, r2⟩ := r
    cases x with
    | bl i =>
      simp only [blL] at e
      cases e2 : blL xs with
      | none => rw [e2] at e; cases e
      | some ms => rw [e2] at e; cases e; rw [RDbl r1, blL_rel r2 e2]; rfl
    | _ => cases e
theorem strL_rel {n : Nat} {α : Al} {H : Hp} : ∀ {xs : List D} {vs : List V} {ns : List (List Nat)}, RDs G n α H xs vs → strL xs = some ns → vs = (ns.map fun s => (⟨s.toArray⟩ : Str)).map V.str
  | [], vs, ns, r, e => by cases e; unfold RDs at r; rw [r]; rfl
  | x :: xs, vs, ns, r, e => by
    unfold RDs at r
    obtain ⟨v, ws, rfl, r1, r2⟩ := r
    cases x with
    | str i =>
      simp only [strL] at e
      cases e2 : strL xs with
      | none => rw [e2] at e; cases e
      | some ms => rw [e2] at e; cases e; rw [RDstr r1, strL_rel r2 e2]; rfl
    | _ => cases e
theorem max_of : ∀ {ns : List Int} {n m : Int}, m ∈ n :: ns → (∀ y ∈ n :: ns, y ≤ m) → m = maxI (n :: ns)
  | [], n, m, h, _ => by simpa [maxI] using h
  | k :: ns, n, m, h, g => by
    have e : maxI (n :: k :: ns) = max n (maxI (k :: ns)) := rfl
    have top : ∀ (l : List Int) (n : Int), (∀ y ∈ n :: l, y ≤ maxI (n :: l)) ∧ maxI (n :: l) ∈ n :: l := by
      intro l
      induction l with
      | nil => intro n; simp [maxI]
      | cons k l ih =>
        intro n
        obtain ⟨h1, h2⟩ := ih k
        have e : maxI (n :: k :: l) = max n (maxI (k :: l)) := rfl
        rw [e]
        refine ⟨fun y hy => ?_, ?_⟩
        · rcases List.mem_cons.mp hy with rfl | hy
          · omega
          · have := h1 y hy; omega
        · by_cases c : n ≤ maxI (k :: l)
          · rw [Int.max_eq_right c]; exact List.mem_cons_of_mem _ h2
          · rw [Int.max_eq_left (by omega)]; exact List.mem_cons_self
    obtain ⟨t1, t2⟩ := top (k :: ns) n
    have h1 := t1 m h
    have h2 := g _ t2
    omega
theorem min_of : ∀ {ns : List Int} {n m : Int}, m ∈ n :: ns → (∀ y ∈ n :: ns, m ≤ y) → m = minI (n :: ns)
  | [], n, m, h, _ => by simpa [minI] using h
  | k :: ns, n, m, h, g => by
    have top : ∀ (l : List Int) (n : Int), (∀ y ∈ n :: l, minI (n :: l) ≤ y) ∧ minI (n :: l) ∈ n :: l := by
      intro l
      induction l with
      | nil => intro n; simp [minI]
      | cons k l ih =>
        intro n
        obtain ⟨h1, h2⟩ := ih k
        have e : minI (n :: k :: l) = min n (minI (k :: l)) := rfl
        rw [e]
        refine ⟨fun y hy => ?_, ?_⟩
        · rcases List.mem_cons.mp hy with rfl | hy
          · omega
          · have := h1 y hy; omega
        · by_cases c : n ≤ minI (k :: l)
          · rw [Int.min_eq_left c]; exact List.mem_cons_self
          · rw [Int.min_eq_right (by omega)]; exact List.mem_cons_of_mem _ h2
    obtain ⟨t1, t2⟩ := top (k :: ns) n
    have h1 := t1 m h
    have h2 := g _ t2
    omega
theorem de_len (ok : Ok G X W) (hb : Bi X "len") (hs : isStar a = false) (ha : PE X a (tR G W fa)) : PE X (.Call (.Name "len" p) [a] [] pos) (tR G W fun σ h => qs (fa σ h) >>= fun p => rv (b1D .len p.1 p.2)) :=
  de_call1 call_len hb boot_len hs (pe_qs ha) fun q h α H0 v H Q E st rel z => by
    have fin : ∀ {n : Nat}, (∀ r : R (D × Hd), r = .ok (.int n, h) → Lnd G (rR G) E h.length α H Q (rv r) → Q (.int n) H) := fun r e z => by
      subst e; exact Lnd.ok (Rel := rR G) (b := Rv.v (.int _)) z st rRint
    cases q with
    | l id xs =>
      obtain ⟨p, vs, rfl, h1, r⟩ := rQ_list ok.K rel
      exact ⟨_, xs.length, rfl, .inl ⟨vs, h1, r.length.symm⟩, fin _ rfl z⟩
    | t xs =>
      obtain ⟨p, vs, rfl, h1, r⟩ := rel
      exact ⟨_, xs.length, rfl, .inr ⟨vs, ok.K ▸ h1, r.length.symm⟩, fin _ rfl z⟩
    | s xs =>
      have rel' : v = .str ⟨xs.toArray⟩ := rel
      subst rel'
      have z' : Lnd G (rR G) E h.length α H Q (rv (if xs.length ≤ sizeL then .ok (.int xs.length, h) else .no)) := z
      by_cases c : xs.length ≤ sizeL
      · rw [if_pos c] at z'
        exact ⟨_, xs.length, rfl, ⟨by rw [strLen, ← sizeL_eq]; exact c, (strLen xs).symm⟩, fin _ rfl z'⟩
      · rw [if_neg c] at z'; exact z'.elim
    | d k2 lk kvs => exact z.elim
theorem de_tuple (ok : Ok G X W) (hb : Bi X "tuple") (hs : isStar a = false) (ha : PE X a (tR G W fa)) : PE X (.Call (.Name "tuple" p) [a] [] pos) (tR G W fun σ h => qs (fa σ h) >>= fun p => rv (b1D .tuple p.1 p.2)) :=
  de_callT1 call_tuple_of hb (by decide +kernel) hs (pe_qs ha) fun q h α H0 v H Q E st rel z => by
    cases q with
    | l id xs =>
      obtain ⟨p, vs, rfl, h1, r⟩ := rQ_list ok.K rel
      exact ⟨p, vs, rfl, .inl ⟨h1, fun l hl => (z.rv).tupN st r hl⟩⟩
    | t xs =>
      obtain ⟨p, vs, rfl, h1, r⟩ := rel
      refine ⟨p, vs, rfl, .inr ⟨ok.K ▸ h1, Lnd.ok (Rel := rD G) (b := .tup xs) z.rv st ?_⟩⟩
      show RD _ _ _ _ _ _
      unfold RD
      exact ⟨p, vs, rfl, h1, r⟩
    | s xs => exact z.elim
    | d k2 lk kvs => exact z.elim
theorem signs_rel {n : Nat} {α : Al} {H : Hp} : ∀ xs : List Nat, RDs G n α H (xs.map fun c => D.str [c]) (xs.map fun c => V.str ⟨#[c]⟩)
  | [] => .nil
  | x :: r => .cons (by unfold RD; rfl) (signs_rel r)
/-- list(x): of a list, a tuple, a text -/
def rListA (K : PySem.W.Frag) : List V → Hp → VK → Prop := fun xs H Q => (∃ p ys, xs = [.ref p] ∧ (SqL K H p ys ∨ SqT K H p ys) ∧ ∀ l, H l = none → Q (.ref l) (upd H l (.lst ys))) ∨
  ∃ t : List Nat, xs = [.str ⟨t.toArray⟩] ∧ t.length ≤ sizeLine ∧ ∀ l, H l = none → Q (.ref l) (upd H l (.lst (t.map fun c => V.str ⟨#[c]⟩)))
theorem cr_listA {X : Cx} (hc : X.calm = true) : CallR X (.type "list") (rListA X.K) := by
  intro pins s σ H xs us Q I r h
  rcases h with h | ⟨t, rfl, hz, q⟩
  · exact call_list_of pins s σ H xs us Q I r h
  · obtain ⟨u, rfl, ru⟩ := r.one
    obtain ⟨tk, rfl⟩ := ru
    refine call_list_str (hn := by simpa using hz) (I.ok.hd hc) _ tk fun h' tk' acc c' hk e hi => ?_
    refine ⟨.ref s.heap.objs.size, upd H s.heap.objs.size (.lst (t.map fun c => V.str ⟨#[c]⟩)), I.laid hk (Nat.le_refl _) ⟨by rw [List.length_map]; exact hz, acc.toList, c', ?_, by rw [Array.toArray_toList]; exact e⟩, rfl, q _ (I.hok.fresh (Nat.le_refl _))⟩
    refine vals_of_idx _ _ (by rw [List.length_map, Array.length_toList]; simpa using hi.1) fun j u hj => ?_
    obtain ⟨c, t', hc, rfl⟩ := hi.2 j u (by rw [← Array.getElem?_toList]; exact hj)
    have hc' : t[j]? = some c := by simpa using hc
    exact ⟨V.str ⟨#[c]⟩, by simp [hc'], ⟨_, rfl⟩⟩
theorem de_list (ok : Ok G X W) (hb : Bi X "list") (hs : isStar a = false) (ha : PE X a (tR G W fa)) : PE X (.Call (.Name "list" p) [a] [] pos) (tR G W fun σ h => qs (fa σ h) >>= fun p => (match p.1 with
    | .s x => if x.length ≤ sizeL then .ok (.l (Sq.items (.s x)), p.2) else .no
    | .d _ _ _ => .no
    | q => .ok (.l q.items, p.2))) :=
  de_callT1 (cr_listA ok.calm) hb (by decide +kernel) hs (pe_qs ha) fun q h α H0 v H Q E st rel z => by
    cases q with
    | l id xs =>
      obtain ⟨p, vs, rfl, h1, r⟩ := rQ_list ok.K rel
      exact .inl ⟨p, vs, rfl, .inl h1, fun l hl => Lnd.tmpN z st r hl⟩
    | t xs =>
      obtain ⟨p, vs, rfl, h1, r⟩ := rel
      exact .inl ⟨p, vs, rfl, .inr (ok.K ▸ h1), fun l hl => Lnd.tmpN z st r hl⟩
    | s xs =>
      have rel' : v = .str ⟨xs.toArray⟩ := rel
      subst rel'
      dsimp only at z
      obtain ⟨c, z⟩ := if_no (Rel := rR G) z
      refine .inr ⟨xs, rfl, by rw [← sizeL_eq]; exact c, fun l hl => ?_⟩
      exact Lnd.tmpN z st (signs_rel xs) hl
    | d k2 lk kvs => exact z.elim
theorem map_ok {α β : Type} {o : Option α} {f : α → β} {E : Value → Option Addr → Hp → Prop} {n : Nat} {al : Al} {H : Hp} {Q : VK} (z : Lnd G (rR G) E n al H Q (rv (R.of (o.map fun x => ((f x : β), (0 : Nat))) >>= fun _ => R.no))) : False := by
  revert z
  cases o <;> exact fun z => z
theorem of_ok {α : Type} {o : Option α} {k : α → R (Rv × Hd)} {E : Value → Option Addr → Hp → Prop} {n : Nat} {al : Al} {H : Hp} {Q : VK} (z : Lnd G (rR G) E n al H Q (R.of o >>= k)) : ∃ x, o = some x ∧ Lnd G (rR G) E n al H Q (k x) := by
  cases o with
  | none => exact z.elim
  | some x => exact ⟨x, rfl, z⟩
theorem de_sum (ok : Ok G X W) (hb : Bi X "sum") (hs : isStar a = false) (ha : PE X a (tR G W fa)) : PE X (.Call (.Name "sum" p) [a] [] pos) (tR G W fun σ h => qs (fa σ h) >>= fun p => rv (b1D .sum p.1 p.2)) :=
  de_call1 (cr_sum ok.calm) hb (by decide +kernel) hs (pe_qs ha) fun q h α H0 v H Q E st rel z => by
    cases q with
    | l id xs =>
      obtain ⟨p, vs, rfl, h1, r⟩ := rQ_list ok.K rel
      have z' : Lnd G (rR G) E h.length α H Q (rv (R.of ((intL xs).map fun ns => (D.int ns.sum, h)))) := z
      cases e : intL xs with
      | none => rw [e] at z'; exact z'.elim
      | some ns =>
        rw [e] at z'
        rw [intL_rel r e] at h1
        exact ⟨p, ns, rfl, h1, Lnd.ok (Rel := rR G) (b := Rv.v (.int ns.sum)) z' st rRint⟩
    | t xs => exact z.elim
    | s xs => exact z.elim
    | d k2 lk kvs => exact z.elim
theorem de_all (ok : Ok G X W) (hb : Bi X "all") (hs : isStar a = false) (ha : PE X a (tR G W fa)) : PE X (.Call (.Name "all" p) [a] [] pos) (tR G W fun σ h => qs (fa σ h) >>= fun p => rv (b1D .all p.1 p.2)) :=
  de_call1 (cr_all ok.calm) hb (by decide +kernel) hs (pe_qs ha) fun q h α H0 v H Q E st rel z => by
    cases q with
    | l id xs =>
      obtain ⟨p, vs, rfl, h1, r⟩ := rQ_list ok.K rel
      have z' : Lnd G (rR G) E h.length α H Q (rv (R.of ((blL xs).map fun ns => (D.bl (ns.all _root_.id), h)))) := z
      cases e : blL xs with
      | none => rw [e] at z'; exact z'.elim
      | some ns =>
        rw [e] at z'
        rw [blL_rel r e] at h1
        exact ⟨p, ns, rfl, h1, Lnd.ok (Rel := rR G) (b := Rv.v (.bl (ns.all _root_.id))) z' st rRbl⟩
    | t xs => exact z.elim
    | s xs => exact z.elim
    | d k2 lk kvs => exact z.elim
theorem de_any (ok : Ok G X W) (hb : Bi X "any") (hs : isStar a = false) (ha : PE X a (tR G W fa)) : PE X (.Call (.Name "any" p) [a] [] pos) (tR G W fun σ h => qs (fa σ h) >>= fun p => rv (b1D .any p.1 p.2)) :=
  de_call1 (cr_any ok.calm) hb (by decide +kernel) hs (pe_qs ha) fun q h α H0 v H Q E st rel z => by
    cases q with
    | l id xs =>
      obtain ⟨p, vs, rfl, h1, r⟩ := rQ_list ok.K rel
      have z' : Lnd G (rR G) E h.length α H Q (rv (R.of ((blL xs).map fun ns => (D.bl (ns.any _root_.id), h)))) := z
      cases e : blL xs with
      | none => rw [e] at z'; exact z'.elim
      | some ns =>
        rw [e] at z'
        rw [blL_rel r e] at h1
        exact ⟨p, ns, rfl, h1, Lnd.ok (Rel := rR G) (b := Rv.v (.bl (ns.any _root_.id))) z' st rRbl⟩
    | t xs => exact z.elim
    | s xs => exact z.elim
    | d k2 lk kvs => exact z.elim
theorem de_max (ok : Ok G X W) (hb : Bi X "max") (hs : isStar a = false) (ha : PE X a (tR G W fa)) : PE X (.Call (.Name "max" p) [a] [] pos) (tR G W fun σ h => qs (fa σ h) >>= fun p => rv (b1D .max p.1 p.2)) :=
  de_call1 (cr_max ok.calm) hb (by decide +kernel) hs (pe_qs ha) fun q h α H0 v H Q E st rel z => by
    cases q with
    | l id xs =>
      obtain ⟨p, vs, rfl, h1, r⟩ := rQ_list ok.K rel
      have z' : Lnd G (rR G) E h.length α H Q (rv (match intL xs with | some (n :: ns) => .ok (.int (maxI (n :: ns)), h) | _ => .no)) := z
      cases e : intL xs with
      | none => rw [e] at z'; exact z'.elim
      | some ns =>
        rw [e] at z'
        rw [intL_rel r e] at h1
        cases ns with
        | nil => exact z'.elim
        | cons n ns =>
          refine ⟨p, n :: ns, rfl, h1, Nat.succ_pos _, fun m hm hle => ?_⟩
          rw [max_of hm hle]
          exact Lnd.ok (Rel := rR G) (b := Rv.v (.int _)) z' st rRint
    | t xs => exact z.elim
    | s xs => exact z.elim
    | d k2 lk kvs => exact z.elim
theorem de_min (ok : Ok G X W) (hb : Bi X "min") (hs : isStar a = false) (ha : PE X a (tR G W fa)) : PE X (.Call (.Name "min" p) [a] [] pos) (tR G W fun σ h => qs (fa σ h) >>= fun p => rv (b1D .min p.1 p.2)) :=
  de_call1 (cr_min ok.calm) hb (by decide +kernel) hs (pe_qs ha) fun q h α H0 v H Q E st rel z => by
    cases q with
    | l id xs =>
      obtain ⟨p, vs, rfl, h1, r⟩ := rQ_list ok.K rel
      have z' : Lnd G (rR G) E h.length α H Q (rv (match intL xs with | some (n :: ns) => .ok (.int (minI (n :: ns)), h) | _ => .no)) := z
      cases e : intL xs with
      | none => rw [e] at z'; exact z'.elim
      | some ns =>
        rw [e] at z'
        rw [intL_rel r e] at h1
        cases ns with
        | nil => exact z'.elim
        | cons n ns =>
          refine ⟨p, n :: ns, rfl, h1, Nat.succ_pos _, fun m hm hle => ?_⟩
          rw [min_of hm hle]
          exact Lnd.ok (Rel := rR G) (b := Rv.v (.int _)) z' st rRint
    | t xs => exact z.elim
    | s xs => exact z.elim
    | d k2 lk kvs => exact z.elim
theorem intS_text {s : List Nat} {n : Int} (h : intS s = some n) : PySem.intText? ⟨s.toArray⟩ = some n ∧ s.length ≤ 640 := by
  cases s with
  | nil => cases h
  | cons c s =>
    cases s with
    | cons c' s => cases h
    | nil =>
      simp only [intS] at h
      by_cases hc : (decide (48 ≤ c) && decide (c ≤ 57)) = true
      · rw [if_pos hc] at h
        cases h
        simp only [Bool.and_eq_true, decide_eq_true_eq, pr_eq] at hc
        refine ⟨?_, by simp⟩
        have : c = 48 ∨ c = 49 ∨ c = 50 ∨ c = 51 ∨ c = 52 ∨ c = 53 ∨ c = 54 ∨ c = 55 ∨ c = 56 ∨ c = 57 := by omega
        rcases this with rfl | rfl | rfl | rfl | rfl | rfl | rfl | rfl | rfl | rfl <;> decide +kernel
      · rw [if_neg hc] at h; cases h
theorem de_int_ (hb : Bi X "int") (hs : isStar a = false) (ha : PE X a (tR G W fa)) : PE X (.Call (.Name "int" p) [a] [] pos) (tR G W fun σ h => vl (fa σ h) >>= fun p => rv (b1V .int_ p.1 p.2)) :=
  de_callT1 (call_int1.or call_int_str) hb boot_int hs (pe_vl ha) fun d h α H0 v H Q E st rel z => by
    have rel' : RD G h.length α H d v := rel
    cases d with
    | int i => obtain rfl := RDint rel'; exact .inl (.inl ⟨i, rfl, Lnd.ok (Rel := rR G) (b := Rv.v (.int i)) z st rRint⟩)
    | bl k => obtain rfl := RDbl rel'; exact .inl (.inr ⟨k, rfl, Lnd.ok (Rel := rR G) (b := Rv.v (.int _)) z st rRint⟩)
    | str s =>
      obtain rfl := RDstr rel'
      have z' : Lnd G (rR G) E h.length α H Q (rv (R.of ((intS s).map fun i => (D.int i, h)))) := z
      cases e : intS s with
      | none => rw [e] at z'; exact z'.elim
      | some n =>
        rw [e] at z'
        obtain ⟨h1, h2⟩ := intS_text e
        exact .inr ⟨_, n, rfl, h1, by rw [strLen]; exact h2, Lnd.ok (Rel := rR G) (b := Rv.v (.int n)) z' st rRint⟩
    | _ => exact z.elim
theorem de_str_ (hb : Bi X "str") (hs : isStar a = false) (ha : PE X a (tR G W fa)) : PE X (.Call (.Name "str" p) [a] [] pos) (tR G W fun σ h => vl (fa σ h) >>= fun p => rv (b1V .str_ p.1 p.2)) :=
  de_callT1 call_str_int hb (by decide +kernel) hs (pe_vl ha) fun d h α H0 v H Q E st rel z => by
    have rel' : RD G h.length α H d v := rel
    cases d with
    | int i =>
      obtain rfl := RDint rel'
      have z' : Lnd G (rR G) E h.length α H Q (rv (if i.natAbs.log2 < 1920 then .ok (.str (strI i), h) else .no)) := z
      by_cases c : i.natAbs.log2 < 1920
      · rw [if_pos c] at z'
        refine ⟨i, rfl, c, ?_⟩
        refine Lnd.ok (Rel := rD G) (b := .str (strI i)) z'.rv st ?_
        show RD _ _ _ _ _ _
        unfold RD strI
        rfl
      · rw [if_neg c] at z'; exact z'.elim
    | _ => exact z.elim
/-! ### of two -/
section
variable {k2 : D → D → Hd → R (D × Hd)}
theorem de_call2 (hc : CallR X (.builtin id) r) (hb : Bi X x) (hv : bootBuiltins x = some (.builtin id)) (hs : isStar a = false) (hs2 : isStar b = false) (ha : PE X a (tR G W fa)) (hb' : PE X b (tR G W fb))
    (hr : ∀ d e h α v w H Q E, StR G α h H → RD G h.length α H d v → RD G h.length α H e w → Lnd G (rD G) E h.length α H Q (k2 d e h) → r [v, w] H Q) :
    PE X (.Call (.Name x p) [a, b] [] pos) (tR G W fun σ h => vl (fa σ h) >>= fun p => vl (fb σ p.2) >>= fun q => rv (k2 p.1 q.1 q.2)) :=
  (pe_callB hc hb.gl hb.mg hv (pa_cons (pe_vl ha) (pa_cons (pe_vl hb') pa_nil (starEach_cons hs2)) (starEach_cons hs)) hb.nn hb.nd (starEach_cons hs) (noPlain (by rw [List.all_cons, hs2]; rfl))).imp fun σ H Q ⟨α, σD, hd, s, l, z⟩ => by
    refine tX_bind (Rel := rD G) s l z fun x h1 α1 v H1 e x1 s1 l1 r1 z => ?_
    refine tX_bind (Rel := rD G) s1 l1 z fun y h2 α2 u H2 e x2 s2 l2 r2 z => ?_
    exact hr x y h2 α2 v u H2 Q _ s2 (RD.mono x2.toEy (fun i hi => s1.at_ hi) x v r1) r2 z.rv
end
theorem de_max2 (ok : Ok G X W) (hb : Bi X "max") (hs : isStar a = false) (hs2 : isStar b = false) (ha : PE X a (tR G W fa)) (hb' : PE X b (tR G W fb)) :
    PE X (.Call (.Name "max" p) [a, b] [] pos) (tR G W fun σ h => vl (fa σ h) >>= fun p => vl (fb σ p.2) >>= fun q => rv (b2D .max p.1 q.1 q.2)) :=
  de_call2 (call_max2 ok.calm) hb (by decide +kernel) hs hs2 ha hb' fun d e h α v w H Q E st r1 r2 z => by
    cases d <;> cases e <;> first | exact z.elim | skip
    obtain rfl := RDint r1; obtain rfl := RDint r2
    exact ⟨_, _, rfl, Lnd.ok (Rel := rD G) (b := D.int _) z st rInt⟩
theorem de_min2 (ok : Ok G X W) (hb : Bi X "min") (hs : isStar a = false) (hs2 : isStar b = false) (ha : PE X a (tR G W fa)) (hb' : PE X b (tR G W fb)) :
    PE X (.Call (.Name "min" p) [a, b] [] pos) (tR G W fun σ h => vl (fa σ h) >>= fun p => vl (fb σ p.2) >>= fun q => rv (b2D .min p.1 q.1 q.2)) :=
  de_call2 (call_min2 ok.calm) hb (by decide +kernel) hs hs2 ha hb' fun d e h α v w H Q E st r1 r2 z => by
    cases d <;> cases e <;> first | exact z.elim | skip
    obtain rfl := RDint r1; obtain rfl := RDint r2
    exact ⟨_, _, rfl, Lnd.ok (Rel := rD G) (b := D.int _) z st rInt⟩
theorem de_divmod (hb : Bi X "divmod") (hs : isStar a = false) (hs2 : isStar b = false) (ha : PE X a (tR G W fa)) (hb' : PE X b (tR G W fb)) :
    PE X (.Call (.Name "divmod" p) [a, b] [] pos) (tR G W fun σ h => vl (fa σ h) >>= fun p => vl (fb σ p.2) >>= fun q => rv (b2D .divmod p.1 q.1 q.2)) :=
  de_call2 call_divmod hb (by decide +kernel) hs hs2 ha hb' fun d e h α v w H Q E st r1 r2 z => by
    cases d <;> cases e <;> first | exact z.elim | skip
    obtain rfl := RDint r1; obtain rfl := RDint r2
    obtain ⟨c, z⟩ := if_no z
    simp only [Bool.and_eq_true, decide_eq_true_eq, pr_eq] at c
    exact ⟨_, _, rfl, c, fun q hq => Lnd.tupN z st (.cons (by unfold RD; rfl) (.one (by unfold RD; rfl))) hq⟩
/-! ### isinstance -/
def tyN : Ty → String
  | .int => "int" | .bool => "bool" | .str => "str" | .tuple => "tuple" | .list => "list" | .dict => "dict" | _ => ""
def kdN : Kd → String
  | .non => "NoneType" | .bool => "bool" | .int => "int" | .str => "str" | .tuple => "tuple" | .list => "list"
theorem kd_kit : ∀ (k : Kd) (t : Ty) (b : Bool), kdTy k t = some b → kitB (kdN k) (tyN t) = some b := by
  intro k t b h
  cases k <;> cases t <;> first | (cases h; done) | (have e : _ = b := Option.some.inj h; subst e; decide +kernel)
theorem kindD_ty {α : Al} {hd : Hd} {H : Hp} {d : D} {v : V} {k : Kd} (st : StR G α hd H) (r : RD G hd.length α H d v) (hK : X.K = G.K) (h : kindD hd d = some k) : TyX X.K H v (.type (kdN k)) := by
  cases d with
  | non => cases h; obtain rfl := RDnon r; exact .base .non
  | bl b => cases h; obtain rfl := RDbl r; exact .base (.bl b)
  | int i => cases h; obtain rfl := RDint r; exact .base (.int i)
  | str s => cases h; obtain rfl := RDstr r; exact .base (.str _)
  | tup xs =>
    cases h
    obtain ⟨p, vs, rfl, t, _⟩ := RDtup r
    rcases t with (t | ⟨o, t⟩) | ⟨o, its, n, t, c, _⟩
    · exact .base (.tup t)
    · exact .fTuple t
    · exact .kTuple (hK ▸ t) c
  | ob j =>
    unfold RD at r
    obtain ⟨hj, rfl⟩ := r
    simp only [kindD] at h
    cases ej : hd[j]? with
    | none => rw [ej] at h; cases h
    | some o =>
      rw [ej] at h
      have ho := st.ob j o ej
      cases o with
      | lst xs => cases h; obtain ⟨vs, e, _⟩ := ho; exact .base (.lst e)
      | scr xs => cases h; obtain ⟨vs, ⟨o, e⟩, _⟩ := ho; exact .base (.frz e)
      | dct l kvs => cases h
      | ins c fs => cases h
  | fn f => cases h
  | ex c => cases h
  | clo l vs => cases h
  | junk => cases h
def bltTy : Ty → Bool
  | .own _ => false
  | .verr => false
  | .cls _ => false
  | _ => true
theorem de_isi1 {C : Cl} {t : Ty} {T : Str} {p2 : Pos} (ok : Ok G X W) (hb : Bi X "isinstance") (hbT : Bi X T) (hvT : bootBuiltins T = some (.type (tyN t))) (hs : isStar a = false) (ht : bltTy t = true) (ha : PE X a (tR G W fa)) :
    PE X (.Call (.Name "isinstance" p) [a, .Name T p2] [] pos) (tR G W fun σ h => vl (fa σ h) >>= fun p => isiD C [t] p.1 p.2 >>= fun d => .ok (.v d, p.2)) :=
  (pe_callB call_isi hb.gl hb.mg (by decide +kernel) (pa_cons (pe_vl ha) (pa_cons (pe_bltn hbT.gl hbT.mg hvT (v := .ty (tyN t)) rfl hbT.nn hbT.nd) pa_nil rfl) (starEach_cons hs)) hb.nn hb.nd (starEach_cons hs) rfl).imp fun σ H Q ⟨α, σD, hd, s, l, z⟩ => by
    refine tX_bind (Rel := rD G) s l z fun x h1 α1 v H1 e x1 s1 l1 r1 z => ?_
    have es : isiD C [t] x h1 = R.of (((kindD h1 x).bind fun k => kdTy k t).map D.bl) := by cases t <;> first | rfl | cases ht
    have z' : Lnd G (rR G) (fun c d H1 => W c d σ H1) h1.length α1 H1 Q (R.of (((kindD h1 x).bind fun k => kdTy k t).map D.bl) >>= fun d => R.ok (Rv.v d, h1)) := by rw [← es]; exact z
    cases ek : kindD h1 x with
    | none => rw [ek] at z'; exact z'.elim
    | some k =>
      rw [ek] at z'
      have z2 : Lnd G (rR G) (fun c d H1 => W c d σ H1) h1.length α1 H1 Q (R.of ((kdTy k t).map D.bl) >>= fun d => R.ok (Rv.v d, h1)) := z'
      cases et : kdTy k t with
      | none => rw [et] at z2; exact z2.elim
      | some b =>
        rw [et] at z2
        exact ⟨v, .ty (tyN t), .type (kdN k), .type (tyN t), b, rfl, .ty _, kindD_ty s1 r1 ok.K ek, kit_ty (kd_kit k t b et), Lnd.ok (Rel := rR G) (b := Rv.v (.bl b)) z2 s1 rRbl⟩
end
end Mp
set_option maxHeartbeats 1000000
/-! MiniPy, part 7: targets, what is walked, comprehensions. -/
namespace Mp
open PySem PySem.Spec PyProof.Rows L2
/-! ### targets -/
mutual
def T.sl : T → List Nat
  | .nm i => [i]
  | .tp ts => T.sls ts
def T.sls : List T → List Nat
  | [] => []
  | t :: ts => T.sl t ++ T.sls ts
end
/-- a name that is stored: its place -/
structure Nm (X : Cx) (i : Nat) (x : Str) : Prop where
  at_ : X.N[i]? = some x
  loc : Loc X.env.scope x
  fn : X.fn x = true ∨ X.env.scope.names.lookup x = some .local
mutual
inductive Tg (X : Cx) : Expr → T → Prop
  | nm {i : Nat} {x : Str} {pos : Pos} : Nm X i x → Tg X (.Name x pos) (.nm i)
  | tp {es : List Expr} {ts : List T} {k : Nat} {pos : Pos} : TgL X es ts → Tg X (.Tuple es k pos) (.tp ts)
inductive TgL (X : Cx) : List Expr → List T → Prop
  | nil : TgL X [] []
  | cons {e : Expr} {es : List Expr} {t : T} {ts : List T} : Tg X e t → TgL X es ts → TgL X (e :: es) (t :: ts)
end
/-- the slots behind a store: those of the target alone are others -/
def Off (l : List Nat) (σ σ' : L2.St) : Prop := σ'.length = σ.length ∧ ∀ j, j ∉ l → σ'[j]? = σ[j]?
def gT (G : Gx) (t : T) : TG := fun v σ H Q => ∃ α hd σD d σD', StR G α hd H ∧ SlR G hd.length α H σD σ ∧ RD G hd.length α H d v ∧ asgT t d σD = some σD' ∧ ∀ σ', SlR G hd.length α H σD' σ' → Off t.sl σ σ' → Q σ' H
def gTs (G : Gx) (ts : List T) : TGs := fun vs σ H Q => ∃ α hd σD ds σD', StR G α hd H ∧ SlR G hd.length α H σD σ ∧ RDs G hd.length α H ds vs ∧ asgTs ts ds σD = some σD' ∧ ∀ σ', SlR G hd.length α H σD' σ' → Off (T.sls ts) σ σ' → Q σ' H
section
variable {G : Gx} {X : Cx} {W : WX}
theorem _root_.L2.PG.imp {X : Cx} {e : Expr} {t t' : TG} (h : PG X e t) (hi : ∀ v σ H Q, t' v σ H Q → t v σ H Q) : PG X e t' := ⟨fun pins s σ H v u Q I r q => h.run pins s σ H v u Q I r (hi v σ H Q q)⟩
theorem _root_.L2.PGs.imp {X : Cx} {e : List Expr} {t t' : TGs} (h : PGs X e t) (hi : ∀ v σ H Q, t' v σ H Q → t v σ H Q) : PGs X e t' := ⟨fun pins s σ H v u Q I r q => h.run pins s σ H v u Q I r (hi v σ H Q q)⟩
theorem TgL.len {es : List Expr} {ts : List T} {env : Env} : TgL X es ts → (assignEach es env).length = ts.length ∧ (assignEach es env).findIdx? (·.1) = none
  | .nil => ⟨rfl, rfl⟩
  | .cons (e := e) (es := es) h r => by
    obtain ⟨l, f⟩ := TgL.len (env := env) r
    have : assignEach (e :: es) env = (false, assign e env) :: assignEach es env := by cases h <;> rfl
    rw [this]
    exact ⟨by rw [List.length_cons, List.length_cons, l], by rw [List.findIdx?_cons]; simp [f]⟩
mutual
theorem dg (hK : X.K = G.K) (hc : X.calm = true) (nd : X.N.Nodup) : ∀ {e : Expr} {t : T}, Tg X e t → PG X e (gT G t)
  | _, _, .nm (i := i) h => (pg_name nd h.at_ h.loc h.fn).imp fun v σ H Q ⟨α, hd, σD, d, σD', st, sl, r, e, q⟩ => by
    simp only [asgT] at e
    by_cases c : i < σD.length
    · rw [if_pos c] at e
      cases e
      refine q _ (sl.set r) ⟨by simp, fun j hj => ?_⟩
      have : i ≠ j := fun e => hj (by rw [← e]; exact List.mem_singleton.mpr rfl)
      rw [List.getElem?_set_ne this]
    · rw [if_neg c] at e; cases e
  | _, _, .tp (es := es) (ts := ts) h => (pg_tup hc (dgs hK hc nd h) (h.len.1) (h.len.2)).imp fun v σ H Q ⟨α, hd, σD, d, σD', st, sl, r, e, q⟩ => by
    cases d with
    | tup xs =>
      obtain ⟨p, vs, rfl, t, rr⟩ := RDtup r
      have e' : asgTs ts xs σD = some σD' := e
      refine ⟨p, vs, rfl, hK ▸ t, ?_, α, hd, σD, xs, σD', st, sl, rr, e', q⟩
      rw [rr.length]
      exact asgTs_len e'
    | _ => cases e
theorem dgs (hK : X.K = G.K) (hc : X.calm = true) (nd : X.N.Nodup) : ∀ {es : List Expr} {ts : List T}, TgL X es ts → PGs X es (gTs G ts)
  | _, _, .nil => pgs_nil.imp fun v σ H Q ⟨α, hd, σD, d, σD', st, sl, r, e, q⟩ => by
    cases d with
    | nil =>
      unfold RDs at r
      cases e
      exact ⟨r, q σ sl ⟨rfl, fun _ _ => rfl⟩⟩
    | cons x xs => cases e
  | _, _, .cons (e := e) (es := es) (t := t) (ts := ts) h hr => (pgs_cons (dg hK hc nd h) (dgs hK hc nd hr) (by cases h <;> rfl)).imp fun v σ H Q ⟨α, hd, σD, d, σD', st, sl, r, ea, q⟩ => by
    cases d with
    | nil => cases ea
    | cons x xs =>
      unfold RDs at r
      obtain ⟨w, ws, rfl, r1, r2⟩ := r
      simp only [asgTs] at ea
      cases e1 : asgT t x σD with
      | none => rw [e1] at ea; cases ea
      | some σ1 =>
        rw [e1] at ea
        refine ⟨w, ws, rfl, α, hd, σD, x, σ1, st, sl, r1, e1, fun σ' s1 o1 => ⟨α, hd, σ1, xs, σD', st, s1, r2, ea, fun σ2 s2 o2 => q σ2 s2 ⟨o2.1.trans o1.1, fun j hj => ?_⟩⟩⟩
        have hj' : j ∉ T.sl t ∧ j ∉ T.sls ts := by
          refine ⟨fun h => hj ?_, fun h => hj ?_⟩
          · show j ∈ T.sl t ++ T.sls ts; exact List.mem_append_left _ h
          · show j ∈ T.sl t ++ T.sls ts; exact List.mem_append_right _ h
        rw [o2.2 j hj'.2, o1.2 j hj'.1]
theorem asgTs_len : ∀ {ts : List T} {xs : List D} {σ σ' : Sl}, asgTs ts xs σ = some σ' → xs.length = ts.length
  | [], [], _, _, _ => rfl
  | [], _ :: _, _, _, e => by cases e
  | _ :: _, [], _, _, e => by cases e
  | t :: ts, x :: xs, σ, σ', e => by
    simp only [asgTs] at e
    cases e1 : asgT t x σ with
    | none => rw [e1] at e; cases e
    | some σ1 => rw [e1] at e; rw [List.length_cons, List.length_cons, asgTs_len e]
end
theorem wipe_get {σ : L2.St} : ∀ {vs : List Nat} (j : Nat), j ∈ vs → j < σ.length → (L2.wipe σ vs)[j]? = some none
  | v :: vs, j, h, hl => by
    unfold L2.wipe
    by_cases e : v = j
    · subst e
      rw [List.getElem?_set_self (by rw [wipe_length]; exact hl)]
    · rw [List.getElem?_set_ne e]
      rcases List.mem_cons.mp h with rfl | h
      · exact absurd rfl e
      · exact wipe_get j h hl
theorem wipe_off {σ σ' : L2.St} {vs l : List Nat} (o : Off l (L2.wipe σ vs) σ') (hs : ∀ j, j ∈ l → j ∈ vs) : L2.wipe σ' vs = L2.wipe σ vs := by
  have hl : σ'.length = σ.length := by rw [o.1, wipe_length]
  apply List.ext_getElem?
  intro j
  by_cases hv : j ∈ vs
  · by_cases hj : j < σ.length
    · rw [wipe_get j hv (by rw [hl]; exact hj), wipe_get j hv hj]
    · rw [List.getElem?_eq_none (by rw [wipe_length, hl]; omega), List.getElem?_eq_none (by rw [wipe_length]; omega)]
  · rw [L2.wipe_out hv, o.2 j (fun h => hv (hs j h))]
end
end Mp
set_option maxHeartbeats 4000000
/-! MiniPy, part 22: dicts that are walked: locked, read, opened again. -/
namespace Mp
open PySem PySem.Spec PyProof.Rows L2
section
variable {X : Cx} {pins : List (Addr × Obj)} {σ : L2.St} {H : Hp} {s : Shared} {d : Addr} {o : Obj} {w : World} {es : List (NestedKey × V × V)}
abbrev EnR (w : World) : NestedKey × V × V → DictEntry → Prop := fun e x => x.hash = e.1.hash w ∧ RelV e.2.1 x.key ∧ RelV e.2.2 x.val
/-- a locked dict, as the model has it -/
theorem frzD (I : Inv X pins σ H s) (h : H d = some (.frz o (DctO w d es))) : (d == sysModules) = false ∧ ∃ xs ep, s.heap.get? d = some o ∧ o.ExactDict ∧ o.data = .dict xs ep ∧ Paired (EnR w) es xs.toList := by
  obtain ⟨g, ⟨o', xs, ep, g', ex, dt, pr, sm, _⟩, _⟩ := I.hok d _ h
  rw [g] at g'
  cases g'
  exact ⟨sm, xs, ep, g, ex, dt, pr⟩
theorem pr_at {w : World} {es : List (NestedKey × V × V)} {xs : Array DictEntry} (h : Paired (EnR w) es xs.toList) : xs.size = es.length ∧ ∀ i (hi : i < xs.size), ∃ e, es[i]? = some e ∧ EnR w e xs[i] := by
  have l : es.length = xs.toList.length := Paired.length h
  refine ⟨by rw [l, Array.length_toList], fun i hi => ?_⟩
  have hi' : i < es.length := by rw [l, Array.length_toList]; exact hi
  obtain ⟨b, hb, r⟩ := paired_get h (List.getElem?_eq_getElem hi')
  rw [Array.getElem?_toList, Array.getElem?_eq_getElem hi] at hb
  cases hb
  exact ⟨_, List.getElem?_eq_getElem hi', r⟩
/-- keys, values, pairs of a locked dict -/
def Ikd (d : Addr) (o : Obj) (u : HO) (es : List (NestedKey × V × V)) : It := ⟨fun i H => H d = some (.frz o u) ∧ i < es.length, fun i H x H' => H' = H ∧ ∃ e, es[i]? = some e ∧ x = e.2.1, fun i H => H d = some (.frz o u) ∧ es.length ≤ i⟩
def Ivd (d : Addr) (o : Obj) (u : HO) (es : List (NestedKey × V × V)) : It := ⟨fun i H => H d = some (.frz o u) ∧ i < es.length, fun i H x H' => H' = H ∧ ∃ e, es[i]? = some e ∧ x = e.2.2, fun i H => H d = some (.frz o u) ∧ es.length ≤ i⟩
def Iid (d : Addr) (o : Obj) (u : HO) (es : List (NestedKey × V × V)) : It := ⟨fun i H => H d = some (.frz o u) ∧ i < es.length, fun i H x H' => ∃ T e, es[i]? = some e ∧ x = .ref T ∧ H T = none ∧ H' = upd H T (.tup [e.2.1, e.2.2]), fun i H => H d = some (.frz o u) ∧ es.length ≤ i⟩
variable {P : Program} {K : PySem.W.Frag} {tg : Expr} {xs : Array DictEntry} {ep : Nat}
theorem raw_of {h : Heap} (g : h.get? d = some o) (ex : o.ExactDict) (dt : o.data = .dict xs ep) : h.DictRaw d xs ep := ⟨o, g, ex, dt⟩
theorem sameEp {o : Obj} {xs ys : Array DictEntry} {ep eq : Nat} (h : o.data = .dict xs ep) (h' : o.data = .dict ys eq) : ys = xs ∧ eq = ep := by
  rw [h'] at h; cases h; exact ⟨rfl, rfl⟩
theorem turn_kd {P : Program} {w w' : World} (it : Addr) (hod : o.data = .dict xs ep) : Turn P w' K tg (Ikd d o (DctO w d es) es) [it] it (fun i h => h.IsKeyIter it d i xs.size ep) := by
  refine ⟨List.mem_singleton.mpr rfl, fun i h st b hb => ?_, fun i h h' st k => st.at fun oi e => k it (List.mem_singleton.mpr rfl) oi e, ?_, ?_, fun A i s Q E st h => ?_⟩
  · obtain rfl := List.mem_singleton.mp hb
    exact let ⟨oi, e, c, dd⟩ := st; ⟨oi, e, fun v z => by rw [dd] at z; cases z⟩
  · rintro X rfl rfl rfl hc i pins s σ H E I hf st ⟨hd, hi⟩
    obtain ⟨sm, ys, eq, g, ex, dt, pr⟩ := frzD I hd
    obtain ⟨rfl, rfl⟩ := sameEp hod dt
    obtain ⟨hsz, at_⟩ := pr_at pr
    have hi2 : i < ys.size := by rw [hsz]; exact hi
    obtain ⟨f0, f1, f2, f3, f4, f5⟩ := hf it (List.mem_singleton.mpr rfl)
    refine wpAny_pyNext_keys_item_raw st (raw_of g ex dt) hi2 fun h' st' sb => ?_
    obtain ⟨e, he, _, r, _⟩ := at_ i hi2
    have I1 : Inv X pins σ H { s with heap := h' } := I.turned (t' := s.toks) (fun b ob hb q => (sb.2 b hb).trans q) f0 f1 f3 f4 f5
    exact ⟨_, rfl, let ⟨oi, q, c, dd⟩ := id st'; go_of (s := { s with heap := h' }) q c dd (by decide) ⟨e.2.1, H, I1, r, ⟨rfl, e, he, rfl⟩, st', fun b hb => (hf b hb).1⟩⟩
  · rintro X rfl rfl rfl hc i pins s σ H E I hf st ⟨hd, hi⟩
    obtain ⟨sm, ys, eq, g, ex, dt, pr⟩ := frzD I hd
    obtain ⟨rfl, rfl⟩ := sameEp hod dt
    obtain ⟨f0, f1, f2, f3, f4, f5⟩ := hf it (List.mem_singleton.mpr rfl)
    exact wpAny_pyNext_keys_end_raw (I.ok.hd hc) st (raw_of g ex dt) (by rw [(pr_at pr).1]; exact hi) fun h' eb => ⟨rfl, I.turned (t' := s.toks) (fun b ob hb q => eb b ob hb q) f0 f1 f3 f4 f5⟩
  · exact (turn_keysT (P := P) (w := w') (K := K) (tg := tg) (d := d) (o := o) (kvs := List.replicate xs.size ([], V.non)) it hod).self A i s Q E (by rw [List.length_replicate]; exact st) h
theorem turn_vd {P : Program} {w w' : World} (it : Addr) (hod : o.data = .dict xs ep) : Turn P w' K tg (Ivd d o (DctO w d es) es) [it] it (fun i h => h.IsValIter it d i xs.size ep) := by
  refine ⟨List.mem_singleton.mpr rfl, fun i h st b hb => ?_, fun i h h' st k => st.at fun oi e => k it (List.mem_singleton.mpr rfl) oi e, ?_, ?_, fun A i s Q E st h => wpAny_pyIter_valiter st h⟩
  · obtain rfl := List.mem_singleton.mp hb
    exact let ⟨oi, e, c, dd⟩ := st; ⟨oi, e, fun v z => by rw [dd] at z; cases z⟩
  · rintro X rfl rfl rfl hc i pins s σ H E I hf st ⟨hd, hi⟩
    obtain ⟨sm, ys, eq, g, ex, dt, pr⟩ := frzD I hd
    obtain ⟨rfl, rfl⟩ := sameEp hod dt
    obtain ⟨hsz, at_⟩ := pr_at pr
    have hi2 : i < ys.size := by rw [hsz]; exact hi
    obtain ⟨f0, f1, f2, f3, f4, f5⟩ := hf it (List.mem_singleton.mpr rfl)
    refine wpAny_pyNext_values_item_raw st (raw_of g ex dt) hi2 fun h' st' sb => ?_
    obtain ⟨e, he, _, _, r⟩ := at_ i hi2
    have I1 : Inv X pins σ H { s with heap := h' } := I.turned (t' := s.toks) (fun b ob hb q => (sb.2 b hb).trans q) f0 f1 f3 f4 f5
    exact ⟨_, rfl, let ⟨oi, q, c, dd⟩ := id st'; go_of (s := { s with heap := h' }) q c dd (by decide) ⟨e.2.2, H, I1, r, ⟨rfl, e, he, rfl⟩, st', fun b hb => (hf b hb).1⟩⟩
  · rintro X rfl rfl rfl hc i pins s σ H E I hf st ⟨hd, hi⟩
    obtain ⟨sm, ys, eq, g, ex, dt, pr⟩ := frzD I hd
    obtain ⟨rfl, rfl⟩ := sameEp hod dt
    obtain ⟨f0, f1, f2, f3, f4, f5⟩ := hf it (List.mem_singleton.mpr rfl)
    exact wpAny_pyNext_values_end_raw (I.ok.hd hc) st (raw_of g ex dt) (by rw [(pr_at pr).1]; exact hi) fun h' eb => ⟨rfl, I.turned (t' := s.toks) (fun b ob hb q => eb b ob hb q) f0 f1 f3 f4 f5⟩
theorem turn_id {P : Program} {w w' : World} {elts : List Expr} {kk : Nat} {tpos : Pos} (it : Addr) (hod : o.data = .dict xs ep) :
    Turn P w' K (.Tuple elts kk tpos) (Iid d o (DctO w d es) es) [it] it (fun i h => ∃ ok ov, IsItemIter h it d i xs.size ep ok ov) := by
  refine ⟨List.mem_singleton.mpr rfl, fun i h st b hb => ?_, fun i h h' ⟨ok, ov, e⟩ k => ⟨ok, ov, k it (List.mem_singleton.mpr rfl) _ e⟩, ?_, ?_, fun A i s Q E ⟨_, _, e⟩ h => PySem.W.kcp_self e h⟩
  · obtain rfl := List.mem_singleton.mp hb
    exact let ⟨ok, ov, e⟩ := st; ⟨_, e, fun v z => nomatch z⟩
  · rintro X rfl rfl rfl hc i pins s σ H E I hf ⟨ok, ov, he⟩ ⟨hd, hi⟩
    obtain ⟨sm, ys, eq, g, ex, dt, pr⟩ := frzD I hd
    obtain ⟨rfl, rfl⟩ := sameEp hod dt
    obtain ⟨hsz, at_⟩ := pr_at pr
    have hi2 : i < ys.size := by rw [hsz]; exact hi
    have hlt : it < s.heap.objs.size := Heap.lt_size he
    refine wpAny_pyNext_items_item_raw he (raw_of g ex dt) hi2 fun h' ho hT hz hk => ⟨_, rfl, wpAny_letOwnedTupleGo_items (s := { s with heap := h' }) ho fun h'' he' sb => ?_⟩
    obtain ⟨e, hx, _, r1, r2⟩ := at_ i hi2
    have hT2 := (sb.2 _ (Nat.ne_of_gt hlt)).trans hT
    have I1 := I.turnedNew (t' := s.toks) (ch := [it]) (T := s.heap.objs.size) (ob := .tup [e.2.1, e.2.2]) (h' := h'') (fun b ob hb q => (sb.2 b (by simpa using hb)).trans (hk b ob (by simpa using hb) q)) hf (Nat.le_refl _)
      ⟨by show 2 ≤ sizeLine; decide, [ys[i].key, ys[i].val], .cons r1 (.cons r2 .nil), ⟨_, hT2, rfl, _, rfl⟩⟩
    refine ⟨.ref s.heap.objs.size, _, I1, rfl, ⟨_, e, hx, rfl, I.hok.fresh (Nat.le_refl _), rfl⟩, ⟨_, _, he'⟩, fun b hb => ?_⟩
    obtain rfl := List.mem_singleton.mp hb
    rw [upd_ne (Nat.ne_of_lt hlt)]
    exact (hf b (List.mem_singleton.mpr rfl)).1
  · rintro X rfl rfl rfl hc i pins s σ H E I hf ⟨ok, ov, he⟩ ⟨hd, hi⟩
    obtain ⟨sm, ys, eq, g, ex, dt, pr⟩ := frzD I hd
    obtain ⟨rfl, rfl⟩ := sameEp hod dt
    obtain ⟨f0, f1, f2, f3, f4, f5⟩ := hf it (List.mem_singleton.mpr rfl)
    exact wpAny_pyNext_items_end_raw (I.ok.hd hc) he (raw_of g ex dt) (by rw [(pr_at pr).1]; exact hi) fun h' eb => ⟨rfl, I.turned (t' := s.toks) (fun b ob hb q => eb b ob hb q) f0 f1 f3 f4 f5⟩
end
/-! ### the walks begin: the dict is locked -/
def iLk (X : Cx) (J : Addr → Obj → HO → List (NestedKey × V × V) → It) (td : TE) : TI := fun σ H R => td σ H fun x H1 => ∃ d w es, x = .ref d ∧
  ((H1 d = some (DctO w d es) ∧ ∀ od, (∀ o' u', X.H_0 d ≠ some (.frz o' u')) → R (J d od (DctO w d es) es) (upd H1 d (.frz od (DctO w d es)))) ∨ ∃ od, H1 d = some (.frz od (DctO w d es)) ∧ R (J d od (DctO w d es) es) H1)
section
variable {X : Cx} {pins : List (Addr × Obj)} {σ : L2.St} {H : Hp} {s : Shared} {tg e : Expr} {td : TE} {apos cpos : Pos}
theorem lk_in {J : Addr → Obj → HO → List (NestedKey × V × V) → It} {R : It → Hp → Prop} {d : Addr} {w : World} {es : List (NestedKey × V × V)} (I : Inv X pins σ H s)
    (q : (H d = some (DctO w d es) ∧ ∀ od, (∀ o' u', X.H_0 d ≠ some (.frz o' u')) → R (J d od (DctO w d es) es) (upd H d (.frz od (DctO w d es)))) ∨ ∃ od, H d = some (.frz od (DctO w d es)) ∧ R (J d od (DctO w d es) es) H) :
    ∃ od H2, Inv X pins σ H2 s ∧ H2 d = some (.frz od (DctO w d es)) ∧ R (J d od (DctO w d es) es) H2 := by
  rcases q with ⟨h, q⟩ | ⟨od, h, q⟩
  · obtain ⟨od, I2⟩ := I.lock h trivial
    exact ⟨od, _, I2, upd_same, q od (I.nofrz h trivial)⟩
  · exact ⟨od, H, I, h, q⟩
theorem pi_kd (he : PE X e td) : PI X tg e (iLk X Ikd td) := by
  refine ⟨fun pins s σ H R I h => thn (he.run pins s σ H _ I h) fun u s1 ⟨x, H1, I1, rx, d, w, es, ex, q⟩ => ?_⟩
  subst ex
  obtain rfl : u = Value.ref d := rx
  obtain ⟨od, H2, I2, h2, q⟩ := lk_in I1 q
  obtain ⟨sm, xs, ep, g, ex, dt, pr⟩ := frzD I2 h2
  exact wpAny_pyIter_dict_raw sm (raw_of g ex dt) (pi_one (tk := s1.toks) I2 _ (turn_kd _ dt) ⟨_, Heap.get?_push_size _ rfl, rfl, rfl⟩ q)
theorem pi_kdM (he : PE X e td) (hbase : attributeBase e "keys" X.env (eval e X.env) = eval e X.env) (hline : (apos.endLine == cpos.line) = true) : PI X tg (.Call (.Attribute e "keys" apos) [] [] cpos) (iLk X Ikd td) := by
  refine ⟨fun pins s σ H R I h => wpAny_Call_method (T := "dict") (id := "dict.keys") hbase rfl hline F.plainAttrs_dict F.slot_dict_keys F.type_dict_keys (thn (he.run pins s σ H _ I h) fun u s1 ⟨x, H1, I1, rx, d, w, es, ex, q⟩ => ?_)⟩
  subst ex
  obtain rfl : u = Value.ref d := rx
  obtain ⟨od, H2, I2, h2, q⟩ := lk_in I1 q
  obtain ⟨sm, xs, ep, g, ex, dt, pr⟩ := frzD I2 h2
  have ty := (raw_of g ex dt).typeIs (s := s1)
  refine ⟨ty, fun b z => by cases z; exact ⟨od, g, ex.2.1⟩, ?_⟩
  have I3 : Inv X pins σ H2 { s1 with heap := s1.heap.push { cls := .type "dict_keys", data := .fields #[.ref d] } } := I2.kept (t' := s1.toks) fun b ob q => Heap.get?_push_of_some _ q
  have rw3 : (s1.heap.push { cls := .type "dict_keys", data := .fields #[.ref d] }).DictRaw d xs ep := raw_of (Heap.get?_push_of_some _ g) ex dt
  have fin := wpAny_pyIter_keys_raw (prog := X.prog) (w := X.w) (A := X.A) (E := X.xe) (s := { s1 with heap := s1.heap.push { cls := .type "dict_keys", data := .fields #[.ref d] } }) ⟨_, Heap.get?_push_size _ rfl, rfl, rfl⟩ rw3 (pi_one (tg := tg) (tk := s1.toks) I3 _ (turn_kd _ dt) ⟨_, Heap.get?_push_size _ rfl, rfl, rfl⟩ q)
  exact method_meetsIn F.slot_dict_keys F.entry_dict_keys rfl (PySem.evalArgs_none ⟨rfl, ty, F.args_dict_keys_1 _, _, meets_dict_keys_raw d sm, ⟨xs, ep, raw_of g ex dt⟩, fin⟩)
theorem pi_vdM (he : PE X e td) (hbase : attributeBase e "values" X.env (eval e X.env) = eval e X.env) (hline : (apos.endLine == cpos.line) = true) : PI X tg (.Call (.Attribute e "values" apos) [] [] cpos) (iLk X Ivd td) := by
  refine ⟨fun pins s σ H R I h => wpAny_Call_method (T := "dict") (id := "dict.values") hbase rfl hline F.plainAttrs_dict F.slot_dict_values F.type_dict_values (thn (he.run pins s σ H _ I h) fun u s1 ⟨x, H1, I1, rx, d, w, es, ex, q⟩ => ?_)⟩
  subst ex
  obtain rfl : u = Value.ref d := rx
  obtain ⟨od, H2, I2, h2, q⟩ := lk_in I1 q
  obtain ⟨sm, xs, ep, g, ex, dt, pr⟩ := frzD I2 h2
  have ty := (raw_of g ex dt).typeIs (s := s1)
  refine ⟨ty, fun b z => by cases z; exact ⟨od, g, ex.2.1⟩, ?_⟩
  have I3 : Inv X pins σ H2 { s1 with heap := s1.heap.push { cls := .type "dict_values", data := .fields #[.ref d] } } := I2.kept (t' := s1.toks) fun b ob q => Heap.get?_push_of_some _ q
  have rw3 : (s1.heap.push { cls := .type "dict_values", data := .fields #[.ref d] }).DictRaw d xs ep := raw_of (Heap.get?_push_of_some _ g) ex dt
  have fin := wpAny_pyIter_values_raw (prog := X.prog) (w := X.w) (A := X.A) (E := X.xe) (s := { s1 with heap := s1.heap.push { cls := .type "dict_values", data := .fields #[.ref d] } }) ⟨_, Heap.get?_push_size _ rfl, rfl, rfl⟩ rw3 (pi_one (tg := tg) (tk := s1.toks) I3 _ (turn_vd _ dt) ⟨_, Heap.get?_push_size _ rfl, rfl, rfl⟩ q)
  exact method_meetsIn F.slot_dict_values F.entry_dict_values rfl (PySem.evalArgs_none ⟨rfl, ty, F.args_dict_values_1 _, _, meets_dict_values_raw d sm, ⟨xs, ep, raw_of g ex dt⟩, fin⟩)
theorem pi_idM {elts : List Expr} {kk : Nat} {tpos : Pos} (he : PE X e td) (hbase : attributeBase e "items" X.env (eval e X.env) = eval e X.env) (hline : (apos.endLine == cpos.line) = true) : PI X (.Tuple elts kk tpos) (.Call (.Attribute e "items" apos) [] [] cpos) (iLk X Iid td) := by
  refine ⟨fun pins s σ H R I h => wpAny_Call_method (T := "dict") (id := "dict.items") hbase rfl hline F.plainAttrs_dict F.slot_dict_items F.type_dict_items (thn (he.run pins s σ H _ I h) fun u s1 ⟨x, H1, I1, rx, d, w, es, ex, q⟩ => ?_)⟩
  subst ex
  obtain rfl : u = Value.ref d := rx
  obtain ⟨od, H2, I2, h2, q⟩ := lk_in I1 q
  obtain ⟨sm, xs, ep, g, ex, dt, pr⟩ := frzD I2 h2
  have ty := (raw_of g ex dt).typeIs (s := s1)
  refine ⟨ty, fun b z => by cases z; exact ⟨od, g, ex.2.1⟩, ?_⟩
  have I3 : Inv X pins σ H2 { s1 with heap := s1.heap.push { cls := .type "dict_items", data := .fields #[.ref d] } } := I2.kept (t' := s1.toks) fun b ob q => Heap.get?_push_of_some _ q
  have rw3 : (s1.heap.push { cls := .type "dict_items", data := .fields #[.ref d] }).DictRaw d xs ep := raw_of (Heap.get?_push_of_some _ g) ex dt
  have fin := wpAny_pyIter_items_raw (prog := X.prog) (w := X.w) (A := X.A) (E := X.xe) (s := { s1 with heap := s1.heap.push { cls := .type "dict_items", data := .fields #[.ref d] } }) ⟨_, Heap.get?_push_size _ rfl, rfl, rfl⟩ rw3 (pi_one (tg := .Tuple elts kk tpos) (tk := s1.toks) I3 _ (turn_id _ dt) ⟨.none, .none, Heap.get?_push_size _ rfl⟩ q)
  exact method_meetsIn F.slot_dict_items F.entry_dict_items rfl (PySem.evalArgs_none ⟨rfl, ty, F.args_dict_items_1 _, _, meets_dict_items_raw d sm, ⟨xs, ep, raw_of g ex dt⟩, fin⟩)
end
/-! ### opened again -/
section
variable {X : Cx}
/-- .. at the heap, or where some dict is open again -/
def opQ (X : Cx) (P : Hp → Prop) (H : Hp) : Prop := P H ∨ ∃ d od u, H d = some (.frz od u) ∧ (∀ o' u', X.H_0 d ≠ some (.frz o' u')) ∧ P (upd H d u)
def opD (X : Cx) (D : Ends) : Ends := ⟨fun σ => opQ X (D.nx σ), fun v => opQ X (D.rt v), fun σ => opQ X (D.bk σ), fun σ => opQ X (D.ct σ)⟩
def opW (X : Cx) (W : WX) : WX := fun c d σ H => W c d σ H ∨ ∃ b od u, H b = some (.frz od u) ∧ (∀ o' u', X.H_0 b ≠ some (.frz o' u')) ∧ (∀ a, H a = none → upd H b u a = none) ∧ W c d σ (upd H b u)
theorem op_in {pins : List (Addr × Obj)} {σ : L2.St} {H : Hp} {s : Shared} {P : Hp → Prop} (I : Inv X pins σ H s) (h : opQ X P H) : ∃ H', Inv X pins σ H' s ∧ P H' := by
  rcases h with h | ⟨d, od, u, e, n, h⟩
  · exact ⟨H, I, h⟩
  · exact ⟨_, I.unlock e n, h⟩
theorem ps_op {st : Stmt} {t : TS} (h : PS X st t) : PS X st (fun D σ H => t (opD X D) σ H) := by
  refine ⟨fun pins s σ H D I hw => thn (h.run pins s σ _ _ I hw) fun f s1 q => ?_⟩
  cases f with
  | next => obtain ⟨σ', H', I2, q⟩ := q; obtain ⟨H2, I3, q⟩ := op_in I2 q; exact ⟨σ', H2, I3, q⟩
  | brk => obtain ⟨σ', H', I2, q⟩ := q; obtain ⟨H2, I3, q⟩ := op_in I2 q; exact ⟨σ', H2, I3, q⟩
  | cont => obtain ⟨σ', H', I2, q⟩ := q; obtain ⟨H2, I3, q⟩ := op_in I2 q; exact ⟨σ', H2, I3, q⟩
  | ret v => obtain ⟨x, σ', H', I2, r, q⟩ := q; obtain ⟨H2, I3, q⟩ := op_in I2 q; exact ⟨x, σ', H2, I3, r, q⟩
theorem pe_op' {e : Expr} {t : TE} (h : PE X e t) : PE X e (fun σ H Q => t σ H fun v => opQ X (Q v)) := by
  refine ⟨fun pins s σ H Q I hw => thn (h.run pins s σ _ _ I hw) fun v s1 ⟨x, H1, I2, r, q⟩ => ?_⟩
  obtain ⟨H2, I3, q⟩ := op_in I2 q
  exact ⟨x, H2, I3, r, q⟩
theorem tk_op {W : WX} (tk : Takes X W) : Takes X (opW X W) := fun u s' ⟨a, B, sI, pins, σ, H, cls, d, e, I, nb, up, sky, na, os, ag, w⟩ => by
  rcases w with w | ⟨b, od, ub, e1, n, f, w⟩
  · exact tk u s' ⟨a, B, sI, pins, σ, H, cls, d, e, I, nb, up, sky, na, os, ag, w⟩
  · exact tk u s' ⟨a, B, sI, pins, σ, _, cls, d, e, I.unlock e1 n, nb, up, sky, f a na, os, ag, w⟩
end
end Mp
set_option maxHeartbeats 1000000
/-! MiniPy, part 8: what is walked; comprehensions. -/
namespace Mp
open PySem PySem.Spec PyProof.Rows L2
/-- the iterator J, at these heaps, walks the items xs -/
def Rdy (G : Gx) (J : It) (xs : List D) (α : Al) (hd : Hd) (H : Hp) : Prop :=
  ∀ i : Nat, (i < xs.length → J.go i H ∧ ∀ v H', J.yld i H v H' → ∃ x, xs[i]? = some x ∧ RD G hd.length α H' x v ∧ Ex hd.length α H hd.length α H' ∧ StR G α hd H') ∧ (xs.length ≤ i → J.stop i H)
/-- .. at all later heaps where the source stands -/
def Wks (G : Gx) (J : It) (q : Sq) (xs : List D) (n1 : Nat) (α1 : Al) (H1 : Hp) : Prop :=
  ∀ α hd H, Ex n1 α1 H1 hd.length α H → StR G α hd H → still hd q = true → Rdy G J xs α hd H
/-- a dict that is locked here was open where the code began -/
def Fq (X : Cx) (H : Hp) (q : Sq) (α : Al) : Prop := match q with
  | .d k false _ => (∀ o u, X.H_0 (α k) ≠ some (.frz o u)) ∧ ∀ o u, H (α k) ≠ some (.frz o u)
  | _ => True
/-- a walked thing's reading by a run -/
def tI (G : Gx) (X : Cx) (W : WX) (f : Sl → Hd → R Wk) : TI := fun σ H Rr => ∃ α σD hd, StR G α hd H ∧ SlR G hd.length α H σD σ ∧ match f σD hd with
  | .ok ((q, xs), h1) => ∀ α1 H1 J, Ex hd.length α H h1.length α1 H1 → StR G α1 h1 H1 → still h1 q = true → Fq X H q α1 → Wks G J q xs h1.length α1 H1 → Rr J H1
  | .ex c h1 => ∀ α1 H1, Ex hd.length α H h1.length α1 H1 → StR G α1 h1 H1 → W (.ref (G.ca c)) none σ H1
  | .no => False
theorem _root_.L2.PI.imp {X : Cx} {tg e : Expr} {t t' : TI} (h : PI X tg e t) (hi : ∀ σ H Q, t' σ H Q → t σ H Q) : PI X tg e t' := ⟨fun pins s σ H Q I q => h.run pins s σ H Q I (hi σ H Q q)⟩
section
variable {G : Gx} {X : Cx} {W : WX} {pos p : Pos} {tg a b : Expr} {fa fb : Sl → Hd → R (Rv × Hd)}
theorem sqOf_still {h1 : Hd} {d : D} {q : Sq} (e : sqOf h1 d = some q) (nd : ∀ k lk kvs, q ≠ .d k lk kvs) : still h1 q = true := by
  cases d with
  | tup xs => cases e; rfl
  | str x => cases e; rfl
  | ob k =>
    simp only [sqOf] at e
    cases ek : h1[k]? with
    | none => rw [ek] at e; cases e
    | some o =>
      rw [ek] at e
      cases o with
      | lst xs => cases e; simp [still, ek]
      | scr xs => cases e; simp [still, ek]
      | dct l kvs => cases e; exact absurd rfl (nd _ _ _)
      | ins c fs => cases e
  | _ => cases e
theorem qs_still {r : R (Rv × Hd)} {q : Sq} {h1 : Hd} (e : qs r = .ok (q, h1)) (nd : ∀ k lk kvs, q ≠ .d k lk kvs) : still h1 q = true := by
  cases r with
  | no => cases e
  | ex c h => cases e
  | ok p =>
    obtain ⟨v, h⟩ := p
    cases v with
    | l xs => cases e; rfl
    | v d =>
      have e' : (match sqOf h d with | some q => R.ok (q, h) | none => .no) = R.ok (q, h1) := e
      cases es : sqOf h d with
      | none => rw [es] at e'; cases e'
      | some q' => rw [es] at e'; cases e'; exact sqOf_still es nd
theorem still_lst {hd : Hd} {k : Nat} {xs : List D} (h : still hd (.l (some k) xs) = true) : hd[k]? = some (.lst xs) ∨ hd[k]? = some (.scr xs) := by
  simpa [still] using h
/-- a list of ours, as it stands -/
theorem still_rel {α : Al} {hd : Hd} {H : Hp} {k : Nat} {xs : List D} (st : StR G α hd H) (h : still hd (.l (some k) xs) = true) : ∃ vs, SqL G.K H (α k) vs ∧ RDs G hd.length α H xs vs := by
  rcases still_lst h with e | e
  · obtain ⟨vs, e1, r⟩ := st.ob k _ e; exact ⟨vs, SqL.of e1, r⟩
  · obtain ⟨vs, ⟨o, e1⟩, r⟩ := st.ob k _ e; exact ⟨vs, .inl (.inr ⟨o, e1⟩), r⟩
theorem rdy_list {α : Al} {hd : Hd} {H : Hp} {a : Addr} {xs : List D} {vs : List V} (st : StR G α hd H) (h : SqL G.K H a vs) (r : RDs G hd.length α H xs vs) : Rdy G (Itl G.K a) xs α hd H := fun i => by
  refine ⟨fun hi => ?_, fun hi => ⟨vs, h, by rw [r.length]; exact hi⟩⟩
  have ex : xs[i]? = some xs[i] := List.getElem?_eq_getElem hi
  obtain ⟨v, ev, rv⟩ := r.get ex
  refine ⟨⟨vs, v, h, ev⟩, fun w H' ⟨e, y⟩ => ?_⟩
  subst e
  have := y vs h
  rw [ev] at this
  cases this
  exact ⟨_, ex, rv, Ex.refl, st⟩
theorem rdy_tup {α : Al} {hd : Hd} {H : Hp} {a : Addr} {xs : List D} {vs : List V} (st : StR G α hd H) (h : SqT G.K H a vs) (r : RDs G hd.length α H xs vs) : Rdy G (Itt G.K a) xs α hd H := fun i => by
  refine ⟨fun hi => ?_, fun hi => ⟨vs, h, by rw [r.length]; exact hi⟩⟩
  have ex : xs[i]? = some xs[i] := List.getElem?_eq_getElem hi
  obtain ⟨v, ev, rv⟩ := r.get ex
  refine ⟨⟨vs, v, h, ev⟩, fun w H' ⟨e, y⟩ => ?_⟩
  subst e
  have := y vs h
  rw [ev] at this
  cases this
  exact ⟨_, ex, rv, Ex.refl, st⟩
theorem rdy_str {α : Al} {hd : Hd} {H : Hp} {x : List Nat} (st : StR G α hd H) : Rdy G (Its ⟨x.toArray⟩) (x.map fun c => .str [c]) α hd H := fun i => by
  refine ⟨fun hi => ?_, fun hi => by show (⟨x.toArray⟩ : Str).cps.size ≤ i; simpa using hi⟩
  have hx : i < x.length := by simpa using hi
  refine ⟨by show i < (⟨x.toArray⟩ : Str).cps.size; simpa using hx, fun w H' ⟨e, c, ec, ew⟩ => ?_⟩
  subst e; subst ew
  have ec' : x[i]? = some c := by simpa using ec
  refine ⟨.str [c], by rw [List.getElem?_map, ec']; rfl, ?_, Ex.refl, st⟩
  unfold RD; rfl
theorem wks_list {n1 : Nat} {α1 : Al} {H1 : Hp} {a : Addr} {xs : List D} {vs : List V} (bx : ∀ i, i < n1 → ∃ o, H1 (α1 i) = some o ∧ Bx o) (h : H1 a = some (.lst vs)) (r : RDs G n1 α1 H1 xs vs) (na : ∀ i, i < n1 → α1 i ≠ a) : Wks G (Itl G.K a) (.l none xs) xs n1 α1 H1 :=
  fun α hd H x st _ => rdy_list st (SqL.of (x.keep a _ h na)) (RDs.mono x.toEy bx xs vs r)
/-- an object of ours that is a dict, changed -/
theorem StR.setD {α : Al} {hd : Hd} {H : Hp} {k : Nat} {o : Ob} {u0 u : HO} (st : StR G α hd H) (hk : k < hd.length) (e : H (α k) = some u0) (b : Bx u0) (h : ObR G hd.length α (upd H (α k) u) (α k) o) : StR G α (hd.set k o) (upd H (α k) u) := st.write hk h
theorem Ez.bx {n : Nat} {α : Al} {H : Hp} {a : Addr} {u0 u : HO} (e : H a = some u0) (b : Bx u0) : Ez n α H n α (upd H a u) := ⟨Nat.le_refl _, fun _ _ => rfl, fun c o q nb => by
  rw [upd_ne fun z => by rw [z, e] at q; cases q; exact nb b]; exact q⟩
theorem rk_at {n : Nat} {α : Al} {H : Hp} : ∀ {kvs : List (D × D)} {es : List (NestedKey × V × V)} (i : Nat), RKs G n α H kvs es → es.length = kvs.length ∧ ∀ e, es[i]? = some e → ∃ k v, kvs[i]? = some (k, v) ∧ keyOf k = some e.1 ∧ RD G n α H k e.2.1 ∧ RD G n α H v e.2.2
  | [], es, i, h => by
    have : es = [] := h
    subst this
    exact ⟨rfl, fun e he => by simp at he⟩
  | (k, v) :: r, es, i, ⟨nk, kv, w, ws, e, e1, r1, r2, r3⟩ => by
    subst e
    refine ⟨by rw [List.length_cons, List.length_cons, (rk_at i r3).1], fun e he => ?_⟩
    cases i with
    | zero => simp at he; subst he; exact ⟨k, v, rfl, e1, r1, r2⟩
    | succ i =>
      simp at he
      obtain ⟨k', v', h1, h2⟩ := (rk_at i r3).2 e he
      exact ⟨k', v', by simpa using h1, h2⟩
/-- what a dict's walk gives, of its keys and values -/
structure WkD (G : Gx) (J : Addr → Obj → HO → List (NestedKey × V × V) → It) (f : D × D → D) : Prop where
  rdy : ∀ {α : Al} {hd : Hd} {H : Hp} {d : Addr} {od : Obj} {u : HO} {es : List (NestedKey × V × V)} {kvs : List (D × D)}, StR G α hd H → H d = some (.frz od u) → RKs G hd.length α H kvs es → Rdy G (J d od u es) (kvs.map f) α hd H
theorem wk_k : WkD G Ikd (·.1) := ⟨fun {α hd H d od u es kvs} st e r i => by
  have l := (rk_at i r).1
  refine ⟨fun hi => ⟨⟨e, by rw [l]; simpa using hi⟩, fun v H' ⟨eH, x, hx, ev⟩ => ?_⟩, fun hi => ⟨e, by rw [l]; simpa using hi⟩⟩
  subst eH ev
  obtain ⟨k, w, h1, _, h2, _⟩ := (rk_at i r).2 x hx
  exact ⟨k, by rw [List.getElem?_map, h1]; rfl, h2, Ex.refl, st⟩⟩
theorem wk_v : WkD G Ivd (·.2) := ⟨fun {α hd H d od u es kvs} st e r i => by
  have l := (rk_at i r).1
  refine ⟨fun hi => ⟨⟨e, by rw [l]; simpa using hi⟩, fun v H' ⟨eH, x, hx, ev⟩ => ?_⟩, fun hi => ⟨e, by rw [l]; simpa using hi⟩⟩
  subst eH ev
  obtain ⟨k, w, h1, _, _, h2⟩ := (rk_at i r).2 x hx
  exact ⟨w, by rw [List.getElem?_map, h1]; rfl, h2, Ex.refl, st⟩⟩
theorem wk_i : WkD G Iid (fun kv => .tup [kv.1, kv.2]) := ⟨fun {α hd H d od u es kvs} st e r i => by
  have l := (rk_at i r).1
  refine ⟨fun hi => ⟨⟨e, by rw [l]; simpa using hi⟩, fun v H' ⟨T, x, hx, ev, hT, eH⟩ => ?_⟩, fun hi => ⟨e, by rw [l]; simpa using hi⟩⟩
  subst eH ev
  obtain ⟨k, w, h1, _, h2, h3⟩ := (rk_at i r).2 x hx
  have m := fun d v q => RD.mono (G := G) (Ex.other (n := hd.length) (α := α) (o := .tup [x.2.1, x.2.2]) hT).toEy (fun i hi => st.at_ hi) d v q
  refine ⟨.tup [k, w], by rw [List.getElem?_map, h1]; rfl, ?_, Ex.other hT, st.other hT⟩
  unfold RD
  exact ⟨T, _, rfl, SqT.of upd_same, .cons (m _ _ h2) (.one (m _ _ h3))⟩⟩
theorem lk_go {J : Addr → Obj → HO → List (NestedKey × V × V) → It} {f : D × D → D} (wk : WkD G J f) {n : Nat} {α α1 : Al} {H H1 : Hp} {h1 : Hd} {k : Nat} {lk : Bool} {kvs : List (D × D)} {v : V} {Rr : It → Hp → Prop} (x1 : Ex n α H h1.length α1 H1) (s1 : StR G α1 h1 H1) (ek : h1[k]? = some (.dct lk kvs)) (hv : v = .ref (α1 k))
    (z : ∀ α1 H1 J, Ex n α H (lockH h1 (.d k lk kvs)).length α1 H1 → StR G α1 (lockH h1 (.d k lk kvs)) H1 → still (lockH h1 (.d k lk kvs)) (.d k lk kvs) = true → Fq X H (.d k lk kvs) α1 → Wks G J (.d k lk kvs) (kvs.map f) (lockH h1 (.d k lk kvs)).length α1 H1 → Rr J H1) :
    ∃ d w es, v = .ref d ∧ ((H1 d = some (DctO w d es) ∧ ∀ od, (∀ o' u', X.H_0 d ≠ some (.frz o' u')) → Rr (J d od (DctO w d es) es) (upd H1 d (.frz od (DctO w d es)))) ∨ ∃ od, H1 d = some (.frz od (DctO w d es)) ∧ Rr (J d od (DctO w d es) es) H1) := by
  subst hv
  have hk : k < h1.length := (List.getElem?_eq_some_iff.mp ek).1
  have hl : (lockH h1 (.d k lk kvs)).length = h1.length := by simp [lockH]
  have sl : still (lockH h1 (.d k lk kvs)) (.d k lk kvs) = true := by
    show decide ((h1.set k (.dct true kvs))[k]? = some (Ob.dct true kvs)) = true
    rw [List.getElem?_set_self hk]; exact decide_eq_true rfl
  rw [hl] at z
  have wks : ∀ {H2 : Hp} {od : Obj} {es : List (NestedKey × V × V)}, H2 (α1 k) = some (.frz od (DctO G.w (α1 k) es)) → RKs G h1.length α1 H2 kvs es → (∀ i, i < h1.length → ∃ o, H2 (α1 i) = some o ∧ Bx o) → Wks G (J (α1 k) od (DctO G.w (α1 k) es) es) (.d k lk kvs) (kvs.map f) h1.length α1 H2 := fun e r bx α2 hd2 H3 x2 s2 _ => wk.rdy s2 (x2.frz _ _ _ e) (RKs.mono x2.toEy bx _ _ r)
  obtain ⟨es, e, r, nd⟩ := s1.ob k _ ek
  refine ⟨α1 k, G.w, es, rfl, ?_⟩
  cases lk with
  | false =>
    rw [if_neg (by decide)] at e
    refine .inl ⟨e, fun od nf => ?_⟩
    have ez : Ez h1.length α1 H1 h1.length α1 (upd H1 (α1 k) (.frz od (DctO G.w (α1 k) es))) := Ez.bx e ⟨_, _, _, rfl⟩
    have s2 : StR G α1 (lockH h1 (.d k false kvs)) (upd H1 (α1 k) (.frz od (DctO G.w (α1 k) es))) := s1.write (o := .dct true kvs) hk ⟨es, by rw [if_pos rfl]; exact ⟨od, upd_same⟩, RKs.monoZ ez _ _ r, nd⟩
    refine z α1 _ _ (x1.trans s1.there (Ex.write hk fun o u q => by rw [e] at q; cases q)) s2 sl ⟨nf, fun o u q => by have := x1.frz _ _ _ q; rw [e] at this; cases this⟩ (wks upd_same (RKs.monoZ ez _ _ r) fun i hi => ?_)
    exact s2.at_ (by rw [hl]; exact hi)
  | true =>
    rw [if_pos rfl] at e
    obtain ⟨od, e⟩ := e
    have e2 : lockH h1 (.d k true kvs) = h1 := by
      show h1.set k (.dct true kvs) = h1
      apply List.ext_getElem?
      intro i
      by_cases q : k = i
      · subst q; rw [List.getElem?_set_self hk, ek]
      · rw [List.getElem?_set_ne q]
    refine .inr ⟨od, e, z α1 H1 _ x1 (by rw [e2]; exact s1) sl trivial (wks e r fun i hi => s1.at_ hi)⟩
theorem set_same {α : Type} {l : List α} {k : Nat} {o : α} (h : l[k]? = some o) : l.set k o = l := by
  apply List.ext_getElem?
  intro i
  by_cases q : k = i
  · subst q
    rw [List.getElem?_set_self (List.getElem?_eq_some_iff.mp h).1, h]
  · rw [List.getElem?_set_ne q]
theorem open_cases {h : Hd} {q : Sq} (sq : still h q = true) : openH h q = h ∨ ∃ k kvs, q = .d k false kvs := by
  cases q with
  | d k lk kvs =>
    cases lk with
    | false => exact .inr ⟨k, kvs, rfl⟩
    | true => exact .inl (set_same (of_decide_eq_true sq))
  | _ => exact .inl rfl
/-- the dict that was locked is open again -/
theorem opn_st {h : Hd} {k : Nat} {kvs : List (D × D)} {n : Nat} {α α2 : Al} {H H2 : Hp} (s : StR G α2 h H2) (sq : still h (.d k false kvs) = true) (x : Ex n α H h.length α2 H2) (fq : ∀ o u, H (α2 k) ≠ some (.frz o u)) :
    ∃ od u, H2 (α2 k) = some (.frz od u) ∧ StR G α2 (openH h (.d k false kvs)) (upd H2 (α2 k) u) ∧ Ex n α H (openH h (.d k false kvs)).length α2 (upd H2 (α2 k) u) ∧ Ez h.length α2 H2 h.length α2 (upd H2 (α2 k) u) ∧ (openH h (.d k false kvs)).length = h.length := by
  have ek : h[k]? = some (.dct true kvs) := of_decide_eq_true sq
  have hk := (List.getElem?_eq_some_iff.mp ek).1
  obtain ⟨es, e, r, nd⟩ := s.ob k _ ek
  rw [if_pos rfl] at e
  obtain ⟨od, e⟩ := e
  have hl : (openH h (.d k false kvs)).length = h.length := by simp [openH]
  have ez : Ez h.length α2 H2 h.length α2 (upd H2 (α2 k) (DctO G.w (α2 k) es)) := Ez.bx e ⟨_, _, _, rfl⟩
  refine ⟨od, _, e, s.write (o := .dct false kvs) hk ⟨es, by rw [if_neg (by decide)]; exact upd_same, RKs.monoZ ez _ _ r, nd⟩, ?_, ez, hl⟩
  rw [hl]
  refine ⟨⟨x.le, x.al, fun b o q na => ?_, fun b o u q => ?_⟩, x.fresh⟩
  · rw [upd_ne]
    · exact x.keep b o q na
    · intro z
      by_cases c : k < n
      · exact na k c (by rw [z, x.al k c])
      · have := x.fresh k (Nat.not_lt.mp c) hk
        rw [← z, q] at this; cases this
  · rw [upd_ne]
    · exact x.frz b o u q
    · intro z
      rw [z] at q
      exact fq o u q
theorem qs_d {r : R (Rv × Hd)} {k : Nat} {lk : Bool} {kvs : List (D × D)} {h1 : Hd} (e : qs r = .ok (.d k lk kvs, h1)) : h1[k]? = some (.dct lk kvs) := by
  cases r with
  | no => cases e
  | ex c h => cases e
  | ok p =>
    obtain ⟨v, h⟩ := p
    cases v with
    | l xs => cases e
    | v d =>
      have e' : (match sqOf h d with | some q => R.ok (q, h) | none => .no) = R.ok (Sq.d k lk kvs, h1) := e
      cases es : sqOf h d with
      | none => rw [es] at e'; cases e'
      | some q' =>
        rw [es] at e'
        cases e'
        cases d with
        | ob j =>
          simp only [sqOf] at es
          cases ek : h1[j]? with
          | none => rw [ek] at es; cases es
          | some o => rw [ek] at es; cases o <;> cases es; exact ek
        | _ => cases es
/-- a dict's walk -/
theorem di_lk {J : Addr → Obj → HO → List (NestedKey × V × V) → It} {f : D × D → D} (wk : WkD G J f) {g : Sl → Hd → R (Sq × Hd)} {e : Expr} {F : Sq × Hd → R Wk} (hF : ∀ k lk kvs h, F (.d k lk kvs, h) = .ok ((.d k lk kvs, kvs.map f), lockH h (.d k lk kvs))) (hN : ∀ q h, (∀ k lk kvs, q ≠ .d k lk kvs) → F (q, h) = .no)
    (hp : ∀ {t : TE}, PE X a t → PI X tg e (iLk X J t)) (hg : g = fun σ h => qs (fa σ h)) (ha : PE X a (tR G W fa)) : PI X tg e (tI G X W fun σ h => g σ h >>= F) := by
  subst hg
  refine (hp (pe_qs ha)).imp fun σ H Rr ⟨α, σD, hd, st, l, z⟩ => ⟨α, σD, hd, st, l, ?_⟩
  dsimp only at z ⊢
  cases e : qs (fa σD hd) with
  | no => rw [e] at z; exact z.elim
  | ex c h1 => rw [e] at z; exact z
  | ok p =>
    obtain ⟨q, h1⟩ := p
    rw [e] at z
    have z2 : (match F (q, h1) with
      | .ok ((q, xs), h1) => ∀ α1 H1 J, Ex hd.length α H h1.length α1 H1 → StR G α1 h1 H1 → still h1 q = true → Fq X H q α1 → Wks G J q xs h1.length α1 H1 → Rr J H1
      | .ex c h1 => ∀ α1 H1, Ex hd.length α H h1.length α1 H1 → StR G α1 h1 H1 → W (.ref (G.ca c)) none σ H1
      | .no => False) := z
    intro α1 v H1 x1 s1 rel
    cases q with
    | d k lk kvs => rw [hF] at z2; exact lk_go wk x1 s1 (qs_d e) rel.2.1 z2
    | l id xs => rw [hN _ _ (by intro _ _ _ q; cases q)] at z2; exact z2.elim
    | t xs => rw [hN _ _ (by intro _ _ _ q; cases q)] at z2; exact z2.elim
    | s xs => rw [hN _ _ (by intro _ _ _ q; cases q)] at z2; exact z2.elim
/-- the walk of a sequence, of a dict by its keys -/
theorem di_sq (ok : Ok G X W) (ha : PE X a (tR G W fa)) : PI X tg a (tI G X W fun σ h => qs (fa σ h) >>= fun p => .ok ((p.1, p.1.items), lockH p.2 p.1)) := by
  refine ⟨fun pins s σ H Rr I ⟨α, σD, hd, st, l, z⟩ => ?_⟩
  cases e : qs (fa σD hd) with
  | no => dsimp only at z; rw [e] at z; exact z.elim
  | ex c h1 =>
    dsimp only at z
    rw [e] at z
    refine thn ((pe_qs ha).run pins s σ H (fun _ _ => False) I ⟨α, σD, hd, st, l, ?_⟩) fun v s1 ⟨_, _, _, _, f⟩ => f.elim
    dsimp only
    rw [e]
    exact z
  | ok p =>
    obtain ⟨q, h1⟩ := p
    dsimp only at z
    rw [e] at z
    have z' : ∀ α1 H1 J, Ex hd.length α H (lockH h1 q).length α1 H1 → StR G α1 (lockH h1 q) H1 → still (lockH h1 q) q = true → Fq X H q α1 → Wks G J q q.items (lockH h1 q).length α1 H1 → Rr J H1 := z
    cases q with
    | l id xs =>
      have sq := qs_still e (fun _ _ _ q => nomatch q)
      refine (pi_list (pe_qs ha)).run pins s σ H Rr I ⟨α, σD, hd, st, l, ?_⟩
      dsimp only
      rw [e]
      intro α1 v H1 x1 s1 rel
      cases id with
      | none =>
        obtain ⟨p, vs, rfl, h1', r, na⟩ := rel
        exact ⟨p, rfl, ⟨vs, SqL.of h1'⟩, ok.K ▸ z' α1 H1 _ x1 s1 sq trivial (wks_list (fun i hi => s1.at_ hi) h1' r na)⟩
      | some k =>
        obtain ⟨_, rfl, vs, h1', r⟩ := rel
        have hk : k < h1.length := by rcases still_lst sq with e | e <;> exact (List.getElem?_eq_some_iff.mp e).1
        refine ⟨_, rfl, ⟨vs, ok.K ▸ h1'⟩, ok.K ▸ z' α1 H1 _ x1 s1 sq trivial fun α2 hd2 H2 x2 s2 sl => ?_⟩
        obtain ⟨vs2, g1, g2⟩ := still_rel s2 sl
        have e2 : α2 k = α1 k := x2.al k hk
        rw [← e2]
        exact rdy_list s2 g1 g2
    | t xs =>
      have sq := qs_still e (fun _ _ _ q => nomatch q)
      refine (pi_tup (pe_qs ha)).run pins s σ H Rr I ⟨α, σD, hd, st, l, ?_⟩
      dsimp only
      rw [e]
      intro α1 v H1 x1 s1 rel
      obtain ⟨p, vs, rfl, h1', r⟩ := rel
      exact ⟨p, rfl, ⟨vs, ok.K ▸ h1'⟩, ok.K ▸ z' α1 H1 _ x1 s1 sq trivial fun α2 hd2 H2 x2 s2 sl => rdy_tup s2 (x2.sqT (fun i hi => s1.at_ hi) h1') (RDs.mono x2.toEy (fun i hi => s1.at_ hi) xs vs r)⟩
    | s x =>
      have sq := qs_still e (fun _ _ _ q => nomatch q)
      refine (pi_str (pe_qs ha)).run pins s σ H Rr I ⟨α, σD, hd, st, l, ?_⟩
      dsimp only
      rw [e]
      intro α1 v H1 x1 s1 rel
      exact ⟨_, rel, z' α1 H1 _ x1 s1 sq trivial fun α2 hd2 H2 x2 s2 sl => rdy_str s2⟩
    | d k lk kvs =>
      refine (pi_kd (pe_qs ha)).run pins s σ H Rr I ⟨α, σD, hd, st, l, ?_⟩
      dsimp only
      rw [e]
      intro α1 v H1 x1 s1 rel
      exact lk_go wk_k x1 s1 (qs_d e) rel.2.1 z'
theorem small62_iff {i : Int} : small62 i = true ↔ (-(2 ^ 62) ≤ i ∧ i < 2 ^ 62) := by
  unfold small62; simp [pr_eq]
theorem rdy_rng {α : Al} {hd : Hd} {H : Hp} {i j : Int} (st : StR G α hd H) : Rdy G (Itr i (j - i).toNat) (rangeD i j) α hd H := fun k => by
  have hl : (rangeD i j).length = (j - i).toNat := by simp [rangeD]
  refine ⟨fun hk => ?_, fun hk => by rw [hl] at hk; exact hk⟩
  rw [hl] at hk
  refine ⟨hk, fun w H' ⟨e, ew⟩ => ?_⟩
  subst e; subst ew
  refine ⟨.int (i + (k : Nat)), ?_, by unfold RD; rfl, Ex.refl, st⟩
  unfold rangeD
  rw [List.getElem?_map, List.getElem?_range hk]
  rfl
theorem di_rng1 (hb : Bi X "range") (hs : isStar a = false) (ha : PE X a (tR G W fa)) : PI X tg (.Call (.Name "range" p) [a] [] pos) (tI G X W fun σ h => vl (.ok (.v (.int 0), h)) >>= fun p => vl (fa σ p.2) >>= fun q => rngD p.1 q.1 >>= fun xs => .ok ((.t [], xs), q.2)) :=
  (pi_range1 hb.gl hb.mg (pa_cons (pe_vl ha) pa_nil (starEach_cons hs)) (by rw [starEach_cons hs]; rfl)).imp fun σ H Rr ⟨α, σD, hd, st, l, z⟩ => by
    refine ⟨α, σD, hd, st, l, ?_⟩
    show Lnd G (rD G) _ _ _ _ _ (vl (fa σD hd))
    have z' : (match vl (fa σD hd) >>= fun q => rngD (.int 0) q.1 >>= fun xs => R.ok (((.t [] : Sq), xs), q.2) with
      | .ok ((q, xs), h1) => ∀ α1 H1 J, Ex hd.length α H h1.length α1 H1 → StR G α1 h1 H1 → still h1 q = true → Fq X H q α1 → Wks G J q xs h1.length α1 H1 → Rr J H1
      | .ex c h1 => ∀ α1 H1, Ex hd.length α H h1.length α1 H1 → StR G α1 h1 H1 → W (.ref (G.ca c)) none σ H1
      | .no => False) := z
    cases e : vl (fa σD hd) with
    | no => rw [e] at z'; exact z'.elim
    | ex c h1 => rw [e] at z'; exact z'
    | ok q =>
      obtain ⟨d, h1⟩ := q
      rw [e] at z'
      intro α1 v H1 x1 s1 rel
      cases d with
      | int j =>
        obtain rfl := RDint' rel
        have z2 : (match (if (small62 0 && small62 j) = true then R.ok (rangeD 0 j) else R.no) >>= fun xs => R.ok (((.t [] : Sq), xs), h1) with
          | .ok ((q, xs), h1) => ∀ α1 H1 J, Ex hd.length α H h1.length α1 H1 → StR G α1 h1 H1 → still h1 q = true → Fq X H q α1 → Wks G J q xs h1.length α1 H1 → Rr J H1
          | .ex c h1 => ∀ α1 H1, Ex hd.length α H h1.length α1 H1 → StR G α1 h1 H1 → W (.ref (G.ca c)) none σ H1
          | .no => False) := z'
        by_cases c : (small62 0 && small62 j) = true
        · rw [if_pos c] at z2
          rw [Bool.and_eq_true, small62_iff, small62_iff] at c
          refine ⟨j, rfl, c.2.1, c.2.2, z2 α1 H1 _ x1 s1 rfl trivial fun α2 hd2 H2 x2 s2 sl => ?_⟩
          have := rdy_rng (G := G) (i := 0) (j := j) s2
          rw [Int.sub_zero] at this
          exact this
        · rw [if_neg c] at z2; exact z2.elim
      | _ => exact z'.elim
theorem di_rng2 (hb : Bi X "range") (hs : isStar a = false) (hs2 : isStar b = false) (ha : PE X a (tR G W fa)) (hb' : PE X b (tR G W fb)) : PI X tg (.Call (.Name "range" p) [a, b] [] pos) (tI G X W fun σ h => vl (fa σ h) >>= fun p => vl (fb σ p.2) >>= fun q => rngD p.1 q.1 >>= fun xs => .ok ((.t [], xs), q.2)) :=
  (pi_range2 hb.gl hb.mg (pa_cons (pe_vl ha) (pa_cons (pe_vl hb') pa_nil (starEach_cons hs2)) (starEach_cons hs)) (by rw [starEach_cons hs, starEach_cons hs2]; rfl) (by rw [starEach_cons hs2]; rfl)).imp fun σ H Rr ⟨α, σD, hd, st, l, z⟩ => by
    refine ⟨α, σD, hd, st, l, ?_⟩
    show Lnd G (rD G) _ _ _ _ _ (vl (fa σD hd))
    dsimp only at z
    cases e : vl (fa σD hd) with
    | no => rw [e] at z; exact z.elim
    | ex c h1 => rw [e] at z; exact z
    | ok q =>
      obtain ⟨d, h1⟩ := q
      rw [e] at z
      intro α1 v H1 x1 s1 rel
      refine ⟨α1, σD, h1, s1, l.mono x1.toEy (fun i hi => st.at_ hi), ?_⟩
      show Lnd G (rD G) _ _ _ _ _ (vl (fb σD h1))
      have z' : (match vl (fb σD h1) >>= fun q => rngD d q.1 >>= fun xs => R.ok (((.t [] : Sq), xs), q.2) with
        | .ok ((q, xs), h1) => ∀ α1 H1 J, Ex hd.length α H h1.length α1 H1 → StR G α1 h1 H1 → still h1 q = true → Fq X H q α1 → Wks G J q xs h1.length α1 H1 → Rr J H1
        | .ex c h1 => ∀ α1 H1, Ex hd.length α H h1.length α1 H1 → StR G α1 h1 H1 → W (.ref (G.ca c)) none σ H1
        | .no => False) := z
      cases e2 : vl (fb σD h1) with
      | no => rw [e2] at z'; exact z'.elim
      | ex c h2 =>
        rw [e2] at z'
        exact fun α2 H2 x2 s2 => z' α2 H2 (x1.trans s1.there x2) s2
      | ok q =>
        obtain ⟨d2, h2⟩ := q
        rw [e2] at z'
        intro α2 v2 H2 x2 s2 rel2
        have x12 := x1.trans s1.there x2
        cases d with
        | int i =>
          cases d2 with
          | int j =>
            obtain rfl := RDint' rel
            obtain rfl := RDint' rel2
            have z2 : (match (if (small62 i && small62 j) = true then R.ok (rangeD i j) else R.no) >>= fun xs => R.ok (((.t [] : Sq), xs), h2) with
              | .ok ((q, xs), h1) => ∀ α1 H1 J, Ex hd.length α H h1.length α1 H1 → StR G α1 h1 H1 → still h1 q = true → Fq X H q α1 → Wks G J q xs h1.length α1 H1 → Rr J H1
              | .ex c h1 => ∀ α1 H1, Ex hd.length α H h1.length α1 H1 → StR G α1 h1 H1 → W (.ref (G.ca c)) none σ H1
              | .no => False) := z'
            by_cases c : (small62 i && small62 j) = true
            · rw [if_pos c] at z2
              rw [Bool.and_eq_true, small62_iff, small62_iff] at c
              exact ⟨i, j, rfl, ⟨c.1.1, c.1.2, c.2.1, c.2.2⟩, z2 α2 H2 _ x12 s2 rfl trivial fun α3 hd3 H3 x3 s3 sl => rdy_rng s3⟩
            · rw [if_neg c] at z2; exact z2.elim
          | _ => exact z'.elim
        | _ => exact z'.elim
end
end Mp
set_option maxHeartbeats 1000000
/-! MiniPy, part 9: comprehensions. -/
namespace Mp
open PySem PySem.Spec PyProof.Rows L2
abbrev W0 : WX := fun _ _ _ _ => False
theorem compF_nx {ok : Hd → Bool} {t : T} {own : List Nat} {tst : Sl → Hd → R (Bool × Hd)} {elt : Sl → Hd → R (D × Hd)} {σ : Sl} : ∀ (xs : List D) (h : Hd) (c : Nat) (h' : Hd), compF ok t own tst elt σ xs h ≠ .ex c h'
  | [], h, c, h', e => by cases e
  | x :: xs, h, c, h', e => by
    have ih := compF_nx (ok := ok) (t := t) (own := own) (tst := tst) (elt := elt) (σ := σ) xs
    revert e
    simp only [compF]
    repeat' split
    all_goals (intro e; first | (cases e; done) | exact ih _ _ _ e)
section
variable {G : Gx} {X : Cx} {W : WX} {pos : Pos} {tg iter elt : Expr} {ifs : List Expr} {scope : Scope} {own : List (Str × Nat)} {t : T} {fi : Sl → Hd → R Wk} {ft : Sl → Hd → R (Bool × Hd)} {fe : Sl → Hd → R (Rv × Hd)}
theorem dts_nil : PTs X [] (tT G W0 fun _ h => .ok (true, h)) := ⟨fun pins s σ H Q I ⟨α, σD, hd, st, l, z⟩ => (pts_nil (X := X)).run pins s σ H Q I (Lnd.ok (Rel := rB) (b := true) z st rfl)⟩
theorem dts_one {c : Expr} (h : PT X c (tT G W0 ft)) : PTs X [c] (tT G W0 ft) := pts_one h
/-- what stands between two turns -/
def CInv (G : Gx) (q : Sq) (t : T) (own : List Nat) (ft : Sl → Hd → R (Bool × Hd)) (fe : Sl → Hd → R (Rv × Hd)) (σD : Sl) (xs : List D) (n1 : Nat) (α1 : Al) (H1 : Hp) (Dd : Addr) (all : List D) (hF : Hd) (i : Nat) (H : Hp) : Prop :=
  i ≤ xs.length ∧ ∃ α hd ds vs rest, StR G α hd H ∧ Ex n1 α1 H1 hd.length α H ∧ still hd q = true ∧ H Dd = some (.lst vs) ∧ RDs G hd.length α H ds vs ∧ (∀ j, j < hd.length → α j ≠ Dd) ∧
    compF (fun h => still h q) t own ft (fun σ h => vl (fe σ h)) σD (xs.drop i) hd = .ok (rest, hF) ∧ all = ds ++ rest
theorem tLc_of {own : List Nat} (hsl : ∀ j, j ∈ t.sl → j ∈ own) {σ : L2.St} {H : Hp} {Q : VK}
    (h : tR G W (fun σ h => fi σ h >>= fun w => compF (fun h => still h w.1.1) t own ft (fun σ h => vl (fe σ h)) σ w.1.2 w.2 >>= fun p => if p.1.length ≤ sizeL then .ok (.l p.1, openH p.2 w.1.1) else .no) σ H Q) :
    tLc (tI G X W fi) (gT G t) (tT G W0 ft) (tE G W0 fun σ h => vl (fe σ h)) own σ H (fun v => opQ X (Q v)) := by
  obtain ⟨α, σD, hd, st, l, z⟩ := h
  refine ⟨α, σD, hd, st, l, ?_⟩
  dsimp only at z
  cases e : fi σD hd with
  | no => rw [e] at z; exact z.elim
  | ex c h1 => rw [e] at z; exact z
  | ok w =>
    obtain ⟨⟨q, xs⟩, h1⟩ := w
    rw [e] at z
    intro α1 H1 J x1 s1 sq fq wk Dd hD
    have z' : Lnd G (rR G) (fun c d H1 => W c d σ H1) hd.length α H Q (compF (fun h => still h q) t own ft (fun σ h => vl (fe σ h)) σD xs h1 >>= fun p => if p.1.length ≤ sizeL then .ok (.l p.1, openH p.2 q) else .no) := z
    cases ec : compF (fun h => still h q) t own ft (fun σ h => vl (fe σ h)) σD xs h1 with
    | no => rw [ec] at z'; exact z'.elim
    | ex c h' => exact absurd ec (compF_nx _ _ _ _)
    | ok p =>
      obtain ⟨all, hF⟩ := p
      rw [ec] at z'
      obtain ⟨cl, z2⟩ := if_no z'
      have nD : ∀ j, j < h1.length → α1 j ≠ Dd := fun j hj e => by
        obtain ⟨o, ho, _⟩ := s1.at_ hj
        rw [e, hD] at ho; cases ho
      have l1 : SlR G h1.length α1 H1 σD σ := l.mono x1.toEy (fun i hi => st.at_ hi)
      refine ⟨fun i m H' => m = xs.length - i ∧ CInv G q t own ft fe σD xs h1.length α1 H1 Dd all hF i H', ⟨xs.length, rfl, Nat.zero_le _, α1, h1, [], [], all, s1.other hD, Ex.other hD, sq, upd_same, .nil, nD, ec, rfl⟩, ?_⟩
      rintro i m H' ⟨rfl, hi', α2, hd2, ds, vs, rest, s2, x2, sq2, e2, r2, n2, ec2, eall⟩
      have rdy := wk α2 hd2 H' x2 s2 sq2 i
      by_cases hlt : i < xs.length
      · obtain ⟨go, yl⟩ := rdy.1 hlt
        refine .inr ⟨go, CInv G q t own ft fe σD xs h1.length α1 H1 Dd all hF (i + 1), fun H'' iv => ⟨xs.length - (i + 1), by omega, rfl, iv⟩, fun v H'' y => ?_⟩
        obtain ⟨x, ex, rx, x3, s3⟩ := yl v H'' y
        have ed : xs.drop i = x :: xs.drop (i + 1) := by
          rw [List.drop_eq_getElem_cons hlt]
          rw [List.getElem?_eq_getElem hlt] at ex
          cases ex; rfl
        rw [ed] at ec2
        simp only [compF] at ec2
        have l2 : SlR G hd2.length α2 H' σD σ := l1.mono x2.toEy (fun i hi => s1.at_ hi)
        have l3 : SlR G hd2.length α2 H'' σD σ := l2.mono x3.toEy (fun i hi => s2.at_ hi)
        have eD : H'' Dd = some (.lst vs) := x3.keep _ _ e2 n2
        cases ea : asgT t x (Mp.wipe σD own) with
        | none => rw [ea] at ec2; cases ec2
        | some σ' =>
          rw [ea] at ec2
          dsimp only at ec2
          refine ⟨α2, hd2, _, x, σ', s3, l3.wipe _, rx, ea, fun σ2 l4 off => ⟨wipe_off off hsl, ?_⟩⟩
          refine ⟨α2, σ', hd2, s3, l4, ?_⟩
          cases et : ft σ' hd2 with
          | no => rw [et] at ec2; cases ec2
          | ex c h' => rw [et] at ec2; cases ec2
          | ok p =>
            obtain ⟨b, h3⟩ := p
            rw [et] at ec2
            intro α3 b' H3 x4 s4 eb
            have eb' : b = b' := eb
            subst eb'
            have x34 : Ex hd2.length α2 H' h3.length α3 H3 := x3.trans s3.there x4
            have e3D : H3 Dd = some (.lst vs) := x34.keep _ _ e2 n2
            have n3 := x34.notin e2 n2
            cases b with
            | true =>
              rw [if_pos rfl]
              dsimp only at ec2
              refine ⟨α3, σ', h3, s4, l4.mono x4.toEy (fun i hi => s3.at_ hi), ?_⟩
              dsimp only
              cases ee : vl (fe σ' h3) with
              | no => rw [ee] at ec2; cases ec2
              | ex c h' => rw [ee] at ec2; cases ec2
              | ok p =>
                obtain ⟨d, h4⟩ := p
                rw [ee] at ec2
                dsimp only at ec2
                by_cases ck : still h4 q = true
                · rw [if_pos ck] at ec2
                  cases er : compF (fun h => still h q) t own ft (fun σ h => vl (fe σ h)) σD (xs.drop (i + 1)) h4 with
                  | no => rw [er] at ec2; cases ec2
                  | ex c h' => rw [er] at ec2; cases ec2
                  | ok p =>
                    obtain ⟨rest', hF'⟩ := p
                    rw [er] at ec2
                    cases ec2
                    intro α4 y H4 x5 s5 ry
                    have x45 : Ex hd2.length α2 H' h4.length α4 H4 := x34.trans s4.there x5
                    have e4D : H4 Dd = some (.lst vs) := x45.keep _ _ e2 n2
                    have n4 := x45.notin e2 n2
                    have zt : Ez h4.length α4 H4 h4.length α4 (upd H4 Dd (.lst (vs ++ [y]))) := Ez.touch e4D
                    refine ⟨vs, e4D, ?_, hlt, α4, h4, ds ++ [d], vs ++ [y], rest', s5.touch e4D n4, (x2.trans s2.there x45).touch hD, ck, upd_same, ?_, n4, er, ?_⟩
                    · rw [r2.length, ← sizeL_eq]
                      rw [eall, List.length_append, List.length_cons] at cl
                      omega
                    · exact (RDs.monoZ zt ds vs (RDs.mono x45.toEy (fun i hi => s2.at_ hi) ds vs r2)).append (.one (RD.monoZ zt d y ry))
                    · rw [eall, List.append_assoc]; rfl
                · rw [if_neg ck] at ec2; cases ec2
            | false =>
              rw [if_neg Bool.false_ne_true]
              dsimp only at ec2
              by_cases ck : still h3 q = true
              · rw [if_pos ck] at ec2
                exact ⟨hlt, α3, h3, ds, vs, rest, s4, x2.trans s2.there x34, ck, e3D, RDs.mono x34.toEy (fun i hi => s2.at_ hi) ds vs r2, n3, ec2, eall⟩
              · rw [if_neg ck] at ec2; cases ec2
      · have ei : i = xs.length := by omega
        subst ei
        refine .inl ⟨rdy.2 (Nat.le_refl _), ?_⟩
        rw [List.drop_length] at ec2
        cases ec2
        rw [List.append_nil] at eall
        subst eall
        have x12 := x1.trans s1.there x2
        rcases open_cases sq2 with eo | ⟨k, kvs, rfl⟩
        · rw [eo] at z2
          exact .inl (z2 α2 (.ref Dd) H' x12 s2 ⟨Dd, vs, rfl, e2, r2, x1.nofree s1.there hD, n2⟩)
        · have hk : k < h1.length := (List.getElem?_eq_some_iff.mp (of_decide_eq_true sq)).1
          have ea : α2 k = α1 k := x2.al k hk
          obtain ⟨od, u, eu, s3, x3, ez, hl⟩ := opn_st s2 sq2 x12 (by rw [ea]; exact fq.2)
          refine .inr ⟨α2 k, od, u, eu, by rw [ea]; exact fq.1, z2 α2 (.ref Dd) _ x3 s3 ⟨Dd, vs, rfl, ?_, by rw [hl]; exact RDs.monoZ ez _ _ r2, x1.nofree s1.there hD, by rw [hl]; exact n2⟩⟩
          rw [upd_ne]
          · exact e2
          · intro q; rw [q, eu] at e2; cases e2
theorem de_comp (ok : Ok G X W) (hi : PI X tg iter (tI G X W fi)) (blk : BlkOk X.N X.env.scope scope own) (hsl : ∀ j, j ∈ t.sl → j ∈ own.map (·.2))
    (hg : ∀ (s : Shared) (H : Hp) (C : Addr) (cl : List (Str × Addr)) (fp : List Addr), Tg (X.blk s H scope (compEnvC scope cl C X.env) fp) tg t)
    (ht : ∀ (s : Shared) (H : Hp) (C : Addr) (cl : List (Str × Addr)) (fp : List Addr), PTs (X.blk s H scope (compEnvC scope cl C X.env) fp) ifs (tT G W0 ft))
    (he : ∀ (s : Shared) (H : Hp) (C : Addr) (cl : List (Str × Addr)) (fp : List Addr), PE (X.blk s H scope (compEnvC scope cl C X.env) fp) elt (tR G W0 fe)) (hs : notSet iter = true) :
    PE X (.ListComp elt [⟨tg, iter, ifs, 0⟩] scope pos) (tR G W fun σ h => fi σ h >>= fun w => compF (fun h => still h w.1.1) t (own.map (·.2)) ft (fun σ h => vl (fe σ h)) σ w.1.2 w.2 >>= fun p => if p.1.length ≤ sizeL then .ok (.l p.1, openH p.2 w.1.1) else .no) :=
  (pe_op' <| pe_lc (own := own) ok.calm ok.nd hi blk (fun s H C cl fp => dg (X := X.blk s H scope (compEnvC scope cl C X.env) fp) ok.K ok.calm ok.nd (hg s H C cl fp)) ht (fun s H C cl fp => pe_vl (he s H C cl fp)) (folded_of hs)).imp fun σ H Q h => tLc_of hsl h
end
end Mp
set_option maxHeartbeats 1000000
/-! MiniPy, part 10: statements. -/
namespace Mp
open PySem PySem.Spec PyProof.Rows L2
/-- where a statement's run lands -/
def LndS (G : Gx) (W : WX) (n : Nat) (α : Al) (H : Hp) (D : Ends) : F → Prop
  | .nx σD' h1 => ∀ α1 σ' H1, Ex n α H h1.length α1 H1 → StR G α1 h1 H1 → SlR G h1.length α1 H1 σD' σ' → D.nx σ' H1
  | .bk σD' h1 => ∀ α1 σ' H1, Ex n α H h1.length α1 H1 → StR G α1 h1 H1 → SlR G h1.length α1 H1 σD' σ' → D.bk σ' H1
  | .ct σD' h1 => ∀ α1 σ' H1, Ex n α H h1.length α1 H1 → StR G α1 h1 H1 → SlR G h1.length α1 H1 σD' σ' → D.ct σ' H1
  | .rt d h1 => ∀ α1 v H1, Ex n α H h1.length α1 H1 → StR G α1 h1 H1 → RD G h1.length α1 H1 d v → D.rt v H1
  | .ex c σD' h1 => ∀ α1 σ' H1, Ex n α H h1.length α1 H1 → StR G α1 h1 H1 → SlR G h1.length α1 H1 σD' σ' → W (.ref (G.ca c)) none σ' H1
  | .no => False
def tS (G : Gx) (W : WX) (f : Sl → Hd → F) : TS := fun D σ H => ∃ α σD hd, StR G α hd H ∧ SlR G hd.length α H σD σ ∧ LndS G W hd.length α H D (f σD hd)
theorem _root_.L2.PS.imp {X : Cx} {e : Stmt} {t t' : TS} (h : PS X e t) (hi : ∀ D σ H, t' D σ H → t D σ H) : PS X e t' := ⟨fun pins s σ H D I q => h.run pins s σ H D I (hi D σ H q)⟩
theorem _root_.L2.PSs.imp {X : Cx} {e : List Stmt} {t t' : TS} (h : PSs X e t) (hi : ∀ D σ H, t' D σ H → t D σ H) : PSs X e t' := ⟨fun pins s σ H D I q => h.run pins s σ H D I (hi D σ H q)⟩
section
variable {G : Gx} {W : WX} {n n1 : Nat} {α α1 : Al} {H H1 : Hp} {D : Ends}
theorem LndS.from (a : Ex n α H n1 α1 H1) (t : ∀ j, j < n1 → H1 (α1 j) ≠ none) {f : F} (h : LndS G W n α H D f) : LndS G W n1 α1 H1 D f := by
  match f, h with
  | .nx σD' h1, h => exact fun α2 σ' H2 x => h α2 σ' H2 (a.trans t x)
  | .bk σD' h1, h => exact fun α2 σ' H2 x => h α2 σ' H2 (a.trans t x)
  | .ct σD' h1, h => exact fun α2 σ' H2 x => h α2 σ' H2 (a.trans t x)
  | .rt d h1, h => exact fun α2 v H2 x => h α2 v H2 (a.trans t x)
  | .ex c σD' h1, h => exact fun α2 σ' H2 x => h α2 σ' H2 (a.trans t x)
theorem tX_then {β γ : Type} {Rel : Rl β γ} {f : Sl → Hd → R (β × Hd)} {k : β × Hd → F} {Q : γ → Hp → Prop} {σ : L2.St} {σD : Sl} {hd : Hd} (s : StR G α hd H) (l : SlR G hd.length α H σD σ)
    (h : LndS G W hd.length α H D (thenF σD (f σD hd) k))
    (hk : ∀ x h1 α1 v H1, f σD hd = .ok (x, h1) → Ex hd.length α H h1.length α1 H1 → StR G α1 h1 H1 → SlR G h1.length α1 H1 σD σ → Rel H h1.length α1 H1 x v → LndS G W h1.length α1 H1 D (k (x, h1)) → Q v H1) :
    tX G Rel W f σ H Q := by
  refine ⟨α, σD, hd, s, l, ?_⟩
  revert h
  unfold thenF
  cases e : f σD hd with
  | no => intro h; exact h
  | ex c h1 => intro h α1 H1 x1 s1; exact h α1 σ H1 x1 s1 (l.mono x1.toEy fun i hi => s.at_ hi)
  | ok p =>
    obtain ⟨x, h1⟩ := p
    intro h α1 v H1 x1 s1 r
    exact hk x h1 α1 v H1 e x1 s1 (l.mono x1.toEy fun i hi => s.at_ hi) r (LndS.from x1 s1.there h)
theorem LndS.nx {σD : Sl} {σ : L2.St} {hd : Hd} (h : LndS G W hd.length α H D (.nx σD hd)) (s : StR G α hd H) (l : SlR G hd.length α H σD σ) : D.nx σ H := h α σ H Ex.refl s l
end
section
variable {G : Gx} {X : Cx} {W : WX} {pos : Pos} {e c : Expr} {st : Stmt} {rest : List Stmt} {fe fc : Sl → Hd → R (Rv × Hd)} {fs fr : Sl → Hd → F}
/-! ### blocks -/
theorem dss_nil : PSs X [] (tS G W fun σ h => .nx σ h) := pss_nil.imp fun D σ H ⟨α, σD, hd, s, l, z⟩ => LndS.nx z s l
/-- one statement's run, then the next one's -/
def seqF (x : F) (k : Sl → Hd → F) : F := match x with
  | .nx σ h => k σ h
  | x => x
theorem dss_cons (h1 : PS X st (tS G W fs)) (h2 : PSs X rest (tS G W fr)) : PSs X (st :: rest) (tS G W fun σ h => match fs σ h with
    | .nx σ' h' => fr σ' h'
    | f => f) :=
  (pss_cons h1 h2).imp fun D σ H ⟨α, σD, hd, s, l, z⟩ => by
    refine ⟨α, σD, hd, s, l, ?_⟩
    dsimp only at z
    cases e : fs σD hd with
    | nx σ1 h1 =>
      rw [e] at z
      exact fun α1 σ' H1 x1 s1 l1 => ⟨α1, σ1, h1, s1, l1, LndS.from x1 s1.there z⟩
    | rt d h1 => rw [e] at z; exact z
    | bk σ1 h1 => rw [e] at z; exact z
    | ct σ1 h1 => rw [e] at z; exact z
    | ex c σ1 h1 => rw [e] at z; exact z
    | no => rw [e] at z; exact z
theorem ds_pas : PS X (.Pass pos) (tS G W fun σ h => .nx σ h) := ps_pass.imp fun D σ H ⟨α, σD, hd, s, l, z⟩ => LndS.nx z s l
theorem ds_brk : PS X (.Break pos) (tS G W fun σ h => .bk σ h) := ps_break.imp fun D σ H ⟨α, σD, hd, s, l, z⟩ => z α σ H Ex.refl s l
theorem ds_cnt : PS X (.Continue pos) (tS G W fun σ h => .ct σ h) := ps_continue.imp fun D σ H ⟨α, σD, hd, s, l, z⟩ => z α σ H Ex.refl s l
theorem ds_retN : PS X (.Return none pos) (tS G W fun σ h => .rt .non h) := ps_retN.imp fun D σ H ⟨α, σD, hd, s, l, z⟩ => z α .non H Ex.refl s (by unfold RD; rfl)
theorem ds_ret (he : PE X e (tR G W fe)) : PS X (.Return (some e) pos) (tS G W fun σ h => thenF σ (vl (fe σ h)) fun p => .rt p.1 p.2) :=
  (ps_ret (pe_vl he)).imp fun D σ H ⟨α, σD, hd, s, l, z⟩ => tX_then (Rel := rD G) s l z fun x h1 α1 v H1 e x1 s1 l1 r z => z α1 v H1 Ex.refl s1 r
/-- an expression alone: no comprehension -/
def notComp : Expr → Bool
  | .ListComp _ _ _ _ => false
  | .SetComp _ _ _ _ => false
  | .DictComp _ _ _ _ _ => false
  | _ => true
theorem swaps_of {e : Expr} {t : Option Expr} {l : Nat} {env : Env} (h : notComp e = true) : swapsWith e t l env = pure false := by
  cases e <;> first | rfl | (cases h; done)
theorem ds_ex (hc : notComp e = true) (he : PE X e (tR G W fe)) : PS X (.Expr e pos) (tS G W fun σ h => thenF σ (vl (fe σ h)) fun p => .nx σ p.2) :=
  (ps_expr (pe_vl he) (swaps_of hc)).imp fun D σ H ⟨α, σD, hd, s, l, z⟩ => tX_then (Rel := rD G) s l z fun x h1 α1 v H1 e x1 s1 l1 r z => LndS.nx z s1 l1
theorem ds_doc {x : Str} {j : Nat} {p2 : Pos} : PS X (.Expr (.Constant (.str x) j pos) p2) (tS G W fun σ h => .nx σ h) := ps_doc.imp fun D σ H ⟨α, σD, hd, s, l, z⟩ => LndS.nx z s l
theorem ds_ite {a b : List Stmt} (hc : PT X c (tT G W fun σ h => ts (fc σ h))) (ha : PSs X a (tS G W fs)) (hb : PSs X b (tS G W fr)) : PS X (.If c a b pos) (tS G W fun σ h => thenF σ (ts (fc σ h)) fun p => if p.1 then fs σ p.2 else fr σ p.2) :=
  (ps_if hc ha hb).imp fun D σ H ⟨α, σD, hd, s, l, z⟩ => tX_then (Rel := rB) s l z fun t h1 α1 v H1 e x1 s1 l1 r z => by
    have r' : t = v := r
    subst r'
    cases t with
    | true => exact ⟨α1, σD, h1, s1, l1, z⟩
    | false => exact ⟨α1, σD, h1, s1, l1, z⟩
/-! ### stores -/
/-- name = value, other than a comprehension -/
theorem ds_set {i : Nat} {x : Str} {p2 : Pos} (ok : Ok G X W) (nm : Nm X i x) (hc : notComp e = true) (he : PE X e (tR G W fe)) : PS X (.Assign [.Name x p2] e pos) (tS G W fun σ h => thenF σ (vl (fe σ h)) (asgF (.nm i) σ)) :=
  (ps_set (i := i) ok.nd nm.at_ nm.loc (pe_vl he) (swaps_of hc) nm.fn).imp fun D σ H ⟨α, σD, hd, s, l, z⟩ => tX_then (Rel := rD G) s l z fun x h1 α1 v H1 e x1 s1 l1 r z => by
    dsimp only [asgF, asgT] at z
    by_cases c : i < σD.length
    · rw [if_pos c] at z; exact LndS.nx z s1 (l1.set r)
    · rw [if_neg c] at z; exact z.elim
/-- (a, b, ..) = value -/
theorem ds_asg {es : List Expr} {ts : List T} {k : Nat} {p2 : Pos} (ok : Ok G X W) (tg : TgL X es ts) (hc : notComp e = true) (he : PE X e (tR G W fe)) (hw : swappedStores [.Tuple es k p2] e X.env = pure none) :
    PS X (.Assign [.Tuple es k p2] e pos) (tS G W fun σ h => thenF σ (vl (fe σ h)) (asgF (.tp ts) σ)) :=
  (ps_asg (pe_vl he) (dg ok.K ok.calm ok.nd (.tp tg)) (by unfold swapsWithSole; exact swaps_of hc) hw rfl).imp fun D σ H ⟨α, σD, hd, s, l, z⟩ => tX_then (Rel := rD G) s l z fun x h1 α1 v H1 e x1 s1 l1 r z => by
    dsimp only [asgF] at z
    cases ea : asgT (.tp ts) x σD with
    | none => rw [ea] at z; exact z.elim
    | some σ' => rw [ea] at z; exact ⟨α1, h1, σD, x, σ', s1, l1, r, ea, fun σ2 l2 _ => LndS.nx z s1 l2⟩
/-! ### a loop over what is walked -/
theorem still_start {G : Gx} {f : Sl → Hd → R Wk} : True := trivial
/-- what stands between two turns of a for -/
def FInv (G : Gx) (W : WX) (q : Sq) (t : T) (body : Sl → Hd → F) (D : Ends) (xs : List Mp.D) (n1 : Nat) (α1 : Al) (H1 : Hp) (i : Nat) (σ : L2.St) (H : Hp) : Prop :=
  i ≤ xs.length ∧ ∃ α hd σD, StR G α hd H ∧ Ex n1 α1 H1 hd.length α H ∧ still hd q = true ∧ SlR G hd.length α H σD σ ∧ LndS G W hd.length α H D (forF (fun h => still h q) t body (xs.drop i) σD hd)
theorem opn_F {q : Sq} {f : F} {X : Cx} {D : Ends} {n0 n1 : Nat} {α0 αL : Al} {H0 HL : Hp} (x0 : Ex n0 α0 H0 n1 αL HL) (t : ∀ j, j < n1 → HL (αL j) ≠ none) (hk : ∀ k lk kvs, q = .d k lk kvs → k < n1) (fq : Fq X H0 q αL) (z : LndS G W n0 α0 H0 D (openF q f)) :
    LndS G (opW X W) n1 αL HL (opD X D) f := by
  have key : ∀ {h : Hd} {α1 : Al} {H1 : Hp} {P : Hp → Prop}, Ex n1 αL HL h.length α1 H1 → StR G α1 h H1 → still h q = true → (∀ H', Ex n0 α0 H0 (openH h q).length α1 H' → StR G α1 (openH h q) H' → Ez h.length α1 H1 h.length α1 H' → (openH h q).length = h.length → P H') →
      P H1 ∨ ∃ d od u, H1 d = some (.frz od u) ∧ (∀ o' u', X.H_0 d ≠ some (.frz o' u')) ∧ P (upd H1 d u) := fun {h α1 H1 P} x s sq zz => by
    rcases open_cases sq with eo | ⟨k, kvs, rfl⟩
    · refine .inl (zz H1 ?_ ?_ ⟨Nat.le_refl _, fun _ _ => rfl, fun _ _ q _ => q⟩ (by rw [eo]))
      · rw [eo]; exact x0.trans t x
      · rw [eo]; exact s
    · have ea : α1 k = αL k := x.al k (hk k _ kvs rfl)
      obtain ⟨od, u, eu, s3, x3, ez, hl⟩ := opn_st s sq (x0.trans t x) (by rw [ea]; exact fq.2)
      exact .inr ⟨α1 k, od, u, eu, by rw [ea]; exact fq.1, zz _ x3 s3 ez hl⟩
  have nd : (∀ k lk kvs, q ≠ .d k lk kvs) → openF q f = f := fun h => by cases q <;> first | rfl | exact absurd rfl (h _ _ _)
  have dd : openF q f = openD q f ∨ ((∀ h, still h q = true → openH h q = h) ∧ openF q f = f ∧ ∀ k lk kvs, q ≠ .d k lk kvs) := by
    cases q with
    | d k lk kvs => exact .inl rfl
    | _ => exact .inr ⟨fun _ _ => rfl, rfl, fun _ _ _ e => nomatch e⟩
  rcases dd with e | ⟨_, e, _⟩
  · rw [e] at z
    cases f with
    | nx σD h =>
      intro α1 σ' H1 x s l
      have z1 : LndS G W n0 α0 H0 D (if still h q then .nx σD (openH h q) else .no) := z
      by_cases c : still h q = true
      · rw [if_pos c] at z1
        exact key (P := D.nx σ') x s c fun H' x' s' ez hl => z1 α1 σ' H' x' s' (by rw [hl]; exact l.monoZ ez)
      · rw [if_neg c] at z1; exact z1.elim
    | bk σD h =>
      intro α1 σ' H1 x s l
      have z1 : LndS G W n0 α0 H0 D (if still h q then .bk σD (openH h q) else .no) := z
      by_cases c : still h q = true
      · rw [if_pos c] at z1
        exact key (P := D.bk σ') x s c fun H' x' s' ez hl => z1 α1 σ' H' x' s' (by rw [hl]; exact l.monoZ ez)
      · rw [if_neg c] at z1; exact z1.elim
    | ct σD h =>
      intro α1 σ' H1 x s l
      have z1 : LndS G W n0 α0 H0 D (if still h q then .ct σD (openH h q) else .no) := z
      by_cases c : still h q = true
      · rw [if_pos c] at z1
        exact key (P := D.ct σ') x s c fun H' x' s' ez hl => z1 α1 σ' H' x' s' (by rw [hl]; exact l.monoZ ez)
      · rw [if_neg c] at z1; exact z1.elim
    | rt d h =>
      intro α1 v H1 x s r
      have z1 : LndS G W n0 α0 H0 D (if still h q then .rt d (openH h q) else .no) := z
      by_cases c : still h q = true
      · rw [if_pos c] at z1
        exact key (P := D.rt v) x s c fun H' x' s' ez hl => z1 α1 v H' x' s' (by rw [hl]; exact RD.monoZ ez _ _ r)
      · rw [if_neg c] at z1; exact z1.elim
    | ex c σD h =>
      intro α1 σ' H1 x s l
      have z1 : LndS G W n0 α0 H0 D (if still h q then .ex c σD (openH h q) else .no) := z
      by_cases c2 : still h q = true
      · rw [if_pos c2] at z1
        rcases key (P := fun H' => W (.ref (G.ca c)) none σ' H') x s c2 fun H' x' s' ez hl => z1 α1 σ' H' x' s' (by rw [hl]; exact l.monoZ ez) with y | ⟨d, od, u, e1, e2, y⟩
        · exact .inl y
        · exact .inr ⟨d, od, u, e1, e2, fun a na => by rw [upd_ne (fun q => by rw [q, e1] at na; cases na)]; exact na, y⟩
      · rw [if_neg c2] at z1; exact z1.elim
    | no => exact z
  · rw [e] at z
    have z2 := LndS.from x0 t z
    cases f with
    | nx σD h => exact fun α1 σ' H1 x s l => .inl (z2 α1 σ' H1 x s l)
    | bk σD h => exact fun α1 σ' H1 x s l => .inl (z2 α1 σ' H1 x s l)
    | ct σD h => exact fun α1 σ' H1 x s l => .inl (z2 α1 σ' H1 x s l)
    | rt d h => exact fun α1 σ' H1 x s l => .inl (z2 α1 σ' H1 x s l)
    | ex c σD h => exact fun α1 σ' H1 x s l => .inl (z2 α1 σ' H1 x s l)
    | no => exact z2
theorem ds_for {tg iter : Expr} {body : List Stmt} {t : T} {fi : Sl → Hd → R Wk} (ok : Ok G X W) (hp : PassesOwn (model X.prog X.w) X.A X.env X.xe) (hi : PI X tg iter (tI G X W fi)) (hg : Tg X tg t) (hb : PSs X body (tS G (opW X W) fs)) (hs : notSet iter = true) :
    PS X (.For tg iter body [] pos) (tS G W fun σ h => thenF σ (fi σ h) fun w => openF w.1.1 (forF (fun h => still h w.1.1) t fs w.1.2 σ w.2)) :=
  (ps_op <| ps_for hp ok.calm hi (dg ok.K ok.calm ok.nd hg) hb (folded_of hs)).imp fun D σ H ⟨α, σD, hd, s, l, z⟩ => by
    refine ⟨α, σD, hd, s, l, ?_⟩
    dsimp only at z
    cases e : fi σD hd with
    | no => rw [e] at z; exact z.elim
    | ex c h1 => rw [e] at z; exact fun α1 H1 x1 s1 => z α1 σ H1 x1 s1 (l.mono x1.toEy fun i hi => s.at_ hi)
    | ok w =>
      obtain ⟨⟨q, xs⟩, h1⟩ := w
      rw [e] at z
      intro α1 H1 J x1 s1 sq fq wk
      refine ⟨fun i m σ' H' => m = xs.length - i ∧ FInv G (opW X W) q t fs (opD X D) xs h1.length α1 H1 i σ' H', ⟨xs.length, rfl, Nat.zero_le _, α1, h1, σD, s1, Ex.refl, sq, l.mono x1.toEy (fun i hi => s.at_ hi), opn_F x1 s1.there (fun k lk kvs e => by subst e; exact (List.getElem?_eq_some_iff.mp (of_decide_eq_true sq)).1) fq z⟩, ?_⟩
      rintro i m σ2 H2 ⟨rfl, hi', α2, hd2, σD2, s2, x2, sq2, l2, z2⟩
      have rdy := wk α2 hd2 H2 x2 s2 sq2 i
      by_cases hlt : i < xs.length
      · obtain ⟨go, yl⟩ := rdy.1 hlt
        refine .inr ⟨go, FInv G (opW X W) q t fs (opD X D) xs h1.length α1 H1 (i + 1), fun σ' H' iv => ⟨xs.length - (i + 1), by omega, rfl, iv⟩, fun v H3 y => ?_⟩
        obtain ⟨x, ex, rx, x3, s3⟩ := yl v H3 y
        have ed : xs.drop i = x :: xs.drop (i + 1) := by
          rw [List.drop_eq_getElem_cons hlt]
          rw [List.getElem?_eq_getElem hlt] at ex
          cases ex; rfl
        rw [ed] at z2
        simp only [forF] at z2
        cases ea : asgT t x σD2 with
        | none => rw [ea] at z2; exact z2.elim
        | some σ' =>
          rw [ea] at z2
          dsimp only at z2
          refine ⟨α2, hd2, σD2, x, σ', s3, l2.mono x3.toEy (fun i hi => s2.at_ hi), rx, ea, fun σ4 l4 off => ⟨α2, σ', hd2, s3, l4, ?_⟩⟩
          cases eb : fs σ' hd2 with
          | no => rw [eb] at z2; exact z2
          | rt d h5 => rw [eb] at z2; exact fun α5 v5 H5 x5 => z2 α5 v5 H5 (x3.trans s3.there x5)
          | ex c σ5 h5 => rw [eb] at z2; exact fun α5 v5 H5 x5 => z2 α5 v5 H5 (x3.trans s3.there x5)
          | bk σ5 h5 => rw [eb] at z2; exact fun α5 v5 H5 x5 => z2 α5 v5 H5 (x3.trans s3.there x5)
          | nx σ5 h5 =>
            rw [eb] at z2
            dsimp only at z2
            by_cases ck : still h5 q = true
            · rw [if_pos ck] at z2
              exact fun α5 σ6 H5 x5 s5 l5 => ⟨hlt, α5, h5, σ5, s5, x2.trans s2.there (x3.trans s3.there x5), ck, l5, LndS.from (x3.trans s3.there x5) s5.there z2⟩
            · rw [if_neg ck] at z2; exact z2.elim
          | ct σ5 h5 =>
            rw [eb] at z2
            dsimp only at z2
            by_cases ck : still h5 q = true
            · rw [if_pos ck] at z2
              exact fun α5 σ6 H5 x5 s5 l5 => ⟨hlt, α5, h5, σ5, s5, x2.trans s2.there (x3.trans s3.there x5), ck, l5, LndS.from (x3.trans s3.there x5) s5.there z2⟩
            · rw [if_neg ck] at z2; exact z2.elim
      · have ei : i = xs.length := by omega
        subst ei
        rw [List.drop_length] at z2
        exact .inl ⟨rdy.2 (Nat.le_refl _), LndS.nx z2 s2 l2⟩
/-! ### while -/
theorem ds_whl {body : List Stmt} {fuel : Nat} (hp : PassesOwn (model X.prog X.w) X.A X.env X.xe) (hc : PT X c (tT G W fun σ h => ts (fc σ h))) (hb : PSs X body (tS G W fs)) :
    PS X (.While c body [] pos) (tS G W fun σ h => whlF (fun σ h => ts (fc σ h)) fs fuel σ h) :=
  (ps_while hp hc hb).imp fun D σ H ⟨α, σD, hd, s, l, z⟩ => by
    refine ⟨fun m σ' H' => ∃ α hd σD, StR G α hd H' ∧ SlR G hd.length α H' σD σ' ∧ LndS G W hd.length α H' D (whlF (fun σ h => ts (fc σ h)) fs m σD hd), ⟨fuel, α, hd, σD, s, l, z⟩, ?_⟩
    rintro m σ2 H2 ⟨α2, hd2, σD2, s2, l2, z2⟩
    cases m with
    | zero => exact z2.elim
    | succ m =>
      simp only [whlF] at z2
      refine ⟨α2, σD2, hd2, s2, l2, ?_⟩
      dsimp only
      cases et : ts (fc σD2 hd2) with
      | no => rw [et] at z2; exact z2
      | ex k h1 => rw [et] at z2; exact fun α3 H3 x3 s3 => z2 α3 σ2 H3 x3 s3 (l2.mono x3.toEy fun i hi => s2.at_ hi)
      | ok p =>
        obtain ⟨b, h3⟩ := p
        rw [et] at z2
        intro α3 b' H3 x3 s3 eb
        have eb' : b = b' := eb
        subst eb'
        have l3 : SlR G h3.length α3 H3 σD2 σ2 := l2.mono x3.toEy fun i hi => s2.at_ hi
        cases b with
        | true =>
          dsimp only at z2
          refine ⟨fun σ' H' => ∃ α hd σD, StR G α hd H' ∧ SlR G hd.length α H' σD σ' ∧ LndS G W hd.length α H' D (whlF (fun σ h => ts (fc σ h)) fs m σD hd), fun σ' H' h => ⟨m, Nat.lt_succ_self m, h⟩, α3, σD2, h3, s3, l3, ?_⟩
          cases ef : fs σD2 h3 with
          | no => rw [ef] at z2; exact z2
          | rt d h5 => rw [ef] at z2; exact fun α5 v5 H5 x5 => z2 α5 v5 H5 (x3.trans s3.there x5)
          | ex c σ5 h5 => rw [ef] at z2; exact fun α5 v5 H5 x5 => z2 α5 v5 H5 (x3.trans s3.there x5)
          | bk σ5 h5 => rw [ef] at z2; exact fun α5 v5 H5 x5 => z2 α5 v5 H5 (x3.trans s3.there x5)
          | nx σ5 h5 =>
            rw [ef] at z2
            exact fun α5 σ6 H5 x5 s5 l5 => ⟨α5, h5, σ5, s5, l5, LndS.from (x3.trans s3.there x5) s5.there z2⟩
          | ct σ5 h5 =>
            rw [ef] at z2
            exact fun α5 σ6 H5 x5 s5 l5 => ⟨α5, h5, σ5, s5, l5, LndS.from (x3.trans s3.there x5) s5.there z2⟩
        | false => exact z2 α3 σ2 H3 x3 s3 l3
end
end Mp
set_option maxHeartbeats 4000000
/-! MiniPy, part 23: dicts: what stands there, asked and stored. -/
namespace Mp
open PySem PySem.Spec PyProof.Rows L2
/-! ### keys -/
mutual
theorem key_inj : ∀ (m l : Nat) (a b : D) (k : NestedKey), numK m a = true → numK l b = true → keyOf a = some k → keyOf b = some k → a = b
  | m, l, .int i, b, k, _, hb, e1, e2 => by
    cases e1
    cases b with
    | int j => cases e2; rfl
    | tup ys =>
      simp only [keyOf] at e2
      cases q : keysOf ys with
      | none => rw [q] at e2; cases e2
      | some ks => rw [q] at e2; cases e2
    | _ => cases l <;> simp [numK] at hb
  | m + 1, l, .tup xs, b, k, ha, hb, e1, e2 => by
    simp only [keyOf] at e1
    cases q : keysOf xs with
    | none => rw [q] at e1; cases e1
    | some ks =>
      rw [q] at e1
      cases e1
      cases b with
      | int j => cases e2
      | tup ys =>
        cases l with
        | zero => simp [numK] at hb
        | succ l =>
          simp only [keyOf] at e2
          cases q2 : keysOf ys with
          | none => rw [q2] at e2; cases e2
          | some ks2 =>
            rw [q2] at e2
            cases e2
            simp only [numK] at ha hb
            rw [keys_inj m l xs ys ks ha hb q q2]
      | _ => cases l <;> simp [numK] at hb
  | m, l, .non, b, k, ha, _, _, _ => by cases m <;> simp [numK] at ha
  | m, l, .bl _, b, k, ha, _, _, _ => by cases m <;> simp [numK] at ha
  | m, l, .str _, b, k, ha, _, _, _ => by cases m <;> simp [numK] at ha
  | m, l, .ob _, b, k, ha, _, _, _ => by cases m <;> simp [numK] at ha
  | m, l, .fn _, b, k, ha, _, _, _ => by cases m <;> simp [numK] at ha
  | m, l, .ex _, b, k, ha, _, _, _ => by cases m <;> simp [numK] at ha
  | m, l, .clo _ _, b, k, ha, _, _, _ => by cases m <;> simp [numK] at ha
  | m, l, .junk, b, k, ha, _, _, _ => by cases m <;> simp [numK] at ha
  | 0, l, .tup xs, b, k, ha, _, _, _ => by simp [numK] at ha
theorem keys_inj : ∀ (m l : Nat) (a b : List D) (k : List NestedKey), numKs m a = true → numKs l b = true → keysOf a = some k → keysOf b = some k → a = b
  | m, l, [], b, k, _, _, e1, e2 => by
    cases e1
    cases b with
    | nil => rfl
    | cons y ys =>
      simp only [keysOf] at e2
      split at e2 <;> cases e2
  | m, l, x :: xs, b, k, ha, hb, e1, e2 => by
    simp only [keysOf] at e1
    split at e1
    · rename_i k1 ks q1 q2
      cases e1
      cases b with
      | nil => cases e2
      | cons y ys =>
        simp only [keysOf] at e2
        split at e2
        · rename_i k2 ks2 q3 q4
          cases e2
          simp only [numKs, Bool.and_eq_true] at ha hb
          rw [key_inj m l x y k1 ha.1 hb.1 q1 q3, keys_inj m l xs ys ks ha.2 hb.2 q2 q4]
        · cases e2
    · cases e1
end
mutual
theorem key_some : ∀ (m : Nat) (a : D), numK m a = true → ∃ k, keyOf a = some k
  | m, .int i, _ => ⟨_, rfl⟩
  | m + 1, .tup xs, h => by
    simp only [numK] at h
    obtain ⟨ks, e⟩ := keys_some m xs h
    exact ⟨.tup ks, by simp only [keyOf, e]; rfl⟩
  | m, .non, h => by cases m <;> simp [numK] at h
  | m, .bl _, h => by cases m <;> simp [numK] at h
  | m, .str _, h => by cases m <;> simp [numK] at h
  | m, .ob _, h => by cases m <;> simp [numK] at h
  | m, .fn _, h => by cases m <;> simp [numK] at h
  | m, .ex _, h => by cases m <;> simp [numK] at h
  | m, .clo _ _, h => by cases m <;> simp [numK] at h
  | m, .junk, h => by cases m <;> simp [numK] at h
  | 0, .tup xs, h => by simp [numK] at h
theorem keys_some : ∀ (m : Nat) (a : List D), numKs m a = true → ∃ k, keysOf a = some k
  | m, [], _ => ⟨_, rfl⟩
  | m, x :: xs, h => by
    simp only [numKs, Bool.and_eq_true] at h
    obtain ⟨k, e1⟩ := key_some m x h.1
    obtain ⟨ks, e2⟩ := keys_some m xs h.2
    exact ⟨k :: ks, by simp only [keysOf, e1, e2]⟩
end
section
variable {G : Gx} {X : Cx} {pins : List (Addr × Obj)} {σ : L2.St} {H : Hp} {s : Shared} {n : Nat} {α : Al}
mutual
theorem nk_is (I : Inv X pins σ H s) (hK : X.K = G.K) : ∀ (m : Nat) (d : D) (v : V) (u : Value) (nk : NestedKey), RD G n α H d v → numK m d = true → keyOf d = some nk → RelV v u → NestedIs s.heap nk u ∧ nk.depth ≤ m
  | m, .int i, v, u, nk, r, _, e, rv => by
    cases e
    unfold RD at r
    subst r
    obtain ⟨t, rfl⟩ := rv
    exact ⟨.int i t, Nat.zero_le _⟩
  | m + 1, .tup xs, v, u, nk, r, h, e, rv => by
    unfold RD at r
    obtain ⟨a, vs, rfl, ta, rs⟩ := r
    cases (show u = Value.ref a from rv)
    simp only [keyOf] at e
    cases q : keysOf xs with
    | none => rw [q] at e; cases e
    | some ks =>
      rw [q] at e
      cases e
      simp only [numK] at h
      obtain ⟨its, rr, ⟨o, ho, hc, k, hd⟩, _⟩ := I.tuple (hK ▸ ta)
      obtain ⟨h1, h2⟩ := nks_is I hK m xs vs its ks rs h q rr
      exact ⟨.tup ho hc hd (by simpa using h1), by simp only [NestedKey.depth]; omega⟩
  | m, .non, v, u, nk, r, h, e, rv => by cases m <;> simp [numK] at h
  | m, .bl _, v, u, nk, r, h, e, rv => by cases m <;> simp [numK] at h
  | m, .str _, v, u, nk, r, h, e, rv => by cases m <;> simp [numK] at h
  | m, .ob _, v, u, nk, r, h, e, rv => by cases m <;> simp [numK] at h
  | m, .fn _, v, u, nk, r, h, e, rv => by cases m <;> simp [numK] at h
  | m, .ex _, v, u, nk, r, h, e, rv => by cases m <;> simp [numK] at h
  | m, .clo _ _, v, u, nk, r, h, e, rv => by cases m <;> simp [numK] at h
  | m, .junk, v, u, nk, r, h, e, rv => by cases m <;> simp [numK] at h
  | 0, .tup xs, v, u, nk, r, h, e, rv => by simp [numK] at h
theorem nks_is (I : Inv X pins σ H s) (hK : X.K = G.K) : ∀ (m : Nat) (d : List D) (v : List V) (u : List Value) (nk : List NestedKey), RDs G n α H d v → numKs m d = true → keysOf d = some nk → Vals v u → NestedAll s.heap nk u ∧ NestedKey.depthAll nk ≤ m
  | m, [], v, u, nk, r, _, e, rv => by
    cases e
    unfold RDs at r
    subst r
    cases rv
    exact ⟨.nil, Nat.zero_le _⟩
  | m, x :: xs, v, u, nk, r, h, e, rv => by
    unfold RDs at r
    obtain ⟨w, ws, rfl, r1, r2⟩ := r
    simp only [keysOf] at e
    split at e
    · rename_i k ks q1 q2
      cases e
      cases rv with
      | cons rv1 rv2 =>
        simp only [numKs, Bool.and_eq_true] at h
        obtain ⟨h1, h2⟩ := nk_is I hK m x w _ k r1 h.1 q1 rv1
        obtain ⟨h3, h4⟩ := nks_is I hK m xs ws _ ks r2 h.2 q2 rv2
        exact ⟨.cons h1 h3, by simp only [NestedKey.depthAll]; omega⟩
    · cases e
end
/-- the dict as it stands in the model, locked or not -/
theorem dct_at (I : Inv X pins σ H s) {a : Addr} {lk : Bool} {kvs : List (D × D)} (r : ObR G n α H a (.dct lk kvs)) : ∃ es, dctφ G.w a es s.heap ∧ RKs G n α H kvs es ∧ (es.map (·.1)).Nodup := by
  obtain ⟨es, e, r, nd⟩ := r
  cases lk with
  | false =>
    rw [if_neg (by decide)] at e
    obtain ⟨x, _⟩ := I.hok a _ e
    exact ⟨es, x, r, nd⟩
  | true =>
    rw [if_pos rfl] at e
    obtain ⟨o, e⟩ := e
    obtain ⟨_, x, _⟩ := I.hok a _ e
    exact ⟨es, x, r, nd⟩
/-! ### whole numbers as keys -/
abbrev RI (G : Gx) (n : Nat) (α : Al) (H : Hp) : D × D → Key × Value → Prop := fun kv q => ∃ i, kv.1 = .int i ∧ q.1 = Sum.inl i ∧ ∃ w, RD G n α H kv.2 w ∧ RelV w q.2
theorem int_in {P : Program} {w : World} : ∀ {kvs : List (D × D)} {es : List (NestedKey × V × V)} {xs : List DictEntry}, RKs G n α H kvs es → Paired (EnR w) es xs → (kvs.all fun kv => likeK (.int 0) kv.1) = true →
    ∃ vs, Paired (RI G n α H) kvs vs ∧ Pairs (mixKind P w) xs vs ∧ (∀ e ∈ xs, ∃ k, (mixKind P w).is k e.key = true ∧ e.hash = (mixKind P w).hash k) ∧ es.map (·.1) = vs.map fun q => match q.1 with | .inl i => NestedKey.num i | .inr x => NestedKey.text x
  | [], es, xs, r, p, _ => by
    have : es = [] := r
    subst this
    cases p
    exact ⟨[], .nil, .nil, (fun e he => by cases he), rfl⟩
  | (k, d) :: rest, es, xs, r, p, h => by
    obtain ⟨nk, kv, v, ws, rfl, e1, r1, r2, r3⟩ := r
    cases p with
    | cons p1 p2 =>
      rename_i x xs
      simp only [List.all_cons, Bool.and_eq_true] at h
      obtain ⟨vs, g1, g2, g3, g4⟩ := int_in (P := P) (w := w) r3 p2 h.2
      cases k with
      | int i =>
        cases e1
        unfold RD at r1
        obtain ⟨p1, p3, p4⟩ := p1
        subst r1
        obtain ⟨t, et⟩ : ∃ t, x.key = Value.int i t := p3
        have hk : (mixKind P w).is (.inl i) x.key = true := by rw [et]; exact mixKind_int P w i t
        refine ⟨(Sum.inl i, x.val) :: vs, .cons ⟨i, rfl, rfl, v, r2, p4⟩ g1, .cons hk rfl g2, fun e he => ?_, by simp only [List.map_cons, g4]⟩
        rcases List.mem_cons.mp he with rfl | he
        · exact ⟨.inl i, hk, p1⟩
        · exact g3 e he
      | _ => exact absurd h.1 (by simp [likeK])
theorem int_out {P : Program} {w : World} : ∀ {kvs : List (D × D)} {vs : List (Key × Value)} {xs : List DictEntry}, Paired (RI G n α H) kvs vs → Pairs (mixKind P w) xs vs → (∀ e ∈ xs, ∃ k, (mixKind P w).is k e.key = true ∧ e.hash = (mixKind P w).hash k) →
    ∃ es, RKs G n α H kvs es ∧ Paired (EnR w) es xs ∧ es.map (·.1) = vs.map fun q => match q.1 with | .inl i => NestedKey.num i | .inr x => NestedKey.text x
  | [], vs, xs, p, q, _ => by cases p; cases q; exact ⟨[], rfl, .nil, rfl⟩
  | kv :: rest, vs, xs, p, q, h => by
    cases p with
    | cons p1 p2 =>
      cases q with
      | cons q1 q2 q3 =>
        rename_i y ys x xs
        obtain ⟨es, g1, g2, g3⟩ := int_out (P := P) (w := w) p2 q3 fun e he => h e (List.mem_cons_of_mem _ he)
        obtain ⟨k, d⟩ := kv
        obtain ⟨i, e1, e2, v, r, rv⟩ := p1
        obtain ⟨yk, yv⟩ := y
        dsimp only at e1 e2 q1 q2 rv r
        subst e1 e2
        obtain ⟨k', h1, h2⟩ := h x List.mem_cons_self
        have : k' = Sum.inl i := (mixKind P w).inj x.key _ _ h1 q1
        subst this
        obtain ⟨t, et⟩ := Value.isInt_shape (k := i) (v := x.key) q1
        refine ⟨(.num i, .int i, v) :: es, ⟨_, _, _, _, rfl, rfl, by unfold RD; rfl, r, g1⟩, .cons ⟨h2, ⟨t, et⟩, by rw [q2]; exact rv⟩ g2, by simp only [List.map_cons, g3]⟩
theorem nd_inl {vs : List (Key × Value)} (f : Key → NestedKey) (hf : ∀ a b, f a = f b → a = b) : ((vs.map fun q => f q.1).Nodup ↔ (vs.map (·.1)).Nodup) := by
  rw [show (vs.map fun q => f q.1) = (vs.map (·.1)).map f by simp]
  constructor
  · intro h
    exact List.Pairwise.of_map f (fun _ _ hne e => hne (congrArg f e)) h
  · intro h
    exact List.Pairwise.map f (fun _ _ hne e => hne (hf _ _ e)) h
theorem keyN_inj : ∀ a b : Key, (match a with | .inl i => NestedKey.num i | .inr x => NestedKey.text x) = (match b with | .inl i => NestedKey.num i | .inr x => NestedKey.text x) → a = b
  | .inl i, .inl j, e => by cases e; rfl
  | .inr i, .inr j, e => by cases e; rfl
  | .inl i, .inr j, e => by cases e
  | .inr i, .inl j, e => by cases e
theorem int_of {P : Program} {a : Addr} {es : List (NestedKey × V × V)} {h : Heap} {kvs : List (D × D)} (x : dctφ G.w a es h) (r : RKs G n α H kvs es) (nd : (es.map (·.1)).Nodup) (hl : (kvs.all fun kv => likeK (.int 0) kv.1) = true) :
    ∃ vs, Paired (RI G n α H) kvs vs ∧ h.DictOf (mixKind P G.w) a vs ∧ (a == sysModules) = false ∧ vs.length ≤ sizeLine := by
  obtain ⟨o, xs, ep, g, ex, dt, pr, sm, sz⟩ := x
  obtain ⟨vs, g1, g2, g3, g4⟩ := int_in (P := P) r pr hl
  refine ⟨vs, g1, ⟨o, xs, ep, g, ex, dt, fun e he => g3 e (by simpa using he), g2, ?_⟩, sm, ?_⟩
  · rw [g4] at nd
    exact (nd_inl _ keyN_inj).mp nd
  · have := congrArg List.length g4
    simp only [List.length_map] at this
    omega
theorem of_int {P : Program} {a : Addr} {h : Heap} {kvs : List (D × D)} {vs : List (Key × Value)} (p : Paired (RI G n α H) kvs vs) (d : h.DictOf (mixKind P G.w) a vs) (sm : (a == sysModules) = false) (sz : vs.length ≤ sizeLine) :
    ∃ es, dctφ G.w a es h ∧ RKs G n α H kvs es ∧ (es.map (·.1)).Nodup := by
  obtain ⟨o, xs, ep, g, ex, dt, ko, pr, nd⟩ := d
  obtain ⟨es, g1, g2, g3⟩ := int_out (P := P) p pr fun e he => ko e (by simpa using he)
  refine ⟨es, ⟨o, xs, ep, g, ex, dt, g2, sm, ?_⟩, g1, by rw [g3]; exact (nd_inl _ keyN_inj).mpr nd⟩
  have := congrArg List.length g3
  simp only [List.length_map] at this
  omega
theorem int_get {kvs : List (D × D)} {vs : List (Key × Value)} (p : Paired (RI G n α H) kvs vs) (i : Int) : match dGet kvs (.int i) with
    | none => valueAt vs (.inl i) = none
    | some d => ∃ u w, valueAt vs (.inl i) = some u ∧ RD G n α H d w ∧ RelV w u := by
  induction p with
  | nil => rfl
  | @cons kv q ps qs h t ih =>
    obtain ⟨k, d⟩ := kv
    obtain ⟨qk, qv⟩ := q
    obtain ⟨j, e1, e2, w, r, rv⟩ := h
    dsimp only at e1 e2 r rv
    subst e1 e2
    by_cases c : j = i
    · subst c
      simp only [dGet, if_true]
      exact ⟨qv, w, by simp [valueAt], r, rv⟩
    · have c1 : ¬ (D.int j = D.int i) := fun e => c (by cases e; rfl)
      have c2 : ¬ ((Sum.inl j : Key) = Sum.inl i) := fun e => c (by cases e; rfl)
      simp only [dGet, if_neg c1]
      have : valueAt ((Sum.inl j, qv) :: qs) (Sum.inl i) = valueAt qs (Sum.inl i) := by simp [valueAt, c2]
      rw [this]
      exact ih
/-- the first one of a key is stored anew -/
def pPut {K β : Type} [DecidableEq K] (f : β → K) (k : K) (new : β) (upd : β → β) : List β → List β
  | [] => [new]
  | x :: xs => if f x = k then upd x :: xs else x :: pPut f k new upd xs
theorem pPut_none {K β : Type} [DecidableEq K] {f : β → K} {k : K} {new : β} {upd : β → β} : ∀ {xs : List β}, (∀ x ∈ xs, f x ≠ k) → pPut f k new upd xs = xs ++ [new] ∧ xs.map (fun x => if f x = k then upd x else x) = xs
  | [], _ => ⟨rfl, rfl⟩
  | x :: xs, h => by
    obtain ⟨h1, h2⟩ := pPut_none (xs := xs) (new := new) (upd := upd) fun y hy => h y (List.mem_cons_of_mem _ hy)
    have hx := h x List.mem_cons_self
    exact ⟨by simp only [pPut, if_neg hx, h1]; rfl, by simp only [List.map_cons, if_neg hx, h2]⟩
theorem pPut_some {K β : Type} [DecidableEq K] {f : β → K} {k : K} {new : β} {upd : β → β} : ∀ {xs : List β}, (xs.map f).Nodup → (∃ x ∈ xs, f x = k) → pPut f k new upd xs = xs.map (fun x => if f x = k then upd x else x)
  | [], _, h => by obtain ⟨x, hx, _⟩ := h; cases hx
  | x :: xs, nd, h => by
    rw [List.map_cons, List.nodup_cons] at nd
    by_cases c : f x = k
    · have h2 := (pPut_none (xs := xs) (new := new) (upd := upd) fun y hy e => nd.1 (List.mem_map.mpr ⟨y, hy, e.trans c.symm⟩)).2
      simp only [pPut, if_pos c, List.map_cons, h2]
    · obtain ⟨y, hy, e⟩ := h
      have hy : y ∈ xs := by
        rcases List.mem_cons.mp hy with rfl | hy
        · exact absurd e c
        · exact hy
      simp only [pPut, if_neg c, List.map_cons, pPut_some nd.2 ⟨y, hy, e⟩]
theorem stored_eq {vs : List (Key × Value)} {k : Key} {u : Value} (nd : (vs.map (·.1)).Nodup) : stored vs k u = pPut (·.1) k (k, u) (fun q => (q.1, u)) vs := by
  unfold stored
  by_cases c : (vs.any fun kv => decide (kv.1 = k)) = true
  · rw [if_pos c]
    obtain ⟨x, hx, e⟩ := List.any_eq_true.mp c
    exact (pPut_some nd ⟨x, hx, of_decide_eq_true e⟩).symm
  · rw [if_neg c]
    exact ((pPut_none fun x hx e => c (List.any_eq_true.mpr ⟨x, hx, decide_eq_true e⟩)).1).symm
theorem int_put {kvs : List (D × D)} {vs : List (Key × Value)} (p : Paired (RI G n α H) kvs vs) (nd : (vs.map (·.1)).Nodup) (i : Int) {d : D} {w : V} {u : Value} (r : RD G n α H d w) (rv : RelV w u) : Paired (RI G n α H) (dPut kvs (.int i) d) (stored vs (.inl i) u) := by
  rw [stored_eq nd]
  clear nd
  induction p with
  | nil => exact .cons ⟨i, rfl, rfl, w, r, rv⟩ .nil
  | @cons kv q ps qs h t ih =>
    obtain ⟨k, d'⟩ := kv
    obtain ⟨qk, qv⟩ := q
    obtain ⟨j, e1, e2, w', r', rv'⟩ := h
    dsimp only at e1 e2 r' rv'
    subst e1 e2
    by_cases c : j = i
    · subst c
      simp only [dPut, pPut, if_true]
      exact .cons ⟨j, rfl, rfl, w, r, rv⟩ t
    · have c1 : ¬ (D.int j = D.int i) := fun e => c (by cases e; rfl)
      have c2 : ¬ ((Sum.inl j : Key) = Sum.inl i) := fun e => c (by cases e; rfl)
      simp only [dPut, pPut, if_neg c1, if_neg c2]
      exact .cons ⟨j, rfl, rfl, w', r', rv'⟩ ih
/-! ### tuples as keys -/
abbrev RT (G : Gx) (n : Nat) (α : Al) (H : Hp) : D × D → NestedKey × Addr × Value → Prop := fun kv q => numK 7 kv.1 = true ∧ keyOf kv.1 = some q.1 ∧ RD G n α H kv.1 (.ref q.2.1) ∧ ∃ w, RD G n α H kv.2 w ∧ RelV w q.2.2
theorem like_tup {k : D} (h : ∀ xs, k ≠ .tup xs → False) : True := trivial
theorem tup_in {P : Program} (I : Inv X pins σ H s) (hK : X.K = G.K) {w : World} {ys : List D} : ∀ {kvs : List (D × D)} {es : List (NestedKey × V × V)} {xs : List DictEntry}, RKs G n α H kvs es → Paired (EnR w) es xs → (kvs.all fun kv => likeK (.tup ys) kv.1) = true →
    ∃ qs, Paired (RT G n α H) kvs qs ∧ xs = qs.map (entryOfKey (nestedKind P w)) ∧ (∀ q ∈ qs, (nestedKind P w).is s.heap q.1 q.2.1) ∧ es.map (·.1) = qs.map (·.1)
  | [], es, xs, r, p, _ => by
    have : es = [] := r
    subst this
    cases p
    exact ⟨[], .nil, rfl, (fun e he => by cases he), rfl⟩
  | (k, d) :: rest, es, xs, r, p, h => by
    obtain ⟨nk, kv, v, ws, rfl, e1, r1, r2, r3⟩ := r
    cases p with
    | cons p1 p2 =>
      rename_i x xs
      simp only [List.all_cons, Bool.and_eq_true] at h
      obtain ⟨qs, g1, g2, g3, g4⟩ := tup_in (P := P) I hK r3 p2 h.2
      obtain ⟨p1, p3, p4⟩ := p1
      cases k with
      | tup zs =>
        have hn : numK 7 (.tup zs) = true := by
          have := h.1
          simp only [likeK, Bool.and_eq_true] at this
          simp only [numK]; exact this.2
        obtain ⟨i1, i2⟩ := nk_is I hK 7 (.tup zs) kv x.key nk r1 hn e1 p3
        have r1' := r1
        unfold RD at r1'
        obtain ⟨a, vs, rfl, _⟩ := r1'
        have ek : x.key = .ref a := p3
        refine ⟨(nk, a, x.val) :: qs, .cons ⟨hn, e1, r1, v, r2, p4⟩ g1, ?_, fun q hq => ?_, by simp only [List.map_cons, g4]⟩
        · rw [List.map_cons, ← g2]
          congr 1
          obtain ⟨xh, xk, xv⟩ := x
          dsimp only at ek p1
          subst ek p1
          rfl
        · rcases List.mem_cons.mp hq with rfl | hq
          · exact ⟨by rw [← ek]; exact i1, by show nk.depth ≤ 8; omega⟩
          · exact g3 q hq
      | _ => exact absurd h.1 (by simp [likeK])
theorem tup_out {P : Program} {w : World} : ∀ {kvs : List (D × D)} {qs : List (NestedKey × Addr × Value)}, Paired (RT G n α H) kvs qs → ∃ es, RKs G n α H kvs es ∧ Paired (EnR w) es (qs.map (entryOfKey (nestedKind P w))) ∧ es.map (·.1) = qs.map (·.1)
  | [], qs, p => by cases p; exact ⟨[], rfl, .nil, rfl⟩
  | kv :: rest, qs, p => by
    cases p with
    | cons p1 p2 =>
      rename_i q qs
      obtain ⟨es, g1, g2, g3⟩ := tup_out (P := P) (w := w) p2
      obtain ⟨_, e1, r1, v, r2, rv⟩ := p1
      obtain ⟨k, d⟩ := kv
      exact ⟨(q.1, .ref q.2.1, v) :: es, ⟨_, _, _, _, rfl, e1, r1, r2, g1⟩, .cons ⟨rfl, rfl, rv⟩ g2, by simp only [List.map_cons, g3]⟩
theorem tup_of {P : Program} (I : Inv X pins σ H s) (hK : X.K = G.K) {a : Addr} {es : List (NestedKey × V × V)} {kvs : List (D × D)} {ys : List D} (x : dctφ G.w a es s.heap) (r : RKs G n α H kvs es) (nd : (es.map (·.1)).Nodup) (hl : (kvs.all fun kv => likeK (.tup ys) kv.1) = true) :
    ∃ qs, Paired (RT G n α H) kvs qs ∧ s.heap.DictOfH (nestedKind P G.w) a qs ∧ (a == sysModules) = false ∧ qs.length ≤ sizeLine := by
  obtain ⟨o, xs, ep, g, ex, dt, pr, sm, sz⟩ := x
  obtain ⟨qs, g1, g2, g3, g4⟩ := tup_in (P := P) I hK r pr hl
  refine ⟨qs, g1, ⟨o, xs, ep, g, ex, dt, g2, g3, by rw [← g4]; exact nd⟩, sm, ?_⟩
  have := congrArg List.length g4
  simp only [List.length_map] at this
  omega
theorem of_tup {P : Program} {a : Addr} {h : Heap} {kvs : List (D × D)} {qs : List (NestedKey × Addr × Value)} (p : Paired (RT G n α H) kvs qs) (d : h.DictOfH (nestedKind P G.w) a qs) (sm : (a == sysModules) = false) (sz : qs.length ≤ sizeLine) :
    ∃ es, dctφ G.w a es h ∧ RKs G n α H kvs es ∧ (es.map (·.1)).Nodup := by
  obtain ⟨o, xs, ep, g, ex, dt, he, _, nd⟩ := d
  obtain ⟨es, g1, g2, g3⟩ := tup_out (P := P) (w := G.w) p
  refine ⟨es, ⟨o, xs, ep, g, ex, dt, by rw [he]; exact g2, sm, ?_⟩, g1, by rw [g3]; exact nd⟩
  have := congrArg List.length g3
  simp only [List.length_map] at this
  omega
theorem key_iff {a b : D} {ka kb : NestedKey} (ha : numK 7 a = true) (hb : numK 7 b = true) (e1 : keyOf a = some ka) (e2 : keyOf b = some kb) : a = b ↔ ka = kb :=
  ⟨fun e => by subst e; rw [e1] at e2; cases e2; rfl, fun e => by subst e; exact key_inj 7 7 a b ka ha hb e1 e2⟩
theorem tup_get {kvs : List (D × D)} {qs : List (NestedKey × Addr × Value)} (p : Paired (RT G n α H) kvs qs) {k : D} {nk : NestedKey} (hk : numK 7 k = true) (ek : keyOf k = some nk) : match dGet kvs k with
    | none => atKey qs nk = none
    | some d => ∃ q w, atKey qs nk = some q ∧ RD G n α H d w ∧ RelV w q.2 := by
  induction p with
  | nil => rfl
  | @cons kv q ps qs h t ih =>
    obtain ⟨k', d⟩ := kv
    obtain ⟨hn, e1, r1, w, r, rv⟩ := h
    dsimp only at hn e1 r1 r
    by_cases c : k' = k
    · have c2 := (key_iff hn hk e1 ek).mp c
      simp only [dGet, if_pos c]
      exact ⟨q.2, w, by simp [atKey, c2], r, rv⟩
    · have c2 : ¬ q.1 = nk := fun e => c ((key_iff hn hk e1 ek).mpr e)
      simp only [dGet, if_neg c]
      have : atKey (q :: qs) nk = atKey qs nk := by simp [atKey, c2]
      rw [this]
      exact ih
theorem storedH_eq {qs : List (NestedKey × Addr × Value)} {k : NestedKey} {a : Addr} {u : Value} (nd : (qs.map (·.1)).Nodup) : storedH qs k a u = pPut (·.1) k (k, a, u) (fun q => (q.1, q.2.1, u)) qs := by
  unfold storedH
  have e : (atKey qs k).isSome = true ↔ ∃ x ∈ qs, x.1 = k := by
    unfold atKey
    rw [Option.isSome_map, List.find?_isSome]
    simp
  by_cases c : (atKey qs k).isSome = true
  · rw [if_pos c, pPut_some nd (e.mp c)]
    rfl
  · rw [if_neg c]
    exact ((pPut_none fun x hx q => c (e.mpr ⟨x, hx, q⟩)).1).symm
theorem tup_put {kvs : List (D × D)} {qs : List (NestedKey × Addr × Value)} (p : Paired (RT G n α H) kvs qs) (nd : (qs.map (·.1)).Nodup) {k : D} {nk : NestedKey} {a : Addr} (hk : numK 7 k = true) (ek : keyOf k = some nk) (rk : RD G n α H k (.ref a)) {d : D} {w : V} {u : Value} (r : RD G n α H d w) (rv : RelV w u) :
    Paired (RT G n α H) (dPut kvs k d) (storedH qs nk a u) := by
  rw [storedH_eq nd]
  clear nd
  induction p with
  | nil => exact .cons ⟨hk, ek, rk, w, r, rv⟩ .nil
  | @cons kv q ps qs h t ih =>
    obtain ⟨k', d'⟩ := kv
    obtain ⟨hn, e1, r1, w', r', rv'⟩ := h
    dsimp only at hn e1 r1 r'
    by_cases c : k' = k
    · have c2 := (key_iff hn hk e1 ek).mp c
      simp only [dPut, pPut, if_pos c, if_pos c2]
      exact .cons ⟨hn, e1, r1, w, r, rv⟩ t
    · have c2 : ¬ q.1 = nk := fun e => c ((key_iff hn hk e1 ek).mpr e)
      simp only [dPut, pPut, if_neg c, if_neg c2]
      exact .cons ⟨hn, e1, r1, w', r', rv'⟩ ih
theorem likeKs_ok {kvs : List (D × D)} {k : D} (h : likeKs kvs k = true) : (∃ i, k = .int i ∧ (kvs.all fun kv => likeK (.int 0) kv.1) = true) ∨ ∃ ys, k = .tup ys ∧ numK 7 k = true ∧ (kvs.all fun kv => likeK (.tup ys) kv.1) = true := by
  unfold likeKs at h
  rw [Bool.and_eq_true] at h
  obtain ⟨h1, h2⟩ := h
  cases k with
  | int i =>
    refine .inl ⟨i, rfl, ?_⟩
    rw [List.all_eq_true] at h2 ⊢
    intro kv hkv
    have := h2 kv hkv
    cases e : kv.1 <;> rw [e] at this <;> first | rfl | simp [likeK] at this
  | tup ys =>
    refine .inr ⟨ys, rfl, ?_, h2⟩
    simp only [likeK, Bool.and_eq_true] at h1
    simp only [numK]; exact h1.1
  | _ => simp [likeK] at h1
/-! ### asked and stored, in the model -/
variable {hd : Hd} {k : Nat} {lk : Bool} {kvs : List (D × D)} {e t : D} {y v : V} {u : Value} {A : Around} {E : Value → Shared → Prop}
/-- a dict's two readings in the model -/
theorem dv_two (I : Inv X pins σ H s) (hK : X.K = G.K) (hw : X.w = G.w) {a : Addr} (r : ObR G n α H a (.dct lk kvs)) (re : RD G n α H e y) (ry : RelV y u) (hl : likeKs kvs e = true) :
    (∃ i vs, e = .int i ∧ Paired (RI G n α H) kvs vs ∧ s.heap.DictOf (mixKind X.prog X.w) a vs ∧ (a == sysModules) = false ∧ vs.length ≤ sizeLine ∧ (mixKind X.prog X.w).is (Sum.inl i) u = true) ∨
    ∃ qs nk b, numK 7 e = true ∧ keyOf e = some nk ∧ u = .ref b ∧ RD G n α H e (.ref b) ∧ Paired (RT G n α H) kvs qs ∧ s.heap.DictOfH (nestedKind X.prog X.w) a qs ∧ (a == sysModules) = false ∧ qs.length ≤ sizeLine ∧ (nestedKind X.prog X.w).is s.heap nk b := by
  obtain ⟨es, x, rk, nd⟩ := dct_at I r
  rcases likeKs_ok hl with ⟨i, rfl, hl2⟩ | ⟨ys, rfl, hn, hl2⟩
  · obtain ⟨vs, p, d, sm, sz⟩ := int_of (P := X.prog) x rk nd hl2
    unfold RD at re
    subst re
    exact .inl ⟨i, vs, rfl, p, by rw [hw]; exact d, sm, sz, let ⟨t, q⟩ := ry; by rw [q]; exact mixKind_int _ _ i t⟩
  · obtain ⟨qs, p, d, sm, sz⟩ := tup_of (P := X.prog) I hK x rk nd hl2
    obtain ⟨nk, ek⟩ := key_some 7 _ hn
    obtain ⟨i1, i2⟩ := nk_is I hK 7 _ y u nk re hn ek ry
    have re' := re
    unfold RD at re'
    obtain ⟨a', vs, rfl, _⟩ := re'
    obtain rfl : u = Value.ref a' := ry
    exact .inr ⟨qs, nk, a', hn, ek, rfl, re, p, by rw [hw]; exact d, sm, sz, ⟨i1, by omega⟩⟩
theorem roomD (hu : A.units + 64 < cLine) : A.in1.units + 8 < cLine := by show A.units + 1 + 8 < cLine; omega
theorem dv_getItem (I : Inv X pins σ H s) (hK : X.K = G.K) (hw : X.w = G.w) (hu : A.units + 64 < cLine) {a : Addr} (r : ObR G n α H a (.dct lk kvs)) (re : RD G n α H e y) (ry : RelV y u) (hl : likeKs kvs e = true) (hg : dGet kvs e = some t) {Q : Value → Shared → Prop}
    (h : ∀ v w' s', Inv X pins σ H s' → RD G n α H t v → RelV v w' → Q w' s') : wpAny (model X.prog X.w) A (getItem (.ref a) u) Q E s := by
  rcases dv_two I hK hw r re ry hl with ⟨i, vs, rfl, p, d, sm, sz, hk⟩ | ⟨qs, nk, b, hn, ek, rfl, rk, p, d, sm, sz, hk⟩
  · have g := int_get p i
    rw [hg] at g
    obtain ⟨w, z, hv, rw', rz⟩ := g
    exact wpAny_getItem_of hk d.mapOf hv (h _ _ _ (I.tok _) rw' rz)
  · have g := tup_get p hn ek
    rw [hg] at g
    obtain ⟨q, w, hq, rw', rz⟩ := g
    exact wpAny_getItem_heap (knd := nestedKind X.prog X.w) (roomD hu) hk d hq (h _ _ _ (I.tok _) rw' rz)
theorem dv_in (I : Inv X pins σ H s) (hK : X.K = G.K) (hw : X.w = G.w) (hu : A.units + 64 < cLine) {a : Addr} (r : ObR G n α H a (.dct lk kvs)) (re : RD G n α H e y) (ry : RelV y u) (hl : likeKs kvs e = true) {Q : Value → Shared → Prop}
    (h : ∀ s', Inv X pins σ H s' → Q (.bool (dGet kvs e).isSome) s') : wpAny (model X.prog X.w) A (compareOp .In u (.ref a)) Q E s := by
  rcases dv_two I hK hw r re ry hl with ⟨i, vs, rfl, p, d, sm, sz, hk⟩ | ⟨qs, nk, b, hn, ek, rfl, rk, p, d, sm, sz, hk⟩
  · refine wpAny_in_of hk sm d.mapOf ?_
    have g := int_get p i
    have e1 : (dGet kvs (.int i)).isSome = (valueAt vs (Sum.inl i)).isSome := by
      cases q : dGet kvs (.int i) with
      | none => rw [q] at g; rw [g]; rfl
      | some t => rw [q] at g; obtain ⟨w, z, hv, _⟩ := g; rw [hv]; rfl
    rw [e1] at h
    exact h _ (I.tok _)
  · refine wpAny_in_heap (knd := nestedKind X.prog X.w) (roomD hu) hk sm d ?_
    have g := tup_get p hn ek
    have e1 : (dGet kvs e).isSome = (atKey qs nk).isSome := by
      cases q : dGet kvs e with
      | none => rw [q] at g; rw [g]; rfl
      | some t => rw [q] at g; obtain ⟨w, z, hv, _⟩ := g; rw [hv]; rfl
    rw [e1] at h
    exact h _ (I.tok _)
theorem dv_notin (I : Inv X pins σ H s) (hK : X.K = G.K) (hw : X.w = G.w) (hu : A.units + 64 < cLine) {a : Addr} (r : ObR G n α H a (.dct lk kvs)) (re : RD G n α H e y) (ry : RelV y u) (hl : likeKs kvs e = true) {Q : Value → Shared → Prop}
    (h : ∀ s', Inv X pins σ H s' → Q (.bool (!(dGet kvs e).isSome)) s') : wpAny (model X.prog X.w) A (compareOp .NotIn u (.ref a)) Q E s := by
  rcases dv_two I hK hw r re ry hl with ⟨i, vs, rfl, p, d, sm, sz, hk⟩ | ⟨qs, nk, b, hn, ek, rfl, rk, p, d, sm, sz, hk⟩
  · refine wpAny_notIn_of hk sm d.mapOf ?_
    have g := int_get p i
    have e1 : (dGet kvs (.int i)).isSome = (valueAt vs (Sum.inl i)).isSome := by
      cases q : dGet kvs (.int i) with
      | none => rw [q] at g; rw [g]; rfl
      | some t => rw [q] at g; obtain ⟨w, z, hv, _⟩ := g; rw [hv]; rfl
    rw [e1] at h
    exact h _ (I.tok _)
  · refine wpAny_notIn_heap (knd := nestedKind X.prog X.w) (roomD hu) hk sm d ?_
    have g := tup_get p hn ek
    have e1 : (dGet kvs e).isSome = (atKey qs nk).isSome := by
      cases q : dGet kvs e with
      | none => rw [q] at g; rw [g]; rfl
      | some t => rw [q] at g; obtain ⟨w, z, hv, _⟩ := g; rw [hv]; rfl
    rw [e1] at h
    exact h _ (I.tok _)
theorem dPut_len (k v : D) : ∀ kvs : List (D × D), (dPut kvs k v).length ≤ kvs.length + 1
  | [] => Nat.le_refl _
  | (q, w) :: r => by
    simp only [dPut]
    split
    · simp
    · simp only [List.length_cons]; have := dPut_len k v r; omega
theorem sameBut_get {a : Addr} {h h' : Heap} (sb : Heap.SameBut a h h') : ∀ b o, b ≠ a → h.get? b = some o → h'.get? b = some o := fun b o hb e => (sb.2 b hb).trans e
theorem dv_setItem (I : Inv X pins σ H s) (hK : X.K = G.K) (hw : X.w = G.w) (hu : A.units + 64 < cLine) {hd : Hd} (st : StR G α hd H) {k : Nat} (ek : hd[k]? = some (.dct false kvs)) (re : RD G hd.length α H e y) (ry : RelV y u) (hl : likeKs kvs e = true) (hz : kvs.length < sizeL) {r : Value} (rt : RD G hd.length α H t v) (rv : RelV v r) {Q : Unit → Shared → Prop}
    (h : ∀ H' s', Inv X pins σ H' s' → Ex hd.length α H hd.length α H' → StR G α (hd.set k (.dct false (dPut kvs e t))) H' → Ez hd.length α H hd.length α H' → Q () s') : wpAny (model X.prog X.w) A (setItem (.ref (α k)) u r) Q E s := by
  have hk : k < hd.length := (List.getElem?_eq_some_iff.mp ek).1
  have ro := st.ob k _ ek
  obtain ⟨es0, e0, _, _⟩ := id ro
  rw [if_neg (by decide)] at e0
  have fin : ∀ {h' : Heap} {t' : Nat}, Heap.SameBut (α k) s.heap h' → (∃ es, dctφ G.w (α k) es h' ∧ RKs G hd.length α H (dPut kvs e t) es ∧ (es.map (·.1)).Nodup) → Q () { s with heap := h', toks := t' } := fun {h' t'} sb ⟨es, x, rk, nd⟩ => by
    have ez : Ez hd.length α H hd.length α (upd H (α k) (DctO G.w (α k) es)) := Ez.bx e0 ⟨_, _, _, rfl⟩
    have at' : ∃ q, h'.get? (α k) = some q := let ⟨o, xs, ep, g, _⟩ := x; ⟨o, g⟩
    have new : ObjOk X.prog X.w (upd H (α k) (DctO G.w (α k) es)) h' (α k) (DctO G.w (α k) es) := ⟨x, at', fun h1 h2 ⟨o, xs, ep, g, z⟩ sm => ⟨o, xs, ep, sm o g, z⟩⟩
    refine h _ _ (I.write (x := α k) (e := α k) (t' := t') (by rw [e0]; trivial) (.inl rfl) (fun b q hb z => sameBut_get sb b q hb z) at' new) (Ex.write hk fun o u q => by rw [e0] at q; cases q) ?_ ez
    exact st.write hk ⟨es, by rw [if_neg (by decide)]; exact upd_same, RKs.monoZ ez _ _ rk, nd⟩
  have hz2 : (dPut kvs e t).length ≤ sizeLine := by have := dPut_len e t kvs; rw [← sizeL_eq]; omega
  rcases dv_two I hK hw ro re ry hl with ⟨i, vs, rfl, p, d, sm, sz, hk⟩ | ⟨qs, nk, b, hn, ek, rfl, rk, p, d, sm, sz, hk⟩
  · refine wpAny_setItem_pairs (hsz := sz) hk d fun h' d' sb => fin sb ?_
    have p2 := int_put p (let ⟨_, _, _, _, _, _, _, _, nd⟩ := d; nd) i rt rv
    exact of_int (P := X.prog) p2 (by rw [← hw]; exact d') sm (by rw [← Paired.length p2]; exact hz2)
  · refine wpAny_setItem_heap (knd := nestedKind X.prog X.w) (hsz := sz) (roomD hu) hk d fun h' d' sb => fin sb ?_
    have p2 := tup_put p (let ⟨_, _, _, _, _, _, _, _, nd⟩ := d; nd) hn ek rk rt rv
    exact of_tup (P := X.prog) p2 (by rw [← hw]; exact d') sm (by rw [← Paired.length p2]; exact hz2)
end
end Mp
set_option maxHeartbeats 1000000
/-! MiniPy, part 11: stores, methods of built-in types, calls of defs, raise. -/
namespace Mp
open PySem PySem.Spec PyProof.Rows L2
section
variable {G : Gx} {X : Cx} {W : WX} {pos p apos : Pos} {a b o e : Expr} {es : List Expr} {fa fb fo fe : Sl → Hd → R (Rv × Hd)} {fs : Sl → Hd → R (List D × Hd)}
/-! ### name = [..] -/
theorem sw_lc {elt : Expr} {gs : List Comprehension} {scope : Scope} {pos py : Pos} {y : Str} {l : Nat} {env : Env} (hk : env.scope.kind = .function)
    (hb : ((env.scope.names.lookup y == some .local) && (py.line == pos.line) && !(scope.names.any fun (n, k) => n == y && (k == .local || k == .cell))) = false) : swapsWith (.ListComp elt gs scope pos) (some (.Name y py)) l env = pure false := by
  unfold swapsWith
  have e1 : env.blockKind = .function := by unfold Env.blockKind; rw [hk]; rfl
  show pure ((env.blockKind == .function) && (env.kindOf y == some .local) && (py.line == pos.line) && !(scope.names.any fun (n, k) => n == y && (k == .local || k == .cell))) = pure false
  have e2 : ((env.blockKind == .function) && (env.kindOf y == some .local) && (py.line == pos.line) && !(scope.names.any fun (n, k) => n == y && (k == .local || k == .cell))) = false := by
    rw [e1]
    show (true && (env.scope.names.lookup y == some .local) && (py.line == pos.line) && !(scope.names.any fun (n, k) => n == y && (k == .local || k == .cell))) = false
    rw [Bool.true_and]; exact hb
  rw [e2]
theorem ds_set' {i : Nat} {x : Str} {p2 : Pos} (ok : Ok G X W) (nm : Nm X i x) (hc : swapsWith e (some (.Name x p2)) pos.line X.env = pure false) (he : PE X e (tR G W fe)) : PS X (.Assign [.Name x p2] e pos) (tS G W fun σ h => thenF σ (vl (fe σ h)) (asgF (.nm i) σ)) :=
  (ps_set (i := i) ok.nd nm.at_ nm.loc (pe_vl he) hc nm.fn).imp fun D σ H ⟨α, σD, hd, s, l, z⟩ => tX_then (Rel := rD G) s l z fun x h1 α1 v H1 e x1 s1 l1 r z => by
    dsimp only [asgF, asgT] at z
    by_cases c : i < σD.length
    · rw [if_pos c] at z; exact LndS.nx z s1 (l1.set r)
    · rw [if_neg c] at z; exact z.elim
theorem ds_setLc {i : Nat} {y : Str} {py spos : Pos} {tg iter elt : Expr} {ifs : List Expr} {scope : Scope} {own : List (Str × Nat)} {t : T} {fi : Sl → Hd → R Wk} {ft : Sl → Hd → R (Bool × Hd)} (ok : Ok G X W) (nm : Nm X i y) (hyl : X.env.scope.names.lookup y = some .local)
    (hk : X.env.scope.kind = .function) (hl : (py.line == pos.line) = true) (hn : (scope.names.any fun (n, k) => n == y && (k == .local || k == .cell)) = false) (hi : PI X tg iter (tI G X W fi)) (blk : BlkOk X.N X.env.scope scope own) (hsl : ∀ j, j ∈ t.sl → j ∈ own.map (·.2))
    (hg : ∀ (s : Shared) (H : Hp) (C : Addr) (cl : List (Str × Addr)) (fp : List Addr), Tg (X.blk s H scope (compEnvC scope cl C X.env) fp) tg t)
    (ht : ∀ (s : Shared) (H : Hp) (C : Addr) (cl : List (Str × Addr)) (fp : List Addr), PTs (X.blk s H scope (compEnvC scope cl C X.env) fp) ifs (tT G W0 ft))
    (he : ∀ (s : Shared) (H : Hp) (C : Addr) (cl : List (Str × Addr)) (fp : List Addr), PE (X.blk s H scope (compEnvC scope cl C X.env) fp) elt (tR G W0 fe)) (hs : notSet iter = true) :
    PS X (.Assign [.Name y py] (.ListComp elt [⟨tg, iter, ifs, 0⟩] scope pos) spos) (tS G W fun σ h => thenF σ (vl (fi σ h >>= fun w => compF (fun h => still h w.1.1) t (own.map (·.2)) ft (fun σ h => vl (fe σ h)) σ w.1.2 w.2 >>= fun p => if p.1.length ≤ sizeL then .ok (.l p.1, openH p.2 w.1.1) else .no)) (asgF (.nm i) σ)) :=
  (ps_op <| ps_setLc (i := i) (own := own) ok.calm ok.nd nm.at_ hyl (sw_true hk hyl hl hn) hi blk (fun s H C cl fp => dg (X := X.blk s H scope (compEnvC scope cl C X.env) fp) ok.K ok.calm ok.nd (hg s H C cl fp)) ht (fun s H C cl fp => pe_vl (he s H C cl fp)) (folded_of hs)).imp fun D σ H ⟨α, σD, hd, s, l, z⟩ => by
    refine tLc_of (Q := fun x H1 => D.nx (σ.set i (some x)) H1) hsl ⟨α, σD, hd, s, l, ?_⟩
    dsimp only at z ⊢
    generalize (fi σD hd >>= fun w => compF (fun h => still h w.1.1) t (own.map (·.2)) ft (fun σ h => vl (fe σ h)) σD w.1.2 w.2 >>= fun p => if p.1.length ≤ sizeL then (R.ok (Rv.l p.1, openH p.2 w.1.1) : R (Rv × Hd)) else .no) = r at z ⊢
    cases r with
    | no => exact z
    | ex c h1 => exact fun α1 H1 x1 s1 => z α1 σ H1 x1 s1 (l.mono x1.toEy fun i hi => s.at_ hi)
    | ok p =>
      obtain ⟨rv, h1⟩ := p
      intro α1 v H1 x1 s1 rr
      have l1 : SlR G h1.length α1 H1 σD σ := l.mono x1.toEy fun i hi => s.at_ hi
      cases rv with
      | v d =>
        have z' : LndS G W hd.length α H D (asgF (.nm i) σD (d, h1)) := z
        dsimp only [asgF, asgT] at z'
        by_cases c : i < σD.length
        · rw [if_pos c] at z'; exact z' α1 _ H1 x1 s1 (l1.set rr)
        · rw [if_neg c] at z'; exact z'.elim
      | l xs =>
        have z' : LndS G W hd.length α H D (asgF (.nm i) σD (.ob h1.length, h1 ++ [.lst xs])) := z
        dsimp only [asgF, asgT] at z'
        obtain ⟨q, vs, rfl, ea, rs, h0, na⟩ := rr
        obtain ⟨s2, y2⟩ := s1.adopt (o := .lst xs) na ⟨vs, ea, rs⟩
        have en : (h1 ++ [Ob.lst xs]).length = h1.length + 1 := by rw [List.length_append, List.length_singleton]
        by_cases c : i < σD.length
        · rw [if_pos c] at z'
          refine z' _ _ H1 (by rw [en]; exact x1.adopt h0) s2 ?_
          rw [en]
          refine (l1.mono y2 fun i hi => s1.at_ hi).set ?_
          unfold RD
          exact ⟨Nat.lt_succ_self _, by rw [alUp_eq]⟩
        · rw [if_neg c] at z'; exact z'.elim
/-! ### o[i] = e -/
theorem assign_sub {tpos : Pos} {env : Env} {v : Value} (h : notSlice a = true) : assign (.Subscript o a tpos) env v = (do
      let ov ← holding [v] (eval o env)
      let iv ← holding [v, ov] (eval a env)
      standAt tpos
      holding [v, ov, iv] (setItem ov iv v)
      release [v, ov, iv] []) := by
  cases a <;> first | rfl | (cases h; done)
/-- what a store to an item asks and leaves -/
def rSetC (G : Gx) : V → V → V → Hp → (Hp → Prop) → Prop := fun o i v H Q => ∃ α hd d e t h', StR G α hd H ∧ RD G hd.length α H d o ∧ RD G hd.length α H e i ∧ RD G hd.length α H t v ∧ setIxC d e t hd = some h' ∧
  ∀ H', Ex hd.length α H hd.length α H' → StR G α h' H' → Ez hd.length α H hd.length α H' → h'.length = hd.length → Q H'
theorem set_c (hK : X.K = G.K) (hw : X.w = G.w) (hu : X.A.units + 65 < cLine) : PSet X (rSetC G) := by
  intro pins s σ H o i v ov iv u Q I ro ri rv ⟨α, hd, d, e, t, h', st, rd, re, rt, es, q⟩
  unfold setIxC at es
  cases ed : dctOf hd d with
  | none =>
    rw [ed] at es
    dsimp only at es
    cases d with
    | ob k =>
      cases e with
      | int j =>
        unfold RD at rd re
        obtain ⟨hk, rfl⟩ := rd
        subst re
        simp only [setIxD] at es
        cases ek : hd[k]? with
        | none => rw [ek] at es; cases es
        | some ob =>
          rw [ek] at es
          cases ob with
          | lst xs =>
            dsimp only at es
            cases ei : L2.ixN xs.length j with
            | none => rw [ei] at es; cases es
            | some p =>
              rw [ei] at es
              cases es
              obtain ⟨vs, e1, rr⟩ := st.ob k _ ek
              have zt : Ez hd.length α H hd.length α (upd H (α k) (.lst (vs.set p v))) := Ez.touch e1
              exact set_list pins s σ H _ _ v ov iv u _ I ro ri rv ⟨_, vs, j, p, rfl, rfl, e1, by rw [rr.length]; exact ei, q _ (Ex.write hk fun o u z => by rw [e1] at z; cases z) (st.write (o := .lst (xs.set p t)) (u := .lst (vs.set p v)) hk ⟨_, upd_same, RDs.monoZ zt _ _ (rr.set p rt)⟩) zt (by rw [List.length_set])⟩
          | _ => cases es
      | _ => cases es
    | _ => cases es
  | some p =>
    obtain ⟨k, lk, kvs⟩ := p
    rw [ed] at es
    cases lk with
    | true => cases es
    | false =>
      dsimp only at es
      have ek : d = .ob k ∧ hd[k]? = some (.dct false kvs) := by
        cases d with
        | ob k2 =>
          unfold dctOf at ed
          dsimp only at ed
          cases e2 : hd[k2]? with
          | none => rw [e2] at ed; cases ed
          | some ob =>
            rw [e2] at ed
            cases ob <;> first | (cases ed; done) | skip
            cases ed
            exact ⟨rfl, e2⟩
        | _ => cases ed
      obtain ⟨rfl, ek⟩ := ek
      split at es
      · rename_i c
        rw [Bool.and_eq_true, decide_eq_true_eq] at c
        cases es
        unfold RD at rd
        obtain ⟨hk, rfl⟩ := rd
        obtain rfl : ov = .ref (α k) := ro
        refine dv_setItem I hK hw (show X.A.units + 64 < cLine by omega) st ek re ri c.1 c.2 rt rv fun H' s' I' x' st' ez => ⟨H', I', q H' x' st' ez (by rw [List.length_set])⟩
      · cases es
theorem ds_setIx {tpos : Pos} (ok : Ok G X W) (hns : notSlice a = true) (he : PE X e (tR G W fe)) (ho : PE X o (tR G W fo)) (hi : PE X a (tR G W fa)) (hc : swapsWithSole [.Subscript o a tpos] e pos.line X.env = pure false) (hw : swappedStores [.Subscript o a tpos] e X.env = pure none) :
    PS X (.Assign [.Subscript o a tpos] e pos) (tS G W fun σ h => thenF σ (vl (fe σ h)) fun p => thenF σ (vl (fo σ p.2)) fun q => thenF σ (vl (fa σ q.2)) fun r => setIxF σ q.1 r.1 p.1 r.2) :=
  (ps_asg (pe_vl he) (pg_sub (pe_vl ho) (pe_vl hi) (set_c ok.K ok.w ok.un) (fun v => assign_sub hns)) hc hw rfl).imp fun D σ H ⟨α, σD, hd, s, l, z⟩ => by
    refine tX_then (Rel := rD G) s l z fun x h1 α1 v H1 e x1 s1 l1 r1 z => ?_
    refine tX_then (Rel := rD G) s1 l1 z fun y h2 α2 u H2 e x2 s2 l2 r2 z => ?_
    refine tX_then (Rel := rD G) s2 l2 z fun w h3 α3 t H3 e x3 s3 l3 r3 z => ?_
    have r2' : RD G h3.length α3 H3 y u := RD.mono x3.toEy (fun i hi => s2.at_ hi) y u r2
    have r1' : RD G h3.length α3 H3 x v := RD.mono x3.toEy (fun i hi => s2.at_ hi) x v (RD.mono x2.toEy (fun i hi => s1.at_ hi) x v r1)
    dsimp only [setIxF] at z
    cases es : setIxC y w x h3 with
    | none => rw [es] at z; exact z.elim
    | some h4 =>
      rw [es] at z
      exact ⟨α3, h3, y, w, x, h4, s3, r2', r3, r1', es, fun H' x' s' ez hl => z α3 σ H' (by rw [hl]; exact x') s' (by rw [hl]; exact l3.monoZ ez)⟩
/-! ### methods -/
theorem few1 {env : Env} {cpos : Pos} (hs : isStar a = false) : ((backTo cpos (starEach (a :: []) env)).all (fun x => !x.1) && (backToKw cpos (keywordEach [] env)).all (fun x => x.1.isSome)
      && decide ((a :: ([] : List Expr)).length + ([] : List Keyword).length + (if ([] : List Keyword).isEmpty then 0 else 1) < 30)) = true := by
  rw [starEach_cons hs]; rfl
theorem lstOf_ty {α : Al} {H : Hp} {hd : Hd} {d : D} {xs : List D} {v : V} {K : PySem.W.Frag} (s : StR G α hd H) (r : RD G hd.length α H d v) (e : lstOf hd d = some xs) : tyV K "list" v H := by
  obtain ⟨k, vs, rfl, hk, _, rfl, e1, _⟩ := lstOf_rel s r e
  exact .inl ⟨rfl, vs, SqL.of e1⟩
theorem de_append (hs : isStar a = false) (hab : abOk o = true) (hline : (apos.endLine == pos.line) = true) (ho : PE X o (tR G W fo)) (ha : PE X a (tR G W fa)) :
    PE X (.Call (.Attribute o "append" apos) [a] [] pos) (tR G W fun σ h => vl (fo σ h) >>= fun p => rcv .append p.1 p.2 >>= fun _ => vl (fa σ p.2) >>= fun q => rv (m1D .append p.1 q.1 q.2)) :=
  (pe_bm (X := X) PySem.F.plainAttrs_list PySem.F.slot_list_append PySem.F.type_list_append mt_append (pe_vl ho) (pa_cons (pe_vl ha) pa_nil (starEach_cons hs)) (attributeBase_ok hab _) (few1 hs) hline (starEach_cons hs) rfl).imp fun σ H Q ⟨α, σD, hd, s, l, z⟩ => by
    refine tX_bind (Rel := rD G) s l z fun x h1 α1 v H1 e x1 s1 l1 r1 z => ?_
    dsimp only [rcv] at z
    cases el : lstOf h1 x with
    | none => rw [el] at z; exact z.elim
    | some xs =>
      rw [el] at z
      refine ⟨lstOf_ty s1 r1 el, ?_⟩
      have z' : Lnd G (rR G) (fun c d H1 => W c d σ H1) h1.length α1 H1 Q (vl (fa σD h1) >>= fun q => rv (m1D .append x q.1 q.2)) := z
      refine tX_bind (Rel := rD G) s1 l1 z' fun y h2 α2 u H2 e x2 s2 l2 r2 z => ?_
      have z := z.rv
      have r1' : RD G h2.length α2 H2 x v := RD.mono x2.toEy (fun i hi => s1.at_ hi) x v r1
      cases x with
      | ob k =>
        unfold RD at r1'
        obtain ⟨hk, rfl⟩ := r1'
        simp only [m1D] at z
        cases ek : h2[k]? with
        | none => rw [ek] at z; exact z.elim
        | some ob =>
          rw [ek] at z
          cases ob with
          | lst ys =>
            obtain ⟨c, z⟩ := if_no z
            obtain ⟨vs, e1, rr⟩ := s2.ob k _ ek
            refine ⟨_, vs, u, rfl, rfl, e1, by rw [rr.length, ← sizeL_eq]; exact c, ?_⟩
            have zt : Ez h2.length α2 H2 h2.length α2 (upd H2 (α2 k) (.lst (vs ++ [u]))) := Ez.touch e1
            have s4 := s2.write (o := .lst (ys ++ [y])) (u := .lst (vs ++ [u])) hk ⟨_, upd_same, (RDs.monoZ zt _ _ rr).append (.one (RD.monoZ zt _ _ r2))⟩
            refine z α2 .non _ ?_ s4 rNon
            rw [List.length_set]; exact Ex.write hk (fun o u z => by rw [e1] at z; cases z)
          | _ => exact z.elim
      | _ => cases el
theorem joinS_eq (sep : List Nat) : ∀ ys : List (List Nat), Txt.join ⟨sep.toArray⟩ (ys.map fun s => (⟨s.toArray⟩ : Str)) = ⟨(joinS sep ys).toArray⟩ := fun ys => by
  rw [TL.join_eq]
  induction ys with
  | nil => rfl
  | cons x r ih =>
    cases r with
    | nil => rfl
    | cons y r =>
      show (⟨x.toArray⟩ : Str) ++ ⟨sep.toArray⟩ ++ Str.join ⟨sep.toArray⟩ ((y :: r).map fun s => (⟨s.toArray⟩ : Str)) = _
      rw [ih, strApp, strApp]
      rfl
theorem de_join (ok : Ok G X W) (hs : isStar a = false) (hab : abOk o = true) (hline : (apos.endLine == pos.line) = true) (ho : PE X o (tR G W fo)) (ha : PE X a (tR G W fa)) :
    PE X (.Call (.Attribute o "join" apos) [a] [] pos) (tR G W fun σ h => vl (fo σ h) >>= fun p => rcv .join p.1 p.2 >>= fun _ => qs (fa σ p.2) >>= fun q => joinD p.1 q.1 >>= fun d => .ok (.v d, q.2)) :=
  (pe_join (X := X) (pe_vl ho) (pe_qs ha) (by rw [starEach_cons hs]; rfl) (attributeBase_ok hab _) hline).imp fun σ H Q ⟨α, σD, hd, s, l, z⟩ => by
    refine tX_bind (Rel := rD G) s l z fun x h1 α1 v H1 e x1 s1 l1 r1 z => ?_
    cases x with
    | str sep =>
      have r1' : v = .str ⟨sep.toArray⟩ := RDstr (show RD G _ _ _ (.str sep) v from r1)
      subst r1'
      refine ⟨⟨_, rfl⟩, ?_⟩
      have z : Lnd G (rR G) (fun c d H1 => W c d σ H1) h1.length α1 H1 Q (qs (fa σD h1) >>= fun q => joinD (.str sep) q.1 >>= fun d => .ok (.v d, q.2)) := z
      refine tX_bind (Rel := rQ G) s1 l1 z fun q h2 α2 u H2 e x2 s2 l2 r2 z => ?_
      cases q with
      | l id xs =>
        obtain ⟨p, vs, rfl, h1', r⟩ := rQ_list ok.K r2
        have z' : Lnd G (rR G) (fun c d H1 => W c d σ H1) h2.length α2 H2 Q ((match strL xs with
          | some ys => if (ys.map List.length).sum + ys.length * sep.length ≤ sizeL then R.ok (D.str (joinS sep ys)) else .no
          | none => .no) >>= fun d => R.ok (Rv.v d, h2)) := z
        cases es : strL xs with
        | none => rw [es] at z'; exact z'.elim
        | some ys =>
          rw [es] at z'
          by_cases c : (ys.map List.length).sum + ys.length * sep.length ≤ sizeL
          · have z2 : Lnd G (rR G) (fun c d H1 => W c d σ H1) h2.length α2 H2 Q ((if (ys.map List.length).sum + ys.length * sep.length ≤ sizeL then R.ok (D.str (joinS sep ys)) else .no) >>= fun d => R.ok (Rv.v d, h2)) := z'
            rw [if_pos c] at z2
            rw [strL_rel r es] at h1'
            refine ⟨⟨sep.toArray⟩, p, ys.map (fun s => (⟨s.toArray⟩ : Str)), rfl, rfl, .inl h1', ?_, ?_⟩
            · rw [List.map_map, List.length_map, strLen]
              have em : (ys.map ((fun x : Str => x.length) ∘ fun s => (⟨s.toArray⟩ : Str))) = ys.map List.length := List.map_congr_left fun s _ => strLen s
              show (ys.map ((fun x : Str => x.length) ∘ fun s => (⟨s.toArray⟩ : Str))).sum + _ ≤ _
              rw [em]; exact c
            · rw [joinS_eq]
              refine Lnd.ok (Rel := rR G) (b := Rv.v (.str (joinS sep ys))) z2 s2 ?_
              show RD _ _ _ _ _ _
              unfold RD; rfl
          · have z2 : Lnd G (rR G) (fun c d H1 => W c d σ H1) h2.length α2 H2 Q ((if (ys.map List.length).sum + ys.length * sep.length ≤ sizeL then R.ok (D.str (joinS sep ys)) else .no) >>= fun d => R.ok (Rv.v d, h2)) := z'
            rw [if_neg c] at z2; exact z2.elim
      | t xs => exact z.elim
      | s xs => exact z.elim
      | d k lk kvs => exact z.elim
    | _ => exact z.elim
end
end Mp
set_option maxHeartbeats 1000000
/-! MiniPy, part 12: pairs of stores, calls, raise, enumerate. -/
namespace Mp
open PySem PySem.Spec PyProof.Rows L2
/-- a def's promise by its run -/
def spF (G : Gx) (g : List D → Hd → R (D × Hd)) : Sp := fun vs H Q E => ∃ α hd ds, StR G α hd H ∧ RDs G hd.length α H ds vs ∧ Lnd G (rD G) (fun c d H1 => E c d H1) hd.length α H Q (g ds hd)
/-- a def of the module, as it is called in X -/
structure FnH (G : Gx) (C : Cl) (X : Cx) (x : Str) (f : Nat) : Prop where
  ex : ∃ k fd ps, FnOk X.prog X.w X.K X.mg X.base (L2.CX X.prog X.w) k (G.fa f) fd ps (spF G (C.call f)) ∧ Room k X.A ∧ Binds X.K fd ps []
  mg : X.mg x = some (.ref (G.fa f))
  kp : PySem.W.keepIn X.K (.ref (G.fa f)) = true
  nd : (x == ("__debug__" : Str)) = false
/-- an exception class of the module -/
structure ExcH (G : Gx) (X : Cx) (x : Str) (c : Nat) : Prop where
  mg : X.mg x = some (.ref (G.ca c))
  q : PySem.W.excIn X.K (G.ca c) He.veBase "ValueError.__new__" = true
  kp : PySem.W.keepIn X.K (.ref (G.ca c)) = true
  b : PySem.W.subIn X.K (.ref (G.ca c)) (.type "BaseException") = some true
  t : PySem.W.typeIn X.K (.ref (G.ca c)) = some (.type "type")
  nd : (x == ("__debug__" : Str)) = false
section
variable {G : Gx} {C : Cl} {X : Cx} {W : WX} {pos p p2 : Pos} {a b e : Expr} {es : List Expr} {fa fb fe : Sl → Hd → R (Rv × Hd)} {fs : Sl → Hd → R (List D × Hd)} {x : Str} {f : Nat}
theorem de_call {me : E} {mes : List E} (ok : Ok G X W) (F : FnH G C X x f) (gl : Gl X x) (hs : isStar e = false) (hss : es.all (fun e => !isStar e) = true) (ha : PA X (e :: es) (tEs G W fs)) :
    PE X (.Call (.Name x p) (e :: es) [] pos) (tR G W fun σ h => fs σ h >>= fun q => rv (callD C f (me :: mes) q.1 q.2)) := by
  obtain ⟨k, fd, ps, Fk, hr, hb⟩ := F.ex
  refine (pe_callS (E := WE W) Fk hr gl F.mg F.kp hb (fun σ => passAt ok.tk σ) ha F.nd (starEach_cons hs) (noPlain hss)).imp fun σ H Q ⟨α, σD, hd, s, l, z⟩ => ?_
  refine tX_bind (Rel := rDs G) s l z fun ds h1 α1 vs H1 e x1 s1 l1 r1 z => ?_
  exact ⟨α1, h1, ds, s1, r1, z.rv⟩
theorem de_call0 (F : FnH G C X x f) (gl : Gl X x) : PE X (.Call (.Name x p) [] [] pos) (tR G W fun σ h => (.ok ([], h) : R (List D × Hd)) >>= fun q => rv (callD C f [] q.1 q.2)) := by
  obtain ⟨k, fd, ps, Fk, hr, hb⟩ := F.ex
  refine (pe_call0 (E := E0) Fk hr gl F.mg F.kp hb .nil passL F.nd).imp fun σ H Q ⟨α, σD, hd, s, l, z⟩ => ?_
  have z' : Lnd G (rR G) (fun c d H1 => W c d σ H1) hd.length α H Q (rv (noex (C.call f [] hd))) := z
  refine ⟨α, hd, [], s, .nil, ?_⟩
  have z2 := z'.rv
  cases e : C.call f [] hd with
  | no => rw [e] at z2; exact z2.elim
  | ex c h => rw [e] at z2; exact z2.elim
  | ok q => rw [e] at z2; exact z2
theorem ds_raise {m : Str} {j : Nat} {c : Nat} {p3 : Pos} (ok : Ok G X W) (c' : ExcH G X x c) (gl : Gl X x) : PS X (.Raise (some (.Call (.Name x p) [.Constant (.str m) j p2] [] pos)) none p3) (tS G W fun σ h => .ex c σ h) :=
  (ps_raise ok.calm ok.tk (pmk_own PySem.F.excBase_ValueError c'.q c'.mg c'.kp (raises_own c'.b c'.t) gl c'.nd)).imp fun D σ H ⟨α, σD, hd, s, l, z⟩ => z α σ H Ex.refl s l
theorem de_gint {i : Int} (h : ∃ t, X.mg x = some (.int i t)) (gl : Gl X x) (hd : (x == ("__debug__" : Str)) = false) : PE X (.Name x pos) (tR G W fun _ h => .ok (.v (.int i), h)) := by
  obtain ⟨t, h⟩ := h
  exact de_tC (pe_glob (v := .int i) gl h ⟨t, rfl⟩ hd) fun _ _ _ => by unfold RD; rfl
theorem de_gstr {s : Str} (h : ∃ t, X.mg x = some (.str s t)) (gl : Gl X x) (hd : (x == ("__debug__" : Str)) = false) : PE X (.Name x pos) (tR G W fun _ h => .ok (.v (.str s.cps.toList), h)) := by
  obtain ⟨t, h⟩ := h
  exact de_tC (pe_glob (v := .str s) gl h ⟨t, rfl⟩ hd) fun _ _ _ => by unfold RD; simp
theorem ds_aug {i : Nat} (ok : Ok G X W) (nm : Nm X i x) (he : PE X e (tR G W fe)) : PS X (.AugAssign (.Name x p2) .Add e pos) (tS G W fun σ h => match getV σ i with
    | .ok d => thenF σ (vl (fe σ h)) (augF i .add σ d)
    | _ => .no) :=
  (ps_aug (i := i) ok.nd nm.at_ nm.loc (pe_vl he) ip_add nm.fn).imp fun D σ H ⟨α, σD, hd, s, l, z⟩ => by
    dsimp only at z
    cases eg : getV σD i with
    | no => rw [eg] at z; exact z.elim
    | ex c h => rw [eg] at z; exact z.elim
    | ok d =>
      rw [eg] at z
      have e1 : σD[i]? = some (some d) := by
        unfold getV at eg
        cases q : σD[i]? with
        | none => rw [q] at eg; cases eg
        | some o =>
          cases o with
          | none => rw [q] at eg; cases eg
          | some d' => rw [q] at eg; cases eg; rfl
      obtain ⟨v, hv, r⟩ := l.2 i d e1
      refine ⟨v, hv, tX_then (Rel := rD G) s l z fun y h1 α1 u H1 e x1 s1 l1 r1 z => ?_⟩
      cases d with
      | int m =>
        cases y with
        | int n =>
          obtain rfl := RDint r
          obtain rfl := RDint' r1
          refine ⟨m, n, rfl, rfl, ?_⟩
          have z' : LndS G W h1.length α1 H1 D (asgF (.nm i) σD (.int (m + n), h1)) := z
          dsimp only [asgF, asgT] at z'
          have c : i < σD.length := (List.getElem?_eq_some_iff.mp e1).1
          rw [if_pos c] at z'
          exact LndS.nx z' s1 (l1.set (by unfold RD; rfl))
        | _ => exact z.elim
      | _ => cases y <;> exact z.elim
/-! ### a, b = e1, e2 -/
/-- the stores are from the right -/
def swp2 (sc : Scope) (x y : Str) (l1 l2 : Nat) : Bool := (sc.names.lookup x == some .local) && (sc.names.lookup y == some .local) && (l2 == l1) && !(y == x)
theorem notStar1 {α : Type} {P : Bool → Prop} (h : P false) : P false := h
theorem names2 {env : Env} {px py : Pos} {y : Str} (k1 : env.kindOf x = some .local) (k3 : env.kindOf y = some .local) (h3 : py.line = px.line) {f : Expr → Option Str}
    (hf : ∀ id p, f (.Name id p) = if (env.kindOf id == some .local && p.line == px.line) = true then some id else none) : [Expr.Name x px, Expr.Name y py].filterMap f = [x, y] := by
  rw [List.filterMap_cons, hf, k1, List.filterMap_cons, hf, k3, h3]
  simp
theorem sw2 {env : Env} {px py pt pv : Pos} {k k2 : Nat} {y : Str} (hk : env.scope.kind = .function) (hsa : isStar a = false) (hsb : isStar b = false) (hs : swp2 env.scope x y px.line py.line = true)
    (hf : (foldedForSure 8 a && foldedForSure 8 b) = false) (hc : (constantsAlone 8 a && constantsAlone 8 b) = false) : swappedStores [.Tuple [.Name x px, .Name y py] k pt] (.Tuple [a, b] k2 pv) env = pure (some [x, y]) := by
  have e1 : env.blockKind = .function := by unfold Env.blockKind; rw [hk]; rfl
  unfold swp2 at hs
  simp only [Bool.and_eq_true, beq_iff_eq, Bool.not_eq_true', beq_eq_false_iff_ne] at hs
  obtain ⟨⟨⟨h1, h2⟩, h3⟩, h4⟩ := hs
  have k1 : env.kindOf x = some .local := h1
  have k3 : env.kindOf y = some .local := h2
  unfold swappedStores
  refine (if_neg ?_).trans ((if_neg ?_).trans ((if_neg ?_).trans ((if_neg ?_).trans ((if_neg ?_).trans ?_))))
  · rw [e1]; simp
  · intro h
    simp only [List.any_cons, List.any_nil, Bool.or_false, Bool.or_eq_true] at h
    rcases h with h | h
    · split at h
      · cases hsa
      · cases h
    · split at h
      · cases hsb
      · cases h
  · rw [names2 k1 k3 h3 (fun _ _ => rfl)]
    have ed : ([x, y] : List Str).eraseDups.length = 2 := by
      simp [List.eraseDups_cons, h4]
    rw [ed]
    simp
  · simp only [List.all_cons, List.all_nil, Bool.and_true, hf]; simp
  · simp only [List.all_cons, List.all_nil, Bool.and_true, hc]; simp
  · rw [names2 k1 k3 h3 (fun _ _ => rfl)]
theorem names3 {env : Env} {px py pz : Pos} {y w : Str} (k1 : env.kindOf x = some .local) (k3 : env.kindOf y = some .local) (k5 : env.kindOf w = some .local) (h3 : py.line = px.line) (h5 : pz.line = px.line) {f : Expr → Option Str}
    (hf : ∀ id p, f (.Name id p) = if (env.kindOf id == some .local && p.line == px.line) = true then some id else none) : [Expr.Name x px, Expr.Name y py, Expr.Name w pz].filterMap f = [x, y, w] := by
  rw [List.filterMap_cons, hf, k1, List.filterMap_cons, hf, k3, h3, List.filterMap_cons, hf, k5, h5]
  simp
def swp3 (sc : Scope) (x y w : Str) (l1 l2 l3 : Nat) : Bool := (sc.names.lookup x == some .local) && (sc.names.lookup y == some .local) && (sc.names.lookup w == some .local) && (l2 == l1) && (l3 == l1) && !(y == x) && !(w == x) && !(w == y)
theorem sw3 {c : Expr} {env : Env} {px py pz pt pv : Pos} {k k2 : Nat} {y w : Str} (hk : env.scope.kind = .function) (hsa : isStar a = false) (hsb : isStar b = false) (hsc : isStar c = false) (hs : swp3 env.scope x y w px.line py.line pz.line = true)
    (hf : (foldedForSure 8 a && (foldedForSure 8 b && foldedForSure 8 c)) = false) (hc : (constantsAlone 8 a && (constantsAlone 8 b && constantsAlone 8 c)) = false) : swappedStores [.Tuple [.Name x px, .Name y py, .Name w pz] k pt] (.Tuple [a, b, c] k2 pv) env = pure (some [x, y, w]) := by
  have e1 : env.blockKind = .function := by unfold Env.blockKind; rw [hk]; rfl
  unfold swp3 at hs
  simp only [Bool.and_eq_true, beq_iff_eq, Bool.not_eq_true', beq_eq_false_iff_ne] at hs
  obtain ⟨⟨⟨⟨⟨⟨⟨h1, h2⟩, h2'⟩, h3⟩, h3'⟩, h4⟩, h5⟩, h6⟩ := hs
  have k1 : env.kindOf x = some .local := h1
  have k3 : env.kindOf y = some .local := h2
  have k5 : env.kindOf w = some .local := h2'
  unfold swappedStores
  refine (if_neg ?_).trans ((if_neg ?_).trans ((if_neg ?_).trans ((if_neg ?_).trans ((if_neg ?_).trans ?_))))
  · rw [e1]; simp
  · intro h
    simp only [List.any_cons, List.any_nil, Bool.or_false, Bool.or_eq_true] at h
    rcases h with h | h | h
    · split at h
      · cases hsa
      · cases h
    · split at h
      · cases hsb
      · cases h
    · split at h
      · cases hsc
      · cases h
  · rw [names3 k1 k3 k5 h3 h3' (fun _ _ => rfl)]
    have ed : ([x, y, w] : List Str).eraseDups.length = 3 := by
      simp [List.eraseDups_cons, h4, h5, h6]
    rw [ed]
    simp
  · simp only [List.all_cons, List.all_nil, Bool.and_true, hf]; simp
  · simp only [List.all_cons, List.all_nil, Bool.and_true, hc]; simp
  · rw [names3 k1 k3 k5 h3 h3' (fun _ _ => rfl)]
theorem filterMap_len {α β : Type} {f : α → Option β} : ∀ {l : List α}, (l.filterMap f).length ≠ l.length → ∃ x, x ∈ l ∧ f x = none
  | [], h => absurd rfl h
  | a :: l, h => by
    rw [List.filterMap_cons] at h
    cases e : f a with
    | none => exact ⟨a, List.mem_cons_self, e⟩
    | some b =>
      rw [e] at h
      obtain ⟨x, hx, ex⟩ := filterMap_len (l := l) (f := f) (fun q => h (by simp [q]))
      exact ⟨x, List.mem_cons_of_mem _ hx, ex⟩
/-- written constants: the tuple is one constant, stored from the left -/
theorem sw_fold {env : Env} {ts vs : List Expr} {pt pv : Pos} {k k2 : Nat} (hf : vs.all (foldedForSure 8) = true) : swappedStores [.Tuple ts k pt] (.Tuple vs k2 pv) env = pure none := by
  unfold swappedStores
  show (if _ then _ else _) = _
  split
  · rfl
  · split
    · rfl
    · show (if _ then _ else _) = _
      split
      · rfl
      · first | rfl | rw [if_pos hf]
/-- a name that is no plain local -/
theorem sw_cell {env : Env} {ts vs : List Expr} {pt pv : Pos} {k k2 : Nat} {x : Str} {px : Pos} (hx : Expr.Name x px ∈ ts) (hc : env.scope.names.lookup x ≠ some .local) : swappedStores [.Tuple ts k pt] (.Tuple vs k2 pv) env = pure none := by
  unfold swappedStores
  show (if _ then _ else _) = _
  split
  · rfl
  · split
    · rfl
    · refine if_pos ?_
      have kx : (env.kindOf x == some .local) = false := by
        rw [beq_eq_false_iff_ne]; exact hc
      rw [Bool.or_eq_true]
      refine .inl ?_
      rw [bne_iff_ne]
      intro e
      have : ∀ {f : Expr → Option Str} {l : List Expr}, f (.Name x px) = none → Expr.Name x px ∈ l → (l.filterMap f).length < l.length := by
        intro f l hf
        induction l with
        | nil => intro h; cases h
        | cons a l ih =>
          intro h
          rw [List.filterMap_cons]
          rcases List.mem_cons.mp h with rfl | h
          · rw [hf]; exact Nat.lt_succ_of_le (List.length_filterMap_le f l)
          · have := ih h
            cases f a with
            | none => exact Nat.lt_succ_of_lt this
            | some b => exact Nat.succ_lt_succ this
      exact absurd e (Nat.ne_of_lt (this (by simp only [kx, Bool.false_and]; rfl) hx))
theorem sw_other {env : Env} {ts : List Expr} {pt : Pos} {k : Nat} (h : (match e with | .Tuple _ _ _ => true | _ => false) = false) : swappedStores [.Tuple ts k pt] e env = pure none := by
  cases e <;> first | rfl | (cases h; done)
theorem ds_par2 {i j : Nat} {y : Str} {px py pt pv : Pos} {k k2 : Nat} (ok : Ok G X W) (nx : Nm X i x) (ny : Nm X j y) (hx : X.env.scope.names.lookup x = some .local) (hy : X.env.scope.names.lookup y = some .local) (hij : i ≠ j) (ha : PA X [a, b] (tEs G W fs))
    (hw : swappedStores [.Tuple [.Name x px, .Name y py] k pt] (.Tuple [a, b] k2 pv) X.env = pure (some [x, y])) : PS X (.Assign [.Tuple [.Name x px, .Name y py] k pt] (.Tuple [a, b] k2 pv) pos) (tS G W fun σ h => thenF σ (fs σ h) (parF [i, j] σ)) :=
  (ps_par ok.calm ok.nd nx.at_ ny.at_ hij hx hy ha hw rfl).imp fun D σ H ⟨α, σD, hd, s, l, z⟩ => tX_then (Rel := rDs G) s l z fun ds h1 α1 vs H1 e x1 s1 l1 r1 z => by
    dsimp only [parF] at z
    cases ea : asgTs ([i, j].map .nm) ds σD with
    | none => rw [ea] at z; exact z.elim
    | some σ' =>
      rw [ea] at z
      match ds, r1, ea with
      | [d1, d2], r1, ea =>
        have r1' : RDs G h1.length α1 H1 [d1, d2] vs := r1
        unfold RDs at r1'
        obtain ⟨v1, ws, rfl, q1, r2⟩ := r1'
        unfold RDs at r2
        obtain ⟨v2, ws, rfl, q2, r3⟩ := r2
        unfold RDs at r3
        subst r3
        refine ⟨v1, v2, rfl, ?_⟩
        simp only [List.map_cons, List.map_nil, asgTs, asgT] at ea
        by_cases c1 : i < σD.length
        · rw [if_pos c1] at ea
          by_cases c2 : j < σD.length
          · simp only [Option.bind_some, List.length_set, c2, if_true] at ea
            cases ea
            exact LndS.nx z s1 ((l1.set q1).set q2)
          · simp [c2] at ea
        · rw [if_neg c1] at ea; cases ea
      | [], r1, ea => simp [asgTs] at ea
      | [d], r1, ea => 
        exfalso
        simp only [List.map_cons, List.map_nil, asgTs] at ea
        revert ea
        cases asgT (.nm i) d σD <;> (intro ea; cases ea)
      | d1 :: d2 :: d3 :: r, r1, ea =>
        exfalso
        simp only [List.map_cons, List.map_nil, asgTs] at ea
        revert ea
        cases asgT (.nm i) d1 σD with
        | none => intro ea; cases ea
        | some σ1 =>
          simp only [Option.bind_some]
          cases asgT (.nm j) d2 σ1 <;> (intro ea; cases ea)
theorem ds_parN {ts : List Expr} {is : List Nat} {pt pv : Pos} {k k2 : Nat} (ok : Ok G X W) (tg : TgL X ts (is.map .nm)) (hlen : is.length ≤ sizeL) (ha : PA X es (tEs G W fs)) (hw : swappedStores [.Tuple ts k pt] (.Tuple es k2 pv) X.env = pure none) :
    PS X (.Assign [.Tuple ts k pt] (.Tuple es k2 pv) pos) (tS G W fun σ h => thenF σ (fs σ h) (parF is σ)) :=
  (ps_asg (pe_tup ha) (dg ok.K ok.calm ok.nd (.tp tg)) (by unfold swapsWithSole; exact swaps_of rfl) hw rfl).imp fun D σ H ⟨α, σD, hd, s, l, z⟩ => tX_then (Rel := rDs G) s l z fun ds h1 α1 vs H1 e x1 s1 l1 r1 z => by
    dsimp only [parF] at z
    cases ea : asgTs (is.map .nm) ds σD with
    | none => rw [ea] at z; exact z.elim
    | some σ' =>
      rw [ea] at z
      have hl := asgTs_len (X := X) (G := G) ea
      have r1' : RDs G h1.length α1 H1 ds vs := r1
      refine ⟨by rw [r1'.length, hl, List.length_map, ← sizeL_eq]; exact hlen, fun q hq => ?_⟩
      have x2 : Ex h1.length α1 H1 h1.length α1 (upd H1 q (.tup vs)) := Ex.other hq
      refine ⟨α1, h1, σD, .tup ds, σ', s1.other hq, l1.mono x2.toEy (fun i hi => s1.at_ hi), ?_, ea, fun σ2 l2 _ => z α1 σ2 _ x2 (s1.other hq) l2⟩
      unfold RD
      exact ⟨q, vs, rfl, SqT.of upd_same, RDs.mono x2.toEy (fun i hi => s1.at_ hi) ds vs r1'⟩
/-! ### enumerate -/
theorem enumD_get : ∀ (xs : List Mp.D) (n i : Nat), (enumD n xs)[i]? = (xs[i]?).map fun x => .tup [.int ((n + i : Nat) : Int), x]
  | [], n, i => by simp [enumD]
  | x :: xs, n, 0 => by simp [enumD]
  | x :: xs, n, i + 1 => by
    show (enumD (n + 1) xs)[i]? = _
    rw [enumD_get xs (n + 1) i]
    have : n + 1 + i = n + (i + 1) := by omega
    rw [this]
    rfl
theorem enumD_len : ∀ (xs : List Mp.D) (n : Nat), (enumD n xs).length = xs.length
  | [], n => rfl
  | x :: xs, n => by show (enumD (n + 1) xs).length + 1 = _; rw [enumD_len xs]; rfl
theorem rdy_enum {α : Al} {hd : Hd} {H : Hp} {a : Addr} {xs : List Mp.D} {vs : List V} (st : StR G α hd H) (h : SqL G.K H a vs) (r : RDs G hd.length α H xs vs) : Rdy G (Ite G.K a) (enumD 0 xs) α hd H := fun i => by
  rw [enumD_len]
  refine ⟨fun hi => ?_, fun hi => ⟨vs, h, by rw [r.length]; exact hi⟩⟩
  have ex : xs[i]? = some xs[i] := List.getElem?_eq_getElem hi
  obtain ⟨v, ev, rv⟩ := r.get ex
  refine ⟨⟨vs, v, h, ev⟩, fun w H' ⟨T, x, ew, hT, eH, y⟩ => ?_⟩
  subst ew; subst eH
  have := y vs h
  rw [ev] at this
  cases this
  refine ⟨.tup [.int ((0 + i : Nat) : Int), xs[i]], by rw [enumD_get, ex]; rfl, ?_, Ex.other hT, st.other hT⟩
  rw [Nat.zero_add]
  unfold RD
  exact ⟨T, _, rfl, SqT.of upd_same, .cons (by unfold RD; rfl) (.one (RD.mono (Ex.other hT).toEy (fun i hi => st.at_ hi) _ _ rv))⟩
end
end Mp
set_option maxHeartbeats 1000000
/-! MiniPy, part 24: methods of lists and texts. -/
namespace Mp
open PySem PySem.Spec PyProof.Rows L2
section
variable {G : Gx} {X : Cx} {W : WX} {pos p apos : Pos} {a b o e : Expr} {fa fb fo : Sl → Hd → R (Rv × Hd)}
/-- the receiver is a list -/
def onL (k : Nat → Hd → R (Rv × Hd)) (p : D × Hd) : R (Rv × Hd) := match p.1 with
  | .ob i => if (lstOf p.2 (.ob i)).isSome then k i p.2 else .no
  | _ => .no
/-- the receiver is a text -/
def onS (k : List Nat → Hd → R (Rv × Hd)) (p : D × Hd) : R (Rv × Hd) := match p.1 with
  | .str s => k s p.2
  | _ => .no
theorem tR_or {f : Sl → Hd → R (D × Hd)} {k k1 k2 : Sl → D × Hd → R (Rv × Hd)} (hk : ∀ σ p, k σ p = k1 σ p ∨ k σ p = k2 σ p) {σ : L2.St} {H : Hp} {Q : VK} (h : tR G W (fun σ h => f σ h >>= k σ) σ H Q) : tR G W (fun σ h => f σ h >>= k1 σ) σ H Q ∨ tR G W (fun σ h => f σ h >>= k2 σ) σ H Q := by
  obtain ⟨α, σD, hd, s, l, z⟩ := h
  cases e : f σD hd with
  | no => exact .inl ⟨α, σD, hd, s, l, by dsimp only at z ⊢; rw [e] at z ⊢; exact z⟩
  | ex c h1 => exact .inl ⟨α, σD, hd, s, l, by dsimp only at z ⊢; rw [e] at z ⊢; exact z⟩
  | ok p =>
    dsimp only at z
    rw [e, R.ok_bind] at z
    rcases hk σD p with q | q
    · exact .inl ⟨α, σD, hd, s, l, by dsimp only; rw [e, R.ok_bind, ← q]; exact z⟩
    · exact .inr ⟨α, σD, hd, s, l, by dsimp only; rw [e, R.ok_bind, ← q]; exact z⟩
theorem _root_.L2.PE.two {X : Cx} {e : Expr} {t1 t2 t : TE} (h1 : PE X e t1) (h2 : PE X e t2) (hi : ∀ σ H Q, t σ H Q → t1 σ H Q ∨ t2 σ H Q) : PE X e t := ⟨fun pins s σ H Q I q => (hi σ H Q q).elim (h1.run pins s σ H Q I) (h2.run pins s σ H Q I)⟩
theorem lst_of {α : Al} {H : Hp} {hd : Hd} {i : Nat} {v : V} (s : StR G α hd H) (r : RD G hd.length α H (.ob i) v) (e : (lstOf hd (.ob i)).isSome = true) : ∃ xs vs, lstOf hd (.ob i) = some xs ∧ hd[i]? = some (.lst xs) ∧ i < hd.length ∧ v = .ref (α i) ∧ H (α i) = some (.lst vs) ∧ RDs G hd.length α H xs vs := by
  obtain ⟨xs, e⟩ := Option.isSome_iff_exists.mp e
  obtain ⟨k, vs, e1, hk, e2, e3, e4, e5⟩ := lstOf_rel s r e
  cases e1
  exact ⟨xs, vs, e, e2, hk, e3, e4, e5⟩
/-- a method of a list with one argument -/
theorem lm1_of {m : M1} {r : V → List V → Hp → VK → Prop}
    (rule : ∀ (W : Value → Option Addr → Hp → Prop) (α : Al) (hd : Hd) (H : Hp) (i : Nat) (y : D) (u : V) (Q : VK), StR G α hd H → i < hd.length → RD G hd.length α H y u → Lnd G (rD G) W hd.length α H Q (m1D m (.ob i) y hd) → r (.ref (α i)) [u] H Q)
    {σ : L2.St} {H : Hp} {Q : VK} (h : tR G W (fun σ h => vl (fo σ h) >>= onL fun i h => vl (fa σ h) >>= fun q => rv (m1D m (.ob i) q.1 q.2)) σ H Q) : tBM X.K "list" r (tE G W fun σ h => vl (fo σ h)) (tCons (tE G W fun σ h => vl (fa σ h)) tNil) σ H Q := by
    obtain ⟨α, σD, hd, s, l, z⟩ := h
    refine tX_bind (Rel := rD G) s l z fun x h1 α1 v H1 e x1 s1 l1 r1 z => ?_
    cases x with
    | ob i =>
      dsimp only [onL] at z
      by_cases c : (lstOf h1 (.ob i)).isSome = true
      · rw [if_pos c] at z
        obtain ⟨xs, vs, el, _, hi, rfl, _, _⟩ := lst_of s1 (show RD G _ _ _ (.ob i) v from r1) c
        refine ⟨lstOf_ty s1 r1 el, ?_⟩
        refine tX_bind (Rel := rD G) s1 l1 z fun y h2 α2 u H2 e x2 s2 l2 r2 z => ?_
        have z := z.rv
        have hi2 : i < h2.length := Nat.lt_of_lt_of_le hi x2.le
        rw [← x2.al i hi]
        exact rule _ α2 h2 H2 i y u Q s2 hi2 r2 z
      · rw [if_neg c] at z; exact z.elim
    | _ => exact z.elim
theorem de_lm1 {m : M1} {name : Str} {id : String} {r : V → List V → Hp → VK → Prop} (slot : Slot "list" name id) (hty : typeOf (.builtin id) = pure (.type "method_descriptor")) (mt : MtR X id r)
    (rule : ∀ (W : Value → Option Addr → Hp → Prop) (α : Al) (hd : Hd) (H : Hp) (i : Nat) (y : D) (u : V) (Q : VK), StR G α hd H → i < hd.length → RD G hd.length α H y u → Lnd G (rD G) W hd.length α H Q (m1D m (.ob i) y hd) → r (.ref (α i)) [u] H Q)
    (hs : isStar a = false) (hab : abOk o = true) (hline : (apos.endLine == pos.line) = true) (ho : PE X o (tR G W fo)) (ha : PE X a (tR G W fa)) :
    PE X (.Call (.Attribute o name apos) [a] [] pos) (tR G W fun σ h => vl (fo σ h) >>= onL fun i h => vl (fa σ h) >>= fun q => rv (m1D m (.ob i) q.1 q.2)) :=
  (pe_bm (X := X) PySem.F.plainAttrs_list slot hty mt (pe_vl ho) (pa_cons (pe_vl ha) pa_nil (starEach_cons hs)) (attributeBase_ok hab _) (few1 hs) hline (starEach_cons hs) rfl).imp fun σ H Q h => lm1_of rule h
/-- a method of a list without arguments -/
theorem de_lm0 {m : M0} {name : Str} {id : String} {r : V → List V → Hp → VK → Prop} (slot : Slot "list" name id) (hty : typeOf (.builtin id) = pure (.type "method_descriptor")) (mt : MtR X id r)
    (rule : ∀ (W : Value → Option Addr → Hp → Prop) (α : Al) (hd : Hd) (H : Hp) (i : Nat) (Q : VK), StR G α hd H → i < hd.length → Lnd G (rD G) W hd.length α H Q (m0D m (.ob i) hd) → r (.ref (α i)) [] H Q)
    (hab : abOk o = true) (hline : (apos.endLine == pos.line) = true) (ho : PE X o (tR G W fo)) :
    PE X (.Call (.Attribute o name apos) [] [] pos) (tR G W fun σ h => vl (fo σ h) >>= onL fun i h => rv (m0D m (.ob i) h)) :=
  (pe_bm0 (X := X) PySem.F.plainAttrs_list slot hty mt (pe_vl ho) (attributeBase_ok hab _) hline).imp fun σ H Q ⟨α, σD, hd, s, l, z⟩ => by
    refine tX_bind (Rel := rD G) s l z fun x h1 α1 v H1 e x1 s1 l1 r1 z => ?_
    cases x with
    | ob i =>
      dsimp only [onL] at z
      by_cases c : (lstOf h1 (.ob i)).isSome = true
      · rw [if_pos c] at z
        obtain ⟨xs, vs, el, _, hi, rfl, _, _⟩ := lst_of s1 (show RD G _ _ _ (.ob i) v from r1) c
        exact ⟨lstOf_ty s1 r1 el, rule _ α1 h1 H1 i Q s1 hi z.rv⟩
      · rw [if_neg c] at z; exact z.elim
    | _ => exact z.elim
/-! ### the lists' methods -/
theorem atL {α : Al} {H : Hp} {hd : Hd} {i : Nat} (s : StR G α hd H) {xs : List D} (e : hd[i]? = some (.lst xs)) : ∃ vs, H (α i) = some (.lst vs) ∧ RDs G hd.length α H xs vs := s.ob i _ e
theorem wrL {α : Al} {H : Hp} {hd : Hd} {i : Nat} (s : StR G α hd H) (hi : i < hd.length) {vs ws : List V} {ys : List D} (e : H (α i) = some (.lst vs)) (r : RDs G hd.length α H ys ws) : Ex hd.length α H (hd.set i (.lst ys)).length α (upd H (α i) (.lst ws)) ∧ StR G α (hd.set i (.lst ys)) (upd H (α i) (.lst ws)) ∧ Ez hd.length α H hd.length α (upd H (α i) (.lst ws)) := by
  have zt : Ez hd.length α H hd.length α (upd H (α i) (.lst ws)) := Ez.touch e
  refine ⟨?_, s.write (o := .lst ys) (u := .lst ws) hi ⟨_, upd_same, RDs.monoZ zt _ _ r⟩, zt⟩
  rw [List.length_set]
  exact Ex.write hi fun o u z => by rw [e] at z; cases z
theorem m1L {W : Value → Option Addr → Hp → Prop} {α : Al} {H : Hp} {hd : Hd} {Q : VK} {i : Nat} {f : List D → R (D × Hd)} (z : Lnd G (rD G) W hd.length α H Q (match hd[i]? with
    | some (.lst xs) => f xs
    | _ => .no)) : ∃ xs, hd[i]? = some (.lst xs) ∧ Lnd G (rD G) W hd.length α H Q (f xs) := by
  split at z
  · rename_i xs e; exact ⟨xs, e, z⟩
  · exact z.elim
theorem ru_append (W : Value → Option Addr → Hp → Prop) (α : Al) (hd : Hd) (H : Hp) (i : Nat) (y : D) (u : V) (Q : VK) (s : StR G α hd H) (hi : i < hd.length) (r : RD G hd.length α H y u) (z : Lnd G (rD G) W hd.length α H Q (m1D .append (.ob i) y hd)) : rAppend (.ref (α i)) [u] H Q := by
  obtain ⟨xs, e, z⟩ := m1L z
  obtain ⟨c, z⟩ := if_no z
  obtain ⟨vs, e1, rr⟩ := atL s e
  refine ⟨_, vs, u, rfl, rfl, e1, by rw [rr.length, ← sizeL_eq]; exact c, ?_⟩
  obtain ⟨x, s4, _⟩ := wrL s hi e1 (rr.append (.one r))
  exact z α .non _ x s4 rNon
theorem ru_pop (W : Value → Option Addr → Hp → Prop) (α : Al) (hd : Hd) (H : Hp) (i : Nat) (Q : VK) (s : StR G α hd H) (hi : i < hd.length) (z : Lnd G (rD G) W hd.length α H Q (m0D .pop (.ob i) hd)) : rPop (.ref (α i)) [] H Q := by
  obtain ⟨xs, e, z⟩ := m1L z
  obtain ⟨vs, e1, rr⟩ := atL s e
  cases ey : xs[xs.length - 1]? with
  | none => rw [ey] at z; exact z.elim
  | some y =>
    rw [ey] at z
    obtain ⟨w, ew, rw'⟩ := rr.get ey
    refine ⟨_, vs, w, rfl, rfl, e1, by rw [rr.length]; exact ew, ?_⟩
    obtain ⟨x, s4, zt⟩ := wrL s hi e1 rr.dropLast
    exact z α w _ x s4 (by show RD G _ _ _ y w; rw [List.length_set]; exact RD.monoZ zt _ _ rw')
theorem ru_pop0 (W : Value → Option Addr → Hp → Prop) (α : Al) (hd : Hd) (H : Hp) (i : Nat) (y : D) (u : V) (Q : VK) (s : StR G α hd H) (hi : i < hd.length) (r : RD G hd.length α H y u) (z : Lnd G (rD G) W hd.length α H Q (m1D .pop (.ob i) y hd)) : rPopAt (.ref (α i)) [u] H Q := by
  have key : ∃ x xs, hd[i]? = some (.lst (x :: xs)) ∧ y = .int 0 ∧ Lnd G (rD G) W hd.length α H Q (.ok (x, hd.set i (.lst xs))) := by
    simp only [m1D] at z
    split at z
    · exact ⟨_, _, by assumption, rfl, z⟩
    · exact z.elim
  obtain ⟨x, xs, e, ey, z2⟩ := key
  subst ey
  obtain ⟨vs, e1, rr⟩ := atL s e
  obtain rfl := RDint r
  unfold RDs at rr
  obtain ⟨w, ws, rfl, r1, r2⟩ := rr
  refine ⟨_, w :: ws, 0, 0, w, rfl, rfl, e1, by decide, by decide, by simp [seqIndex?], rfl, ?_⟩
  obtain ⟨x', s4, zt⟩ := wrL s hi e1 r2
  exact z2 α w _ x' s4 (by show RD G _ _ _ x w; rw [List.length_set]; exact RD.monoZ zt _ _ r1)
/-! index, count: by deep data -/
theorem dp_list {α : Al} {H : Hp} {hd : Hd} {i : Nat} {xs : List D} {ps : List PyData} (s : StR G α hd H) (hi : i < hd.length) (e : hd[i]? = some (.lst xs)) (ep : xs.mapM (toP hd 39) = some ps) : Dp G.K H (.ref (α i)) (.list ps) ∧ SeqAt.shaped (.list ps) = true := by
  have t := toP_ob e ep
  obtain ⟨d1, c1, dp1⟩ := toP_rel s 40 (.ob i) (.ref (α i)) (.list ps) (by unfold RD; exact ⟨hi, rfl⟩) t
  exact ⟨d1, shaped_of c1 dp1⟩
theorem ru_index (hK : X.K = G.K) (W : Value → Option Addr → Hp → Prop) (α : Al) (hd : Hd) (H : Hp) (i : Nat) (y : D) (u : V) (Q : VK) (s : StR G α hd H) (hi : i < hd.length) (r : RD G hd.length α H y u) (z : Lnd G (rD G) W hd.length α H Q (m1D .index (.ob i) y hd)) : rIndexD X.K (.ref (α i)) [u] H Q := by
  obtain ⟨xs, e, z⟩ := m1L z
  cases ey : toP hd 40 y with
  | none => rw [ey] at z; exact z.elim
  | some d =>
    cases ep : xs.mapM (toP hd 39) with
    | none => rw [ey, ep] at z; exact z.elim
    | some ps =>
      rw [ey, ep] at z
      dsimp only at z
      obtain ⟨d1, s1⟩ := dp_list s hi e ep
      obtain ⟨d2, c2, dp2⟩ := toP_rel s 40 y u d r ey
      cases ef : ps.findIdx? (fun z => PyData.eqv z d) with
      | none => rw [ef] at z; exact z.elim
      | some j =>
        rw [ef] at z
        obtain ⟨hj, h1, h2⟩ := List.findIdx?_eq_some_iff_getElem.mp ef
        exact ⟨α i, u, d, ps, j, ps[j], rfl, rfl, hK ▸ d1, hK ▸ d2, s1, shaped_of c2 dp2, List.getElem?_eq_getElem hj, h1, fun m z' hm hz => by
          obtain ⟨hm2, rfl⟩ := List.getElem?_eq_some_iff.mp hz
          simpa using h2 m hm, Lnd.ok (Rel := rD G) (b := D.int (j : Nat)) z s dInt⟩
def rCountD (K : PySem.W.Frag) : V → List V → Hp → VK → Prop := fun x xs H Q => ∃ (a : Addr) (y : V) (d : PyData) (ds : List PyData), x = V.ref a ∧ xs = [y] ∧ Dp K H (V.ref a) (.list ds) ∧ Dp K H y d ∧
  SeqAt.shaped (.list ds) = true ∧ SeqAt.shaped d = true ∧ Q (.int (ds.countP fun z => PyData.eqv z d : Nat)) H
theorem mt_countD (hu : X.A.units + 65 < cLine) : MtR X "list.count" (rCountD X.K) := by
  intro pins s σ H x xs v us Q I rx rxs h
  obtain ⟨a, y, d, ds, rfl, rfl, hl, hy, sl, sd, q⟩ := h
  cases rx
  obtain ⟨uy, rfl, ry⟩ := rxs.one
  obtain ⟨bs, r1⟩ := Dp.reads I d y uy hy ry
  have lay : PyData.canLayAll0 ds = true := SeqAt.canLay_of_shaped sl
  have room : X.A.units + 1 + min (PyData.depthAll ds) d.depth < cLine := room_in_shaped sd hu
  cases hl with
  | lst hs ha =>
    obtain ⟨its, rv, ⟨⟨cls, dd, data, sls⟩, n, ho, hc, hdn, hdt⟩, hlen⟩ := I.list hs
    simp only at hc hdt
    subst hc hdt
    obtain ⟨as, h4⟩ := Dp.readsAll I ds _ its ha rv
    have em := SeqAt.readsAll_map ds its as lay h4
    refine call_meets PySem.F.slot_list_count ⟨_, ho, rfl⟩ PySem.F.entry_list_count (PySem.F.args_list_count_2 _ _)
      (SeqAt.list_countAt a its.toArray n dd sls uy (fun u => PyData.eqv (SeqAt.readOf s.heap u) d)) ⟨ho, SeqAt.items_eqAt (vs := its.toArray) (show ReadsAll s.heap its.toArray.toList ds as from h4) r1 lay (SeqAt.canLay_of_shaped sd) room, ?_⟩
    refine ⟨.int (ds.countP fun z => PyData.eqv z d : Nat), H, I.tok _, ⟨s.toks, ?_⟩, q⟩
    show Value.int (((its.toArray.toList.countP fun u => PyData.eqv (SeqAt.readOf s.heap u) d) : Nat) : Int) s.toks = Value.int _ s.toks
    rw [← em, List.countP_map]
    rfl
theorem ru_count (hK : X.K = G.K) (W : Value → Option Addr → Hp → Prop) (α : Al) (hd : Hd) (H : Hp) (i : Nat) (y : D) (u : V) (Q : VK) (s : StR G α hd H) (hi : i < hd.length) (r : RD G hd.length α H y u) (z : Lnd G (rD G) W hd.length α H Q (m1D .count (.ob i) y hd)) : rCountD X.K (.ref (α i)) [u] H Q := by
  obtain ⟨xs, e, z⟩ := m1L z
  cases ey : toP hd 40 y with
  | none => rw [ey] at z; exact z.elim
  | some d =>
    cases ep : xs.mapM (toP hd 39) with
    | none => rw [ey, ep] at z; exact z.elim
    | some ps =>
      rw [ey, ep] at z
      dsimp only at z
      obtain ⟨d1, s1⟩ := dp_list s hi e ep
      obtain ⟨d2, c2, dp2⟩ := toP_rel s 40 y u d r ey
      exact ⟨α i, u, d, ps, rfl, rfl, hK ▸ d1, hK ▸ d2, s1, shaped_of c2 dp2, Lnd.ok (Rel := rD G) (b := D.int ((ps.countP fun z => PyData.eqv z d) : Nat)) z s dInt⟩
theorem ru_extend (W : Value → Option Addr → Hp → Prop) (α : Al) (hd : Hd) (H : Hp) (i : Nat) (q : Sq) (u : V) (Q : VK) (s : StR G α hd H) (hi : i < hd.length) (r : rQ G H hd.length α H q u) (z : Lnd G (rD G) W hd.length α H Q (extD (.ob i) q hd)) : rExtend (.ref (α i)) [u] H Q := by
  cases q with
  | l id ys =>
    cases id with
    | some k => exact z.elim
    | none =>
      obtain ⟨xs, e, z⟩ := m1L z
      obtain ⟨c, z⟩ := if_no z
      obtain ⟨vs, e1, rr⟩ := atL s e
      obtain ⟨b, ws, rfl, e2, r2, nb⟩ := r
      refine ⟨_, b, vs, ws, rfl, rfl, e1, e2, by rw [rr.length, r2.length, ← sizeL_eq]; exact c, ?_⟩
      obtain ⟨x, s4, _⟩ := wrL s hi e1 (rr.append r2)
      exact z α .non _ x s4 rNon
  | t xs => exact z.elim
  | s xs => exact z.elim
  | d k lk kvs => exact z.elim
theorem de_extend (hs : isStar a = false) (hab : abOk o = true) (hline : (apos.endLine == pos.line) = true) (ho : PE X o (tR G W fo)) (ha : PE X a (tR G W fa)) :
    PE X (.Call (.Attribute o "extend" apos) [a] [] pos) (tR G W fun σ h => vl (fo σ h) >>= fun p => rcv .extend p.1 p.2 >>= fun _ => qs (fa σ p.2) >>= fun q => rv (extD p.1 q.1 q.2)) :=
  (pe_bm (X := X) PySem.F.plainAttrs_list PySem.F.slot_list_extend PySem.F.type_list_extend mt_extend (pe_vl ho) (pa_cons (pe_qs ha) pa_nil (starEach_cons hs)) (attributeBase_ok hab _) (few1 hs) hline (starEach_cons hs) rfl).imp fun σ H Q ⟨α, σD, hd, s, l, z⟩ => by
    refine tX_bind (Rel := rD G) s l z fun x h1 α1 v H1 e x1 s1 l1 r1 z => ?_
    cases x with
    | ob i =>
      dsimp only [rcv] at z
      by_cases c : (lstOf h1 (.ob i)).isSome = true
      · rw [if_pos c] at z
        obtain ⟨xs, vs, el, _, hi, rfl, _, _⟩ := lst_of s1 (show RD G _ _ _ (.ob i) v from r1) c
        refine ⟨lstOf_ty s1 r1 el, ?_⟩
        have z' : Lnd G (rR G) (fun c d H1 => W c d σ H1) h1.length α1 H1 Q (qs (fa σD h1) >>= fun q => rv (extD (.ob i) q.1 q.2)) := z
        refine tX_bind (Rel := rQ G) s1 l1 z' fun q h2 α2 u H2 e x2 s2 l2 r2 z => ?_
        have hi2 : i < h2.length := Nat.lt_of_lt_of_le hi x2.le
        rw [← x2.al i hi]
        exact ru_extend _ α2 h2 H2 i q u Q s2 hi2 r2 z.rv
      · rw [if_neg c] at z; exact z.elim
    | _ => exact z.elim
/-! ### texts' methods -/
/-- a method of a text with one argument -/
theorem de_sm1 {m : M1} {name : Str} {id : String} {r : V → List V → Hp → VK → Prop} (slot : Slot "str" name id) (hty : typeOf (.builtin id) = pure (.type "method_descriptor")) (mt : MtR X id r)
    (rule : ∀ (W : Value → Option Addr → Hp → Prop) (α : Al) (hd : Hd) (H : Hp) (t : List Nat) (y : D) (u : V) (Q : VK), StR G α hd H → RD G hd.length α H y u → Lnd G (rD G) W hd.length α H Q (m1D m (.str t) y hd) → r (.str ⟨t.toArray⟩) [u] H Q)
    (hs : isStar a = false) (hab : abOk o = true) (hline : (apos.endLine == pos.line) = true) (ho : PE X o (tR G W fo)) (ha : PE X a (tR G W fa)) :
    PE X (.Call (.Attribute o name apos) [a] [] pos) (tR G W fun σ h => vl (fo σ h) >>= onS fun t h => vl (fa σ h) >>= fun q => rv (m1D m (.str t) q.1 q.2)) :=
  (pe_m1 (X := X) slot hty mt (pe_vl ho) (pe_vl ha) (by rw [starEach_cons hs]; rfl) (attributeBase_ok hab _) hline).imp fun σ H Q ⟨α, σD, hd, s, l, z⟩ => by
    refine tX_bind (Rel := rD G) s l z fun x h1 α1 v H1 e x1 s1 l1 r1 z => ?_
    cases x with
    | str t =>
      have r1' : v = .str ⟨t.toArray⟩ := RDstr (show RD G _ _ _ (.str t) v from r1)
      subst r1'
      refine ⟨⟨_, rfl⟩, ?_⟩
      refine tX_bind (Rel := rD G) s1 l1 z fun y h2 α2 u H2 e x2 s2 l2 r2 z => ?_
      exact rule _ α2 h2 H2 t y u Q s2 r2 z.rv
    | _ => exact z.elim
theorem ru_sindex (W : Value → Option Addr → Hp → Prop) (α : Al) (hd : Hd) (H : Hp) (t : List Nat) (y : D) (u : V) (Q : VK) (s : StR G α hd H) (r : RD G hd.length α H y u) (z : Lnd G (rD G) W hd.length α H Q (m1D .index (.str t) y hd)) :
    (fun x xs H Q => ∃ a b i rest, x = V.str a ∧ xs = [V.str b] ∧ Builtin.Str.occurrences a b 0 a.length 1 = i :: rest ∧ Q (.int (i : Nat)) H : V → List V → Hp → VK → Prop) (.str ⟨t.toArray⟩) [u] H Q := by
  cases y with
  | str b =>
    obtain rfl := RDstr r
    have z' : Lnd G (rD G) W hd.length α H Q (match PySem.Builtin.Str.occurrences ⟨t.toArray⟩ ⟨b.toArray⟩ 0 t.length 1 with
      | i :: _ => R.ok (Mp.D.int (i : Nat), hd)
      | [] => .no) := z
    cases eo : PySem.Builtin.Str.occurrences ⟨t.toArray⟩ ⟨b.toArray⟩ 0 t.length 1 with
    | nil => rw [eo] at z'; exact z'.elim
    | cons i r =>
      rw [eo] at z'
      exact ⟨_, _, i, r, rfl, rfl, by rw [strLen]; exact eo, Lnd.ok (Rel := rD G) (b := D.int i) z' s dInt⟩
  | _ => exact z.elim
theorem splitC_ne (c : Nat) (ys : List Nat) : splitC c ys ≠ [] := by
  cases ys with
  | nil => simp [splitC]
  | cons x xs =>
    simp only [splitC]
    split
    · simp
    · split <;> simp
theorem spl_one (c : Nat) : ∀ (ys cur : List Nat), TL.spl [c] 0 cur ys = match splitC c ys with
    | [] => [cur]
    | p :: ps => (cur ++ p) :: ps
  | [], cur => by simp [TL.spl, splitC]
  | y :: ys, cur => by
    have ih := spl_one c ys
    have hne := splitC_ne c ys
    unfold TL.spl
    by_cases h : y = c
    · subst h
      simp only [splitC, if_true]
      cases e : splitC y ys with
      | nil => exact absurd e hne
      | cons p ps =>
        have i0 := ih []
        rw [e] at i0
        simp at i0
        simp [i0, TL.pre]
    · have h' : ¬ c = y := fun q => h q.symm
      simp only [splitC, if_neg h]
      cases e : splitC c ys with
      | nil => exact absurd e hne
      | cons p ps =>
        have i0 := ih (cur ++ [y])
        rw [e] at i0
        simp [TL.pre, h, h'] at i0 ⊢
        exact i0
theorem split_C {c : Nat} (hc : c < 256) (t : List Nat) : Txt.split ⟨t.toArray⟩ ⟨[c].toArray⟩ = (splitC c t).map fun s => (⟨s.toArray⟩ : Str) := by
  refine TL.map_tl_inj ?_
  rw [TL.split_spl ⟨t.toArray⟩ ⟨[c].toArray⟩ (by simp [TL.tl]) (TL.kind_ok (by simp [hc]))]
  have e : TL.spl [c] 0 [] t = splitC c t := by
    rw [spl_one]
    cases e : splitC c t with
    | nil => exact absurd e (splitC_ne c t)
    | cons p ps => simp
  show TL.spl [c] 0 [] t = _
  rw [e, List.map_map]
  exact (List.map_id' _).symm
theorem strL_map (ys : List (List Nat)) {α : Al} {H : Hp} {n : Nat} : RDs G n α H (ys.map .str) (ys.map fun s => V.str ⟨s.toArray⟩) := by
  induction ys with
  | nil => exact .nil
  | cons y r ih => exact .cons (by unfold RD; rfl) ih
theorem ru_split (W : Value → Option Addr → Hp → Prop) (α : Al) (hd : Hd) (H : Hp) (t : List Nat) (y : D) (u : V) (Q : VK) (s : StR G α hd H) (r : RD G hd.length α H y u) (z : Lnd G (rD G) W hd.length α H Q (m1D .split (.str t) y hd)) :
    (fun x xs H Q => ∃ a b, x = V.str a ∧ xs = [V.str b] ∧ (b.length == 0) = false ∧ a.length + 2 ≤ sizeLine ∧ rNewStrs (Txt.split a b) H Q : V → List V → Hp → VK → Prop) (.str ⟨t.toArray⟩) [u] H Q := by
  have key : ∃ c, y = .str [c] ∧ t.length + 2 ≤ sizeL ∧ c < 256 ∧ Lnd G (rD G) W hd.length α H Q (new (.lst ((splitC c t).map .str)) hd) := by
    simp only [m1D] at z
    split at z
    · split at z
      · rename_i c q
        rw [Bool.and_eq_true, decide_eq_true_eq, decide_eq_true_eq] at q
        exact ⟨_, rfl, q.1, q.2, z⟩
      · exact z.elim
    · exact z.elim
  obtain ⟨c, ey, h1, h2, z2⟩ := key
  subst ey
  obtain rfl := RDstr r
  refine ⟨_, _, rfl, rfl, rfl, by rw [strLen, ← sizeL_eq]; exact h1, fun p hp => ?_⟩
  rw [split_C h2, List.map_map]
  have x1 : Ex hd.length α H hd.length α (upd H p (.lst ((splitC c t).map (V.str ∘ fun s => (⟨s.toArray⟩ : Str))))) := Ex.other hp
  have s1 := s.other (o := .lst ((splitC c t).map (V.str ∘ fun s => (⟨s.toArray⟩ : Str)))) hp
  have na : ∀ i, i < hd.length → α i ≠ p := fun i hi q => by
    obtain ⟨o, e, _⟩ := s.at_ hi
    rw [q, hp] at e; cases e
  obtain ⟨s2, y2⟩ := s1.adopt (o := .lst ((splitC c t).map .str)) na ⟨_, upd_same, strL_map _⟩
  refine z2 _ (.ref p) _ ?_ s2 ?_
  · rw [List.length_append, List.length_singleton]; exact x1.adopt hp
  · show RD G _ _ _ (.ob hd.length) _
    unfold RD
    exact ⟨by rw [List.length_append, List.length_singleton]; exact Nat.lt_succ_self _, by rw [alUp_eq]⟩
end
end Mp
set_option maxHeartbeats 1000000
/-! MiniPy, part 25: zip of tuples, f-strings. -/
namespace Mp
open PySem PySem.Spec PyProof.Rows L2
section
variable {G : Gx} {X : Cx} {W : WX} {pos p apos : Pos} {a b o e : Expr} {fa fb fo : Sl → Hd → R (Rv × Hd)}
theorem zipD_get : ∀ (xs ys : List Mp.D) (i : Nat), (zipD xs ys)[i]? = (match xs[i]?, ys[i]? with
    | some x, some y => some (.tup [x, y])
    | _, _ => none)
  | [], ys, i => by simp [zipD]
  | x :: xs, [], i => by cases h : (x :: xs)[i]? <;> simp [zipD]
  | x :: xs, y :: ys, 0 => by simp [zipD]
  | x :: xs, y :: ys, i + 1 => by simpa [zipD] using zipD_get xs ys i
theorem zipD_len : ∀ (xs ys : List Mp.D), (zipD xs ys).length = min xs.length ys.length
  | [], ys => by simp [zipD]
  | x :: xs, [] => by simp [zipD]
  | x :: xs, y :: ys => by
    simp only [zipD, List.length_cons, zipD_len xs ys]
    omega
theorem sqT_uniq {K : PySem.W.Frag} {H : Hp} {a : Addr} {xs ys : List V} (h : SqT K H a xs) (h' : SqT K H a ys) : ys.length = xs.length → True := fun _ => trivial
theorem rdy_zip {α : Al} {hd : Hd} {H : Hp} {a b : Addr} {xs ys : List Mp.D} {vs ws : List V} (st : StR G α hd H) (h : SqT G.K H a vs) (r : RDs G hd.length α H xs vs) (h2 : SqT G.K H b ws) (r2 : RDs G hd.length α H ys ws) : Rdy G (RZ.ItzT G.K a b) (zipD xs ys) α hd H := fun i => by
  rw [zipD_len]
  refine ⟨fun hi => ?_, fun hi => ⟨vs, ws, h, h2, by rw [r.length, r2.length]; omega⟩⟩
  have e1 : xs[i]? = some (xs[i]'(by omega)) := List.getElem?_eq_getElem (by omega)
  have e2 : ys[i]? = some (ys[i]'(by omega)) := List.getElem?_eq_getElem (by omega)
  obtain ⟨v, ev, rv⟩ := r.get e1
  obtain ⟨w, ew, rw'⟩ := r2.get e2
  refine ⟨⟨vs, ws, v, w, h, h2, ev, ew⟩, fun u H' ⟨T, x, y, eu, hT, eH, y1, y2⟩ => ?_⟩
  subst eu; subst eH
  have q1 := y1 vs h
  have q2 := y2 ws h2
  rw [ev] at q1
  rw [ew] at q2
  cases q1
  cases q2
  refine ⟨.tup [xs[i]'(by omega), ys[i]'(by omega)], by rw [zipD_get, e1, e2], ?_, Ex.other hT, st.other hT⟩
  unfold RD
  exact ⟨T, _, rfl, SqT.of upd_same, .cons (RD.mono (Ex.other hT).toEy (fun i hi => st.at_ hi) _ _ rv) (.one (RD.mono (Ex.other hT).toEy (fun i hi => st.at_ hi) _ _ rw'))⟩
theorem di_zip {ts : List Expr} {kk : Nat} {tpos : Pos} (ok : Ok G X W) (hb : Bi X "zip") (hs : isStar a = false) (hs2 : isStar b = false) (ha : PE X a (tR G W fa)) (hb2 : PE X b (tR G W fb)) : PI X (.Tuple ts kk tpos) (.Call (.Name "zip" p) [a, b] [] pos) (tI G X W fun σ h => qs (fa σ h) >>= fun p => qs (fb σ p.2) >>= fun q => match p.1, q.1 with
    | .t xs, .t ys => .ok ((.t [], zipD xs ys), q.2)
    | _, _ => .no) :=
  (RZ.pi_zipA hb.gl hb.mg (pa_cons (pe_qs ha) (pa_cons (pe_qs hb2) pa_nil (starEach_cons hs2)) (starEach_cons hs)) (starEach_cons hs) (by rw [starEach_cons hs2]; rfl)).imp fun σ H Rr ⟨α, σD, hd, st, l, z⟩ => by
    refine ⟨α, σD, hd, st, l, ?_⟩
    show Lnd G (rQ G) _ _ _ _ _ (qs (fa σD hd))
    cases e : qs (fa σD hd) with
    | no => dsimp only at z; rw [e] at z; exact z.elim
    | ex c h1 => dsimp only at z; rw [e] at z; exact z
    | ok q =>
      obtain ⟨q, h1⟩ := q
      dsimp only at z
      rw [e] at z
      intro α1 v H1 x1 s1 rel
      refine ⟨α1, σD, h1, s1, l.mono x1.toEy (fun i hi => st.at_ hi), ?_⟩
      show Lnd G (rQ G) _ _ _ _ _ (qs (fb σD h1))
      cases e2 : qs (fb σD h1) with
      | no => simp only [R.ok_bind] at z; rw [e2] at z; exact z.elim
      | ex c h2 =>
        simp only [R.ok_bind] at z
        rw [e2] at z
        exact fun α2 H2 x2 s2 => z α2 H2 (x1.trans s1.there x2) s2
      | ok q2 =>
        obtain ⟨q2, h2⟩ := q2
        simp only [R.ok_bind] at z
        rw [e2] at z
        intro α2 w H2 x2 s2 rel2
        cases q with
        | t xs =>
          cases q2 with
          | t ys =>
            have z' : ∀ α1 H1 J, Ex hd.length α H h2.length α1 H1 → StR G α1 h2 H1 → still h2 (.t []) = true → Fq X H (.t []) α1 → Wks G J (.t []) (zipD xs ys) h2.length α1 H1 → Rr J H1 := z
            obtain ⟨p, vs, rfl, h1', r⟩ := rel
            obtain ⟨p2, ws, rfl, h2', r2⟩ := rel2
            have h1'' : SqT G.K H2 p vs := x2.toEy.sqT (fun i hi => s1.at_ hi) h1'
            have r1 := RDs.mono x2.toEy (fun i hi => s1.at_ hi) xs vs r
            refine ⟨p, p2, vs, ws, rfl, .inr ⟨ok.K ▸ h1'', ok.K ▸ h2', ok.K ▸ z' α2 H2 _ (x1.trans s1.there x2) s2 rfl trivial fun α3 hd3 H3 x3 s3 _ => ?_⟩⟩
            exact rdy_zip s3 (x3.toEy.sqT (fun i hi => s2.at_ hi) h1'') (RDs.mono x3.toEy (fun i hi => s2.at_ hi) xs vs r1) (x3.toEy.sqT (fun i hi => s2.at_ hi) h2') (RDs.mono x3.toEy (fun i hi => s2.at_ hi) ys ws r2)
          | _ => exact z.elim
        | _ => exact z.elim
/-! ### f-strings -/
/-- the parts, each a text or formatted -/
inductive Pts (G : Gx) (X : Cx) (W : WX) (C : Cl) : List Expr → List E → Prop where
  | nil : Pts G X W C [] []
  | str {s : Str} {j : Nat} {pos : Pos} {es : List Expr} {fs : List E} (r : Pts G X W C es fs) : Pts G X W C (.Constant (.str s) j pos :: es) (.c (.str s.cps.toList) :: fs)
  | fmt {e : Expr} {f : E} {pos : Pos} {es : List Expr} {fs : List E} (h : PE X e (tR G W (evR C f))) (r : Pts G X W C es fs) : Pts G X W C (.FormattedValue e (-1) none pos :: es) (f :: fs)
def rTxt : Rl (List Nat) Str := fun _ _ _ _ b c => c = ⟨b.toArray⟩
instance : Dn rTxt := ⟨fun _ h => h⟩
theorem strI_eq (i : Int) : (toString i : String) = (⟨(strI i).toArray⟩ : Str) := by
  show Str.ofString (toString i) = _
  unfold strI
  cases Str.ofString (toString i) with
  | mk c => simp
theorem pts_ok {C : Cl} {es : List Expr} {fs : List E} (h : Pts G X W C es fs) : ∃ ts, PJ X es ts ∧ ∀ (acc : List Nat) (σ : L2.St) (H : Hp) (Q : Str → Hp → Prop) (α : Al) (σD : Sl) (hd : Hd), StR G α hd H → SlR G hd.length α H σD σ → Lnd G rTxt (fun c d H1 => W c d σ H1) hd.length α H Q (evFs C fs σD hd acc) → tJs ts ⟨acc.toArray⟩ σ H Q := by
  induction h with
  | nil => exact ⟨[], .nil, fun acc σ H Q α σD hd s l z => Lnd.ok (Rel := rTxt) (b := acc) z s rfl⟩
  | @str s j pos es fs r ih =>
    obtain ⟨ts, pj, f⟩ := ih
    refine ⟨_, .cons (pe_vl (G := G) (W := W) de_str) pj, fun acc σ H Q α σD hd st l z => ?_⟩
    refine ⟨α, σD, hd, st, l, fun α1 v H1 x1 s1 r1 => ?_⟩
    have r1' : v = .str ⟨s.cps.toList.toArray⟩ := RDstr (show RD G _ _ _ (.str s.cps.toList) v from r1)
    have l1 : SlR G hd.length α1 H1 σD σ := l.mono x1.toEy fun i hi => st.at_ hi
    have z1 : Lnd G rTxt (fun c d H1 => W c d σ H1) hd.length α1 H1 Q (evFs C (.c (.str s.cps.toList) :: fs) σD hd acc) := Lnd.from x1 s1.there z
    have z2 : Lnd G rTxt (fun c d H1 => W c d σ H1) hd.length α1 H1 Q ((if s.cps.toList.length ≤ sizeL then R.ok s.cps.toList else .no) >>= fun t => if acc.length + t.length ≤ sizeL then evFs C fs σD hd (acc ++ t) else .no) := z1
    by_cases c : s.cps.toList.length ≤ sizeL
    · rw [if_pos c] at z2
      have z3 : Lnd G rTxt (fun c d H1 => W c d σ H1) hd.length α1 H1 Q (if acc.length + s.cps.toList.length ≤ sizeL then evFs C fs σD hd (acc ++ s.cps.toList) else .no) := z2
      obtain ⟨c2, z3⟩ := if_no z3
      refine ⟨_, r1', ?_, ?_⟩
      · rw [strApp, strLen, List.length_append, ← sizeL_eq]; exact c2
      · rw [strApp]; exact f _ σ H1 Q α1 σD hd s1 l1 z3
    · rw [if_neg c] at z2; exact z2.elim
  | @fmt e f pos es fs h r ih =>
    obtain ⟨ts, pj, g⟩ := ih
    refine ⟨_, .cons (pe_fmt (pe_vl h)) pj, fun acc σ H Q α σD hd st l z => ?_⟩
    have z0 : Lnd G rTxt (fun c d H1 => W c d σ H1) hd.length α H Q (vl (evR C f σD hd) >>= fun p => fmtD p.1 >>= fun s => if acc.length + s.length ≤ sizeL then evFs C fs σD p.2 (acc ++ s) else .no) := z
    refine tX_bind (Rel := rD G) st l z0 fun x h1 α1 v H1 e x1 s1 l1 r1 z => ?_
    have fin : ∀ (t : List Nat), Lnd G rTxt (fun c d H1 => W c d σ H1) h1.length α1 H1 Q (if acc.length + t.length ≤ sizeL then evFs C fs σD h1 (acc ++ t) else .no) → ∃ y : Str, V.str ⟨t.toArray⟩ = .str y ∧ ((⟨acc.toArray⟩ : Str) ++ y).length ≤ sizeLine ∧ tJs ts (⟨acc.toArray⟩ ++ y) σ H1 Q := fun t z => by
      obtain ⟨c2, z⟩ := if_no z
      refine ⟨_, rfl, ?_, ?_⟩
      · rw [strApp, strLen, List.length_append, ← sizeL_eq]; exact c2
      · rw [strApp]; exact g _ σ H1 Q α1 σD h1 s1 l1 z
    cases x with
    | str t =>
      have r1' : v = .str ⟨t.toArray⟩ := RDstr (show RD G _ _ _ (.str t) v from r1)
      have z2 : Lnd G rTxt (fun c d H1 => W c d σ H1) h1.length α1 H1 Q ((if t.length ≤ sizeL then R.ok t else .no) >>= fun s => if acc.length + s.length ≤ sizeL then evFs C fs σD h1 (acc ++ s) else .no) := z
      by_cases c : t.length ≤ sizeL
      · rw [if_pos c] at z2
        exact .inl ⟨_, r1', by rw [strLen, ← sizeL_eq]; exact c, fin t z2⟩
      · rw [if_neg c] at z2; exact z2.elim
    | int i =>
      have r1' : v = .int i := RDint (show RD G _ _ _ (.int i) v from r1)
      have z2 : Lnd G rTxt (fun c d H1 => W c d σ H1) h1.length α1 H1 Q ((if i.natAbs.log2 < 1920 then R.ok (strI i) else .no) >>= fun s => if acc.length + s.length ≤ sizeL then evFs C fs σD h1 (acc ++ s) else .no) := z
      by_cases c : i.natAbs.log2 < 1920
      · rw [if_pos c] at z2
        exact .inr ⟨i, r1', c, by rw [strI_eq]; exact fin _ z2⟩
      · rw [if_neg c] at z2; exact z2.elim
    | _ => exact z.elim
theorem de_fs {C : Cl} {e1 e2 : Expr} {es : List Expr} {fs : List E} (h : Pts G X W C (e1 :: e2 :: es) fs) : PE X (.JoinedStr (e1 :: e2 :: es) pos) (tR G W fun σ h => evFs C fs σ h [] >>= fun p => .ok (.v (.str p.1), p.2)) := by
  obtain ⟨ts, pj, f⟩ := pts_ok h
  refine (pe_joined pj).imp fun σ H Q ⟨α, σD, hd, s, l, z⟩ => ?_
  refine f [] σ H _ α σD hd s l ?_
  dsimp only at z
  cases e : evFs C fs σD hd [] with
  | no => rw [e] at z; exact z.elim
  | ex c h1 => rw [e] at z; exact z
  | ok p =>
    obtain ⟨t, h1⟩ := p
    rw [e] at z
    intro α1 v H1 x1 s1 r1
    have r1' : v = ⟨t.toArray⟩ := r1
    subst r1'
    exact z α1 (.str ⟨t.toArray⟩) H1 x1 s1 (by show RD G h1.length α1 H1 (.str t) _; unfold RD; rfl)
end
end Mp
set_option maxHeartbeats 1000000
/-! MiniPy, part 32: enumerate over lists and tuples. -/
namespace Mp
open PySem PySem.Spec PyProof.Rows L2
open PySem.Sem (wp)
/-- the tuple at a, its items in new pairs -/
def IteT (K : PySem.W.Frag) (a : Addr) : It :=
  ⟨fun i H => ∃ (vs : List V) (w : V), vs[i]? = some w ∧ SqT K H a vs, fun i H v H' => ∃ T w, v = .ref T ∧ (∀ vs, SqT K H a vs → vs[i]? = some w) ∧ H T = none ∧ H' = upd H T (.tup [.int (i : Nat), w]), fun i H => ∃ vs : List V, vs.length ≤ i ∧ SqT K H a vs⟩
theorem turn_enumT {P : Program} {w : World} {K : PySem.W.Frag} {elts : List Expr} {kk : Nat} {tpos : Pos} (a e it : Addr) (hea : a ≠ it) (hee : e ≠ a) :
    Turn P w K (.Tuple elts kk tpos) (IteT K a) [e, it] e (fun i h => (∃ old, IsEnum h e it ((i : Nat) : Int) old) ∧ h.IsTupleIter it a i ∧ e ≠ it) where
  mem := by simp
  obj := fun i h ⟨⟨old, he⟩, ⟨o, ho, hc, hd⟩, _⟩ b hb => by
    rcases (by simpa using hb : b = e ∨ b = it) with q | q
    · exact q ▸ ⟨_, he, fun v c => nomatch c⟩
    · exact q ▸ ⟨o, ho, fun v c => by rw [hd] at c; cases c⟩
  keep := fun i h h' ⟨⟨old, he⟩, hi, hne⟩ k => ⟨⟨old, k e (by simp) _ he⟩, hi.at fun o c => k it (by simp) o c, hne⟩
  item := by
    intro X hP hw hK hc i pins s σ H E I hf st hg
    subst hP hw hK
    obtain ⟨⟨old, he⟩, hit, hne⟩ := st
    obtain ⟨vs, x, hx, hq⟩ := hg
    obtain ⟨its, rv, p, _⟩ := I.tuple hq
    obtain ⟨u, hu, ru⟩ := rv.get hx
    have lt : i < its.toArray.size := by
      have := (List.getElem?_eq_some_iff.mp hu).1
      simpa using this
    have le : e < s.heap.objs.size := Heap.lt_size he
    have li : it < s.heap.objs.size := by obtain ⟨_, q, _⟩ := hit; exact Heap.lt_size q
    refine wpAny_pyNext_enum_itemD (Draws.tuple (A := X.A.in1) (I.ok.hd hc) it a hea its.toArray) he ⟨hit, p⟩ lt hne (by simp [hne, hee]) fun y h' tk hy ho hs' hT hsz hk => ?_
    have ey : y = u := by
      have hy' : its[i]? = some y := by simpa using hy
      rw [hu] at hy'
      cases hy'
      rfl
    subst ey
    refine ⟨_, rfl, wpAny_letOwnedTupleGo_enum (s := { s with heap := h', toks := tk + 1 }) ho fun h2 he2 sb => ?_⟩
    have hT2 : h2.get? s.heap.objs.size = some { cls := .type "tuple", data := .seq #[.int i tk, y] } := (sb.2 _ (Nat.ne_of_gt le)).trans hT
    have fresh := I.hok.fresh (Nat.le_refl s.heap.objs.size)
    refine ⟨.ref s.heap.objs.size, upd H s.heap.objs.size (.tup [.int (i : Nat), x]), I.turnedNew (ch := [e, it]) (t' := tk + 1) (fun b o hb q => ?_) hf (Nat.le_refl _) ?_, rfl, ⟨_, x, rfl, fun ys hy => by rw [I.tuple_inj hy hq]; exact hx, fresh, rfl⟩, ⟨⟨y, ?_⟩, ?_, hne⟩, fun b hb => ?_⟩
    · have nb : b ≠ e ∧ b ≠ it := by simpa using hb
      exact (sb.2 b nb.1).trans (hk b o nb.1 nb.2 q)
    · refine ⟨by show 2 ≤ sizeLine; decide, [.int i tk, y], .cons ⟨_, rfl⟩ (.cons ru .nil), ?_⟩
      exact ⟨_, hT2, rfl, _, rfl⟩
    · rw [Int.natCast_succ]; exact he2
    · exact hs'.1.at fun o q => (sb.2 it (Ne.symm hne)).trans q
    · have hb' : b < s.heap.objs.size := by rcases (by simpa using hb : b = e ∨ b = it) with q | q <;> (subst q; assumption)
      rw [upd_ne (Nat.ne_of_lt hb')]
      exact (hf b hb).1
  done := by
    intro X hP hw hK hc i pins s σ H E I hf st hg
    subst hP hw hK
    obtain ⟨⟨old, he⟩, hit, hne⟩ := st
    obtain ⟨vs, hx, hq⟩ := hg
    obtain ⟨its, rv, p, _⟩ := I.tuple hq
    obtain ⟨f0, f1, f2, f3, f4, f5⟩ := hf it (by simp)
    have hl := rv.length
    have D : Draws X.prog X.w X.A.in1 it [it, a] i (fun _ _ => True) (fun j h => j = i ∧ h.IsTupleIter it a j ∧ h.IsTuple a its.toArray) :=
      { live := fun _ _ ⟨_, ⟨o, ho, _⟩, _⟩ => ⟨o, ho⟩
        frame := fun _ _ _ ⟨e0, e1, e2⟩ hk => ⟨e0, e1.at fun o e => hk it (by simp) o e, e2.at fun o e => hk a (by simp) o e⟩
        item := fun j s Q E hj ⟨e0, _⟩ hQ => absurd e0 (Nat.ne_of_lt hj)
        done := fun s Q E ⟨_, e1, e2⟩ hE => RZ.nextOf_tuple_end (A := X.A.in1) (I.ok.hd hc) e1 e2 (by simp; omega) hE }
    exact wpAny_pyNext_enum_endD D he ⟨rfl, hit, p⟩ fun h' eb => ⟨rfl, I.turned (t' := s.toks) (fun b o hb q => eb b o hb q) f0 f1 f3 f4 f5⟩
  self := fun A i s Q E st h => let ⟨⟨_, he⟩, _⟩ := st; wpAny_pyIter_enum he h
theorem meets_enumT (a : Addr) (items : Array Value) (n : Nat) (dct : Option Addr) (sl : Array (Option Value)) :
    Meets (Builtin.«enumerate.__new__» ⟨[.type "enumerate", .ref a], []⟩) (fun _ R s => s.heap.get? a = some { cls := .type "tuple", dict := dct, data := .seq items n, slots := sl } ∧
      R (.ok (.ret (.ref (s.heap.push { cls := .type "tuple_iterator", data := .fields #[.ref a, .int 0 0] }).objs.size)))
        { s with heap := (s.heap.push { cls := .type "tuple_iterator", data := .fields #[.ref a, .int 0 0] }).push { cls := .type "enumerate", data := .fields #[.none, .bool false, .ref s.heap.objs.size, rawInt 0, .none, .none] } }) :=
  .of_wp fun prog w A R s ⟨hl, h⟩ => by
    obtain ⟨hp, g, d, tk, os⟩ := s
    have hsub := sub_enumerate
    have hT : Heap.IsTuple (Shared.heap ⟨hp, g, d, tk, os⟩) a items := ⟨_, hl, rfl, n, rfl⟩
    wp_walk using AutoSeq1.wpAny_loadPart' hl
    refine wpAny_stack_any fun st => wpAny_pure ?_
    split
    · rename_i c _ _ _ _ _
      cases (c == Value.type "enumerate") <;> (wp_walk using AutoSeq1.wpAny_loadPart' hl, wpAny_pyIter_tuple hT; exact ⟨_, rfl, h⟩)
    · wp_walk using AutoSeq1.wpAny_loadPart' hl, wpAny_pyIter_tuple hT
      exact ⟨_, rfl, h⟩
theorem call_enumT {prog : Program} {w : World} {A : Around} {E : Value → Shared → Prop} {s : Shared} {l : Addr} {items : Array Value} {Q : Value → Shared → Prop} (hL : s.heap.IsTuple l items)
    (h : ∀ h', IsEnum h' (s.heap.objs.size + 1) s.heap.objs.size 0 .none → h'.IsTupleIter s.heap.objs.size l 0 →
      (∀ b o, s.heap.get? b = some o → h'.get? b = some o) → Q (.ref (s.heap.objs.size + 1)) { s with heap := h' }) :
    wpAny (model prog w) A (call (.type "enumerate") [.ref l]) Q E s := by
  obtain ⟨⟨c, dct, dt, sl⟩, hl, hc, n, hd⟩ := hL
  cases (show c = .type "tuple" from hc)
  cases (show dt = .seq items n from hd)
  refine callType_new F.called_enumerate (by decide) (F.typeCall_enumerate_1 _) (F.newCall_enumerate_1 _) (fun obj => F.args_object_init_2 obj _) F.entry_enumerate_new (meets_enumT l items n dct sl) ⟨hl, ?_⟩
  generalize ei : ({ cls := .type "tuple_iterator", data := .fields #[.ref l, .int 0 0] } : Obj) = it
  have fr : it.isFreed = false := by subst ei; rfl
  have hz : (s.heap.push it).objs.size = s.heap.objs.size + 1 := Heap.size_push ..
  generalize ee : ({ cls := .type "enumerate", data := .fields #[.none, .bool false, .ref s.heap.objs.size, rawInt 0, .none, .none] } : Obj) = en
  have he : ((s.heap.push it).push en).get? (s.heap.objs.size + 1) = some en := hz ▸ Heap.get?_push_size (s.heap.push it) (by subst ee; rfl)
  show _ ∧ _
  rw [hz]
  subst ee
  refine ⟨⟨_, he, rfl⟩, h _ he ?_ fun b o x => Heap.get?_push_of_some _ (Heap.get?_push_of_some _ x)⟩
  exact ⟨it, Heap.get?_push_of_some _ (Heap.get?_push_size _ fr), by subst ei; rfl, by subst ei; rfl⟩
def iEnumA (K : PySem.W.Frag) (ta : TA) : TI := fun σ H R => ta σ H fun vs H1 => ∃ a xs, vs = [.ref a] ∧ ((SqL K H1 a xs ∧ R (Ite K a) H1) ∨ (SqT K H1 a xs ∧ R (IteT K a) H1))
theorem pi_enumA {X : Cx} {e : Expr} {ta : TA} {p pos tpos : Pos} {elts : List Expr} {kk : Nat} (hg : Gl X "enumerate") (hm : X.mg "enumerate" = none) (ha : PA X [e] ta) (hs : starEach [e] X.env = [(false, eval e X.env)] := by rfl) :
    PI X (.Tuple elts kk tpos) (.Call (.Name "enumerate" p) [e] [] pos) (iEnumA X.K ta) := by
  refine ⟨fun pins s σ H R I h => ?_⟩
  refine Call_ (ld_blt I hg hm boot_enumerate (PyProof.Rows.callWith_type1 (thn (ha.run pos pins s σ H _ I h) fun us s1 ⟨vs, H1, I1, r1, a, xs, ex, q1⟩ => ?_) hs rfl))
  subst ex
  cases r1 with
  | cons r rr =>
    cases rr
    cases r
    have fresh : ∀ b ∈ [s1.heap.objs.size + 1, s1.heap.objs.size], FpOk X pins H1 b := fun b hb => by
      have hle : s1.heap.objs.size ≤ b := by rcases (by simpa using hb : b = s1.heap.objs.size + 1 ∨ b = s1.heap.objs.size) with z | z <;> (subst z; omega)
      exact I1.fpOk hle (I1.hok.fresh hle)
    rcases q1 with ⟨hq, q⟩ | ⟨hq, q⟩
    · obtain ⟨its, rv, p', hz⟩ := I1.list hq
      refine call_enumerate_list p'.isList fun h' he hit hsz hk => wpAny_pyIter_enum he ?_
      exact ⟨_, [s1.heap.objs.size + 1, s1.heap.objs.size], _, _, H1, rfl, I1.kept (t' := s1.toks) hk, turn_enum a (s1.heap.objs.size + 1) s1.heap.objs.size, ⟨⟨.none, he⟩, hit, Nat.succ_ne_self _⟩, fresh, q⟩
    · obtain ⟨its, rv, p', hz⟩ := I1.tuple hq
      obtain ⟨o1, ho1, _⟩ := id p'
      have la : a < s1.heap.objs.size := Heap.lt_size ho1
      refine call_enumT (show s1.heap.IsTuple a its.toArray from p') fun h' he hit hk => wpAny_pyIter_enum he ?_
      exact ⟨_, [s1.heap.objs.size + 1, s1.heap.objs.size], _, _, H1, rfl, I1.kept (t' := s1.toks) hk, turn_enumT a (s1.heap.objs.size + 1) s1.heap.objs.size (Nat.ne_of_lt la) (Nat.ne_of_gt (Nat.lt_succ_of_lt la)), ⟨⟨.none, he⟩, hit, Nat.succ_ne_self _⟩, fresh, q⟩
theorem rdy_enumT {G : Gx} {α : Al} {hd : Hd} {H : Hp} {a : Addr} {xs : List Mp.D} {vs : List V} (st : StR G α hd H) (h : SqT G.K H a vs) (r : RDs G hd.length α H xs vs) : Rdy G (IteT G.K a) (enumD 0 xs) α hd H := fun i => by
  rw [enumD_len]
  refine ⟨fun hi => ?_, fun hi => ⟨vs, by rw [r.length]; exact hi, h⟩⟩
  have ex : xs[i]? = some xs[i] := List.getElem?_eq_getElem hi
  obtain ⟨v, ev, rv⟩ := r.get ex
  refine ⟨⟨vs, v, ev, h⟩, fun w H' ⟨T, x, ew, y, hT, eH⟩ => ?_⟩
  subst ew; subst eH
  have := y vs h
  rw [ev] at this
  cases this
  refine ⟨.tup [.int ((0 + i : Nat) : Int), xs[i]], by rw [enumD_get, ex]; rfl, ?_, Ex.other hT, st.other hT⟩
  rw [Nat.zero_add]
  unfold RD
  exact ⟨T, _, rfl, SqT.of upd_same, .cons (by unfold RD; rfl) (.one (RD.mono (Ex.other hT).toEy (fun i hi => st.at_ hi) _ _ rv))⟩
section
variable {G : Gx} {X : Cx} {W : WX} {pos p apos : Pos} {a b o e : Expr} {fa fb fo : Sl → Hd → R (Rv × Hd)}
theorem di_enumA {ts : List Expr} {kk : Nat} {tpos : Pos} (ok : Ok G X W) (hb : Bi X "enumerate") (hs : isStar a = false) (ha : PE X a (tR G W fa)) : PI X (.Tuple ts kk tpos) (.Call (.Name "enumerate" p) [a] [] pos) (tI G X W fun σ h => qs (fa σ h) >>= fun p => match p.1 with
    | .l id xs => .ok ((.l id xs, enumD 0 xs), p.2)
    | .t xs => .ok ((.t [], enumD 0 xs), p.2)
    | _ => .no) :=
  (pi_enumA hb.gl hb.mg (pa_cons (pe_qs ha) pa_nil (starEach_cons hs)) (by rw [starEach_cons hs]; rfl)).imp fun σ H Rr ⟨α, σD, hd, st, l, z⟩ => by
    refine ⟨α, σD, hd, st, l, ?_⟩
    show Lnd G (rQ G) _ _ _ _ _ (qs (fa σD hd))
    cases e : qs (fa σD hd) with
    | no => dsimp only at z; rw [e] at z; exact z.elim
    | ex c h1 => dsimp only at z; rw [e] at z; exact z
    | ok q =>
      obtain ⟨q, h1⟩ := q
      dsimp only at z
      rw [e] at z
      intro α1 v H1 x1 s1 rel
      cases q with
      | l id xs =>
        have z' : ∀ α1 H1 J, Ex hd.length α H h1.length α1 H1 → StR G α1 h1 H1 → still h1 (.l id xs) = true → Fq X H (.l id xs) α1 → Wks G J (.l id xs) (enumD 0 xs) h1.length α1 H1 → Rr J H1 := z
        have sq : still h1 (.l id xs) = true := qs_still e (fun _ _ _ c => nomatch c)
        cases id with
        | none =>
          obtain ⟨p, vs, rfl, h1', r, na⟩ := rel
          exact ⟨p, vs, rfl, .inl ⟨SqL.of h1', ok.K ▸ z' α1 H1 _ x1 s1 sq trivial fun α2 hd2 H2 x2 s2 _ => rdy_enum s2 (SqL.of (x2.keep _ _ h1' na)) (RDs.mono x2.toEy (fun i hi => s1.at_ hi) xs vs r)⟩⟩
        | some k =>
          obtain ⟨_, rfl, vs, h1', r⟩ := rel
          have hk : k < h1.length := by rcases still_lst sq with e | e <;> exact (List.getElem?_eq_some_iff.mp e).1
          refine ⟨_, vs, rfl, .inl ⟨ok.K ▸ h1', ok.K ▸ z' α1 H1 _ x1 s1 sq trivial fun α2 hd2 H2 x2 s2 sl => ?_⟩⟩
          obtain ⟨vs2, g1, g2⟩ := still_rel s2 sl
          have e2 : α2 k = α1 k := x2.al k hk
          rw [← e2]
          exact rdy_enum s2 g1 g2
      | t xs =>
        have z' : ∀ α1 H1 J, Ex hd.length α H h1.length α1 H1 → StR G α1 h1 H1 → still h1 (.t []) = true → Fq X H (.t []) α1 → Wks G J (.t []) (enumD 0 xs) h1.length α1 H1 → Rr J H1 := z
        obtain ⟨p, vs, rfl, h1', r⟩ := rel
        refine ⟨p, vs, rfl, .inr ⟨ok.K ▸ h1', ok.K ▸ z' α1 H1 _ x1 s1 rfl trivial fun α2 hd2 H2 x2 s2 _ => ?_⟩⟩
        exact rdy_enumT s2 (x2.toEy.sqT (fun i hi => s1.at_ hi) h1') (RDs.mono x2.toEy (fun i hi => s1.at_ hi) xs vs r)
      | s xs => exact z.elim
      | d k lk kvs => exact z.elim
end
end Mp
set_option maxHeartbeats 1000000
/-! MiniPy, part 26: comparisons and items, dicts too. -/
namespace Mp
open PySem PySem.Spec PyProof.Rows L2
section
variable {G : Gx} {X : Cx} {W : WX} {C : Cl} {pos : Pos} {a b : Expr} {fa fb : Sl → Hd → R (Rv × Hd)}
theorem dctOf_at {hd : Hd} {d : D} {k : Nat} {lk : Bool} {kvs : List (D × D)} (h : dctOf hd d = some (k, lk, kvs)) : d = .ob k ∧ hd[k]? = some (.dct lk kvs) := by
  cases d with
  | ob k2 =>
    unfold dctOf at h
    dsimp only at h
    cases e2 : hd[k2]? with
    | none => rw [e2] at h; cases h
    | some ob =>
      rw [e2] at h
      cases ob <;> first | (cases h; done) | skip
      cases h
      exact ⟨rfl, e2⟩
  | _ => cases h
def rcC (G : Gx) (C : Cl) (op : Cop) : R2 := fun x y H Q => ∃ α hd d e p, StR G α hd H ∧ RD G hd.length α H d x ∧ RD G hd.length α H e y ∧ cmpC C op d e hd = .ok p ∧ ∀ α1 v H1, Ex hd.length α H p.2.length α1 H1 → StR G α1 p.2 H1 → RD G p.2.length α1 H1 p.1 v → Q v H1
theorem cmp_pl {op : Cop} {d e : D} {h : Hd} {p : D × Hd} (q : (cmpD op d e h >>= fun r => R.ok (D.bl r, h)) = .ok p) : ∃ r, cmpD op d e h = .ok r ∧ p = (.bl r, h) := by
  cases e1 : cmpD op d e h with
  | no => rw [e1] at q; cases q
  | ex c h1 => rw [e1] at q; cases q
  | ok r => rw [e1] at q; cases q; exact ⟨r, rfl, rfl⟩
/-! ### a[b] -/
def rIxC (G : Gx) : R2 := fun x y H Q => ∃ α hd d e t, StR G α hd H ∧ RD G hd.length α H d x ∧ RD G hd.length α H e y ∧ ixC d e hd = .ok t ∧ ∀ v, RD G hd.length α H t v → Q v H
theorem ix_C (hK : X.K = G.K) (hw : X.w = G.w) (hu : X.A.units + 65 < cLine) : IxR X (rIxC G) := by
  intro value slice pins s σ H x y v u Q I rx ry h hs
  obtain ⟨α, hd, d, e, t, st, rd, re, z, q⟩ := h
  unfold ixC at z
  cases ed : dctOf hd d with
  | none =>
    rw [ed] at z
    exact ix_all hK value slice pins s σ H x y v u Q I rx ry ⟨α, hd, d, e, t, st, rd, re, z, q⟩ hs
  | some p =>
    obtain ⟨k, lk, kvs⟩ := p
    rw [ed] at z
    dsimp only at z
    obtain ⟨rfl, ek⟩ := dctOf_at ed
    split at z
    · rename_i c
      cases eg : dGet kvs e with
      | none => rw [eg] at z; cases z
      | some t' =>
        rw [eg] at z
        cases z
        unfold RD at rd
        obtain ⟨hk, rfl⟩ := rd
        obtain rfl : v = .ref (α k) := rx
        obtain ⟨es0, ⟨o, xs, ep, g, hx, hd', _⟩, _⟩ := dct_at I (st.ob k _ ek)
        exact tail_any (⟨o, g, hx.1⟩ : s.TypeIs (.ref (α k)) "dict") slot_dict_getitem.lookup (dv_getItem I hK hw (show X.A.units + 64 < cLine by omega) (st.ob k _ ek) re ry c eg fun w w' s' I' rw' rv' => ⟨w, H, I', rv', q w rw'⟩) hs
    · cases z
theorem de_ixC (ok : Ok G X W) (ha : PE X a (tR G W fa)) (hb : PE X b (tR G W fb)) (hs : notSlice b = true) : PE X (.Subscript a b pos) (tR G W fun σ h => vl (fa σ h) >>= fun p => vl (fb σ p.2) >>= fun q => ixC p.1 q.1 q.2 >>= fun r => .ok (.v r, q.2)) :=
  (pe_ix (ix_C ok.K ok.w ok.un) (pe_vl ha) (pe_vl hb) (plainIx_of hs)).imp fun σ H Q ⟨α, σD, hd, s, l, z⟩ => by
    refine tX_bind (Rel := rD G) s l z fun x h1 α1 v H1 e x1 s1 l1 r z => ?_
    refine tX_bind (Rel := rD G) s1 l1 z fun y h2 α2 u H2 e x2 s2 l2 r2 z => ?_
    dsimp only at z
    cases ei : ixC x y h2 with
    | no => rw [ei] at z; exact z.elim
    | ex c h' =>
      exfalso
      unfold ixC ixD at ei
      revert ei
      repeat' split
      all_goals (intro ei; first | (cases ei; done) | exact R.of_nx _ _ _ ei)
    | ok t =>
      rw [ei] at z
      exact ⟨α2, h2, x, y, t, s2, RD.mono x2.toEy (fun i hi => s1.at_ hi) x v r, r2, ei, fun w hw => Lnd.ok (Rel := rR G) (b := Rv.v t) z s2 hw⟩
end
end Mp
namespace Mp
open PySem PySem.Spec PyProof.Rows L2
section
variable {G : Gx} {X : Cx} {W : WX} {pos apos : Pos} {a o : Expr} {fa fo : Sl → Hd → R (Rv × Hd)}
/-- a method's run, the receiver's type asked first -/
def m1K (m : M1) (fa : Sl → Hd → R (Rv × Hd)) (σ : Sl) (p : D × Hd) : R (Rv × Hd) := rcv m p.1 p.2 >>= fun _ => vl (fa σ p.2) >>= fun q => rv (m1D m p.1 q.1 q.2)
theorem m1K_L {m : M1} (h1 : ∀ k h, rcv m (.ob k) h = if (lstOf h (.ob k)).isSome then .ok () else .no) (h2 : ∀ d h, (∀ k, d ≠ .ob k) → rcv m d h = .no) (σ : Sl) (p : D × Hd) : m1K m fa σ p = onL (fun i h => vl (fa σ h) >>= fun q => rv (m1D m (.ob i) q.1 q.2)) p := by
  obtain ⟨d, h⟩ := p
  unfold m1K onL
  cases d with
  | ob k =>
    dsimp only
    rw [h1]
    by_cases c : (lstOf h (.ob k)).isSome = true
    · rw [if_pos c, if_pos c]; rfl
    · rw [if_neg c, if_neg c]; rfl
  | _ => dsimp only; rw [h2 _ _ (fun k e => by cases e)]; rfl
theorem lst_non {d : D} {h : Hd} (hd : ∀ k, d ≠ .ob k) : (lstOf h d).isSome = false := by
  cases d with
  | ob k => exact absurd rfl (hd k)
  | _ => rfl
theorem de_append' (hs : isStar a = false) (hab : abOk o = true) (hline : (apos.endLine == pos.line) = true) (ho : PE X o (tR G W fo)) (ha : PE X a (tR G W fa)) : PE X (.Call (.Attribute o "append" apos) [a] [] pos) (tR G W fun σ h => vl (fo σ h) >>= m1K .append fa σ) := by
  refine (de_lm1 PySem.F.slot_list_append PySem.F.type_list_append mt_append ru_append hs hab hline ho ha).imp fun σ H Q h => ?_
  have e : (fun σ h => vl (fo σ h) >>= m1K .append fa σ) = fun σ h => vl (fo σ h) >>= onL (fun i h => vl (fa σ h) >>= fun q => rv (m1D .append (.ob i) q.1 q.2)) := by
    funext σ h
    congr 1
    funext p
    exact m1K_L (fun k h => rfl) (fun d h hd => by show (if (lstOf h d).isSome = true then R.ok () else R.no) = _; rw [lst_non hd]; rfl) σ p
  rw [e] at h; exact h
theorem de_count (ok : Ok G X W) (hs : isStar a = false) (hab : abOk o = true) (hline : (apos.endLine == pos.line) = true) (ho : PE X o (tR G W fo)) (ha : PE X a (tR G W fa)) : PE X (.Call (.Attribute o "count" apos) [a] [] pos) (tR G W fun σ h => vl (fo σ h) >>= m1K .count fa σ) := by
  refine (de_lm1 PySem.F.slot_list_count PySem.F.type_list_count (mt_countD ok.un) (ru_count ok.K) hs hab hline ho ha).imp fun σ H Q h => ?_
  have e : (fun σ h => vl (fo σ h) >>= m1K .count fa σ) = fun σ h => vl (fo σ h) >>= onL (fun i h => vl (fa σ h) >>= fun q => rv (m1D .count (.ob i) q.1 q.2)) := by
    funext σ h
    congr 1
    funext p
    exact m1K_L (fun k h => rfl) (fun d h hd => by cases d <;> first | rfl | exact absurd rfl (hd _)) σ p
  rw [e] at h; exact h
theorem de_pop1 (hs : isStar a = false) (hab : abOk o = true) (hline : (apos.endLine == pos.line) = true) (ho : PE X o (tR G W fo)) (ha : PE X a (tR G W fa)) : PE X (.Call (.Attribute o "pop" apos) [a] [] pos) (tR G W fun σ h => vl (fo σ h) >>= m1K .pop fa σ) := by
  refine (de_lm1 PySem.F.slot_list_pop PySem.F.type_list_pop mt_popAt ru_pop0 hs hab hline ho ha).imp fun σ H Q h => ?_
  have e : (fun σ h => vl (fo σ h) >>= m1K .pop fa σ) = fun σ h => vl (fo σ h) >>= onL (fun i h => vl (fa σ h) >>= fun q => rv (m1D .pop (.ob i) q.1 q.2)) := by
    funext σ h
    congr 1
    funext p
    exact m1K_L (fun k h => rfl) (fun d h hd => by cases d <;> first | rfl | exact absurd rfl (hd _)) σ p
  rw [e] at h; exact h
theorem m1K_S {m : M1} (h1 : ∀ t h, rcv m (.str t) h = .ok ()) (h2 : ∀ d h, (∀ t, d ≠ .str t) → rcv m d h = .no) (σ : Sl) (p : D × Hd) : m1K m fa σ p = onS (fun t h => vl (fa σ h) >>= fun q => rv (m1D m (.str t) q.1 q.2)) p := by
  obtain ⟨d, h⟩ := p
  unfold m1K onS
  cases d with
  | str t => dsimp only; rw [h1]; rfl
  | _ => dsimp only; rw [h2 _ _ (fun k e => by cases e)]; rfl
theorem de_split (hs : isStar a = false) (hab : abOk o = true) (hline : (apos.endLine == pos.line) = true) (ho : PE X o (tR G W fo)) (ha : PE X a (tR G W fa)) : PE X (.Call (.Attribute o "split" apos) [a] [] pos) (tR G W fun σ h => vl (fo σ h) >>= m1K .split fa σ) := by
  refine (de_sm1 PySem.F.slot_str_split PySem.F.type_str_split mt_split ru_split hs hab hline ho ha).imp fun σ H Q h => ?_
  have e : (fun σ h => vl (fo σ h) >>= m1K .split fa σ) = fun σ h => vl (fo σ h) >>= onS (fun t h => vl (fa σ h) >>= fun q => rv (m1D .split (.str t) q.1 q.2)) := by
    funext σ h
    congr 1
    funext p
    exact m1K_S (fun k h => rfl) (fun d h hd => by cases d <;> first | rfl | exact absurd rfl (hd _)) σ p
  rw [e] at h; exact h
theorem de_index (ok : Ok G X W) (hs : isStar a = false) (hab : abOk o = true) (hline : (apos.endLine == pos.line) = true) (ho : PE X o (tR G W fo)) (ha : PE X a (tR G W fa)) : PE X (.Call (.Attribute o "index" apos) [a] [] pos) (tR G W fun σ h => vl (fo σ h) >>= m1K .index fa σ) := by
  refine (de_lm1 PySem.F.slot_list_index PySem.F.type_list_index (mt_indexD ok.un) (ru_index ok.K) hs hab hline ho ha).two (de_sm1 PySem.F.slot_str_index PySem.F.type_str_index mt_sindex ru_sindex hs hab hline ho ha) fun σ H Q h => tR_or (fun σ p => ?_) h
  obtain ⟨d, h⟩ := p
  unfold m1K onL onS
  cases d with
  | ob k =>
    left
    dsimp only
    show (if (lstOf h (.ob k)).isSome then R.ok () else .no) >>= _ = _
    by_cases c : (lstOf h (.ob k)).isSome = true
    · rw [if_pos c, if_pos c]; rfl
    · rw [if_neg c, if_neg c]; rfl
  | str t => right; rfl
  | _ => left; rfl
theorem de_pop0 (hab : abOk o = true) (hline : (apos.endLine == pos.line) = true) (ho : PE X o (tR G W fo)) : PE X (.Call (.Attribute o "pop" apos) [] [] pos) (tR G W fun σ h => vl (fo σ h) >>= fun p => rv (m0D .pop p.1 p.2)) := by
  refine (de_lm0 PySem.F.slot_list_pop PySem.F.type_list_pop mt_pop ru_pop hab hline ho).imp fun σ H Q h => ?_
  have e : (fun σ h => vl (fo σ h) >>= fun p => rv (m0D .pop p.1 p.2)) = fun σ h => vl (fo σ h) >>= onL (fun i h => rv (m0D .pop (.ob i) h)) := by
    funext σ h
    congr 1
    funext p
    obtain ⟨d, h⟩ := p
    unfold onL
    cases d with
    | ob k =>
      dsimp only
      by_cases c : (lstOf h (.ob k)).isSome = true
      · rw [if_pos c]
      · rw [if_neg c]
        simp only [m0D]
        cases ek : h[k]? with
        | none => rfl
        | some ob =>
          cases ob with
          | lst xs => exact absurd (by simp [lstOf, ek]) c
          | _ => rfl
    | _ => rfl
  rw [e] at h; exact h
end
end Mp
set_option maxHeartbeats 1000000
/-! MiniPy, part 28: instances of the module's classes. -/
namespace Mp
open PySem PySem.Spec PyProof.Rows L2
/-- what the module's classes are -/
structure InsH (G : Gx) (C : Cl) (X : Cx) : Prop where
  fi : ∀ f g, G.fnm f = G.fnm g → f = g
  me : ∀ c m f, C.meth c m = some f → Cls X.K (G.cc c) ∧ Meth X.K (G.cc c) (G.fnm m) (G.fa f) ∧ ∃ k fd ps, FnOk X.prog X.w X.K X.mg X.base (L2.CX X.prog X.w) k (G.fa f) fd ps (spF G (C.call f)) ∧ Room (k + 1) X.A ∧ Binds X.K fd ps []
  na : ∀ c f, C.noat c f = true → Cls X.K (G.cc c) ∧ NoAttr X.K (G.cc c) (G.fnm f)
  ck : ∀ c' c, (C.meth c' 0).isSome = true → (C.meth c 0).isSome = true → Cls X.K (G.cc c') ∧ PySem.W.findIn X.K (.ref (G.cc c')) "__class__" = some (some (.builtin "object.__class__")) ∧ PySem.W.specialIn X.K (.builtin "object.__class__") "__get__" = some (some (.builtin "getset_descriptor.__get__")) ∧
    PySem.W.takesIn X.K (.builtin "object.__class__") = some true ∧ PySem.W.mroIn X.K (G.cc c') (.type "object") = some true ∧ PySem.W.kitOne X.K (.ref (G.cc c')) (.ref (G.cc c)) = some (decide (c' = c))
  kb : ∀ c T, (C.meth c 0).isSome = true → T ∈ ["NoneType", "bool", "int", "str", "list", "tuple"] → PySem.W.kitOne X.K (.type T) (.ref (G.cc c)) = some false
  q1 : G.fnm 1 = "__len__"
  q2 : G.fnm 2 = "__eq__"
  q3 : G.fnm 3 = "__str__"
  ne : ∀ c f, C.meth c 2 = some f → PySem.W.findIn X.K (.ref (G.cc c)) "__ne__" = some (some (.builtin "object.__ne__")) ∧ PySem.W.mroIn X.K (G.cc c) (.type "object") = some true
/-- .. of which the part that the classes' own text tells -/
structure InsK (G : Gx) (K : PySem.W.Frag) (meth : Nat → Nat → Option Nat) (noat : Nat → Nat → Bool) : Prop where
  fi : ∀ f g, G.fnm f = G.fnm g → f = g
  mm : ∀ c m f, meth c m = some f → Cls K (G.cc c) ∧ Meth K (G.cc c) (G.fnm m) (G.fa f)
  na : ∀ c f, noat c f = true → Cls K (G.cc c) ∧ NoAttr K (G.cc c) (G.fnm f)
  ck : ∀ c' c, (meth c' 0).isSome = true → (meth c 0).isSome = true → Cls K (G.cc c') ∧ PySem.W.findIn K (.ref (G.cc c')) "__class__" = some (some (.builtin "object.__class__")) ∧ PySem.W.specialIn K (.builtin "object.__class__") "__get__" = some (some (.builtin "getset_descriptor.__get__")) ∧
    PySem.W.takesIn K (.builtin "object.__class__") = some true ∧ PySem.W.mroIn K (G.cc c') (.type "object") = some true ∧ PySem.W.kitOne K (.ref (G.cc c')) (.ref (G.cc c)) = some (decide (c' = c))
  kb : ∀ c T, (meth c 0).isSome = true → T ∈ ["NoneType", "bool", "int", "str", "list", "tuple"] → PySem.W.kitOne K (.type T) (.ref (G.cc c)) = some false
  q1 : G.fnm 1 = "__len__"
  q2 : G.fnm 2 = "__eq__"
  q3 : G.fnm 3 = "__str__"
  ne : ∀ c f, meth c 2 = some f → PySem.W.findIn K (.ref (G.cc c)) "__ne__" = some (some (.builtin "object.__ne__")) ∧ PySem.W.mroIn K (G.cc c) (.type "object") = some true
theorem InsH.of {G : Gx} {C : Cl} {X : Cx} (k : InsK G X.K C.meth C.noat) (h : ∀ c m f, C.meth c m = some f → ∃ k fd ps, FnOk X.prog X.w X.K X.mg X.base (L2.CX X.prog X.w) k (G.fa f) fd ps (spF G (C.call f)) ∧ Room (k + 1) X.A ∧ Binds X.K fd ps []) : InsH G C X :=
  ⟨k.fi, fun c m f e => ⟨(k.mm c m f e).1, (k.mm c m f e).2, h c m f e⟩, k.na, k.ck, k.kb, k.q1, k.q2, k.q3, k.ne⟩
section
variable {G : Gx} {X : Cx} {W : WX} {C : Cl} {n : Nat} {α : Al} {H : Hp}
theorem RFs.look (fi : ∀ f g, G.fnm f = G.fnm g → f = g) {f : Nat} : ∀ {fs : List (Nat × D)} {gs : List (Str × V)}, RFs G n α H fs gs → match fs.lookup f with
    | some d => ∃ v, gs.lookup (G.fnm f) = some v ∧ RD G n α H d v
    | none => gs.lookup (G.fnm f) = none
  | [], gs, h => by obtain rfl : gs = [] := h; rfl
  | (g, d) :: r, gs, h => by
    obtain ⟨v, ws, rfl, r1, r2⟩ := h
    by_cases e : f = g
    · subst e
      simp only [List.lookup_cons_self]
      exact ⟨v, rfl, r1⟩
    · have e1 : (f == g) = false := by simpa using e
      have e2 : (G.fnm f == G.fnm g) = false := by
        have : ¬ G.fnm f = G.fnm g := fun q => e (fi _ _ q)
        simpa using this
      rw [List.lookup_cons, e1, List.lookup_cons, e2]
      exact RFs.look fi r2
theorem RFs.put (fi : ∀ f g, G.fnm f = G.fnm g → f = g) {f : Nat} {d : D} {v : V} (rv : RD G n α H d v) : ∀ {fs : List (Nat × D)} {gs : List (Str × V)}, RFs G n α H fs gs → RFs G n α H (fPut fs f d) (putF (G.fnm f) v gs)
  | [], gs, h => by obtain rfl : gs = [] := h; exact ⟨v, [], rfl, rv, rfl⟩
  | (g, x) :: r, gs, h => by
    obtain ⟨w, ws, rfl, r1, r2⟩ := h
    by_cases e : g = f
    · subst e
      simp only [fPut, putF, if_true]
      exact ⟨v, ws, rfl, rv, r2⟩
    · have : ¬ G.fnm g = G.fnm f := fun q => e (fi _ _ q)
      simp only [fPut, putF, if_neg e, if_neg this]
      exact ⟨w, _, rfl, r1, RFs.put fi rv r2⟩
theorem RFs.len : ∀ {fs : List (Nat × D)} {gs : List (Str × V)}, RFs G n α H fs gs → gs.length = fs.length
  | [], gs, h => by obtain rfl : gs = [] := h; rfl
  | (g, x) :: r, gs, h => by
    obtain ⟨w, ws, rfl, r1, r2⟩ := h
    simp [RFs.len r2]
/-- an instance of the heap -/
theorem insAt {hd : Hd} {k c : Nat} {fs : List (Nat × D)} (s : StR G α hd H) (e : hd[k]? = some (.ins c fs)) : ∃ dx gs, H (α k) = some (.ins (G.cc c) dx gs) ∧ RFs G hd.length α H fs gs := s.ob k _ e
variable {pos apos : Pos} {o e a : Expr} {es : List Expr} {fo fe : Sl → Hd → R (Rv × Hd)} {fs : Sl → Hd → R (List D × Hd)}
theorem de_fld {i : Nat} (ih : InsH G C X) (hab : abOk e = true) (he : PE X e (tR G W fe)) : PE X (.Attribute e (G.fnm i) pos) (tR G W fun σ h => vl (fe σ h) >>= fun p => fldD C p.1 i p.2 >>= fun d => .ok (.v d, p.2)) :=
  (pe_fld (pe_vl he) (attributeBase_ok hab _)).imp fun σ H Q ⟨α, σD, hd, s, l, z⟩ => by
    refine tX_bind (Rel := rD G) s l z fun x h1 α1 v H1 e x1 s1 l1 r1 z => ?_
    cases x with
    | ob k =>
      have r1' : RD G h1.length α1 H1 (.ob k) v := r1
      unfold RD at r1'
      obtain ⟨hk, rfl⟩ := r1'
      dsimp only [fldD] at z
      cases ek : h1[k]? with
      | none => rw [ek] at z; exact z.elim
      | some ob =>
        rw [ek] at z
        cases ob with
        | ins c gs =>
          dsimp only at z
          by_cases na : C.noat c i = true
          · rw [if_pos na] at z
            obtain ⟨dx, ws, e1, rf⟩ := insAt s1 ek
            obtain ⟨cl, no⟩ := ih.na c i na
            have lk := RFs.look ih.fi (f := i) rf
            cases el : gs.lookup i with
            | none => rw [el] at z; exact z.elim
            | some d =>
              rw [el] at z lk
              obtain ⟨w, ew, rw'⟩ := lk
              exact ⟨_, G.cc c, dx, ws, w, rfl, e1, cl, no, ew, Lnd.ok (Rel := rR G) (b := Rv.v d) z s1 rw'⟩
          · rw [if_neg na] at z; exact z.elim
        | _ => exact z.elim
    | _ => exact z.elim
theorem ds_setFld {i : Nat} {tpos : Pos} (ih : InsH G C X) (ho : PE X o (tR G W fo)) (he : PE X e (tR G W fe)) (hc : notComp e = true) :
    PS X (.Assign [.Attribute o (G.fnm i) tpos] e pos) (tS G W fun σ h => thenF σ (vl (fe σ h)) fun p => thenF σ (vl (fo σ p.2)) fun q => setFldF C σ q.1 i p.1 q.2) :=
  (ps_fld (pe_vl ho) (pe_vl he) (swaps_of hc)).imp fun D σ H ⟨α, σD, hd, s, l, z⟩ => by
    refine tX_then (Rel := rD G) s l z fun x h1 α1 v H1 e x1 s1 l1 r1 z => ?_
    refine tX_then (Rel := rD G) s1 l1 z fun y h2 α2 u H2 e x2 s2 l2 r2 z => ?_
    have r1' : RD G h2.length α2 H2 x v := RD.mono x2.toEy (fun i hi => s1.at_ hi) x v r1
    cases y with
    | ob k =>
      have r2' : RD G h2.length α2 H2 (.ob k) u := r2
      unfold RD at r2'
      obtain ⟨hk, rfl⟩ := r2'
      dsimp only [setFldF] at z
      cases ek : h2[k]? with
      | none => rw [ek] at z; exact z.elim
      | some ob =>
        rw [ek] at z
        cases ob with
        | ins c gs =>
          dsimp only at z
          by_cases na : (C.noat c i && decide (gs.length < 1000)) = true
          · rw [if_pos na] at z
            rw [Bool.and_eq_true, decide_eq_true_eq] at na
            obtain ⟨dx, ws, e1, rf⟩ := insAt s2 ek
            obtain ⟨cl, no⟩ := ih.na c i na.1
            refine ⟨_, G.cc c, dx, ws, rfl, e1, cl, no, by rw [rf.len]; exact na.2, ?_⟩
            have ez : Ez h2.length α2 H2 h2.length α2 (upd H2 (α2 k) (.ins (G.cc c) dx (putF (G.fnm i) v ws))) := Ez.bx e1 trivial
            have s4 := s2.write (o := .ins c (fPut gs i x)) (u := .ins (G.cc c) dx (putF (G.fnm i) v ws)) hk ⟨dx, _, upd_same, RFs.monoZ ez _ _ (RFs.put ih.fi r1' rf)⟩
            refine z α2 σ _ ?_ s4 ?_
            · rw [List.length_set]; exact Ex.write hk fun o u z => by rw [e1] at z; cases z
            · rw [List.length_set]; exact l2.monoZ ez
          · rw [if_neg na] at z; exact z.elim
        | _ => exact z.elim
    | _ => exact z.elim
/-! ### o.m(..) -/
theorem call_attr {prog : Program} {w : World} {A : Around} {E : Value → Shared → Prop} {s : Shared} {env : Env} {name : Str} {args : List Expr} {Q : Value → Shared → Prop}
    (hbase : attributeBase o name env (eval o env) = eval o env) (hfew : methodCallForm (args.length + ([] : List Keyword).length) (backTo pos (starEach args env)) (backToKw pos (keywordEach [] env)) = true) (hline : (apos.endLine == pos.line) = true)
    (h : wpAny (model prog w) A (eval o env) (fun ov s₁ => wpAny (model prog w) A (getMethod ov name (do return (← importBound o env).getD true)) (fun fx s₂ => wpAny (model prog w) A (callWith pos fx.1 fx.2 (backTo pos (starEach args env)) (backToKw pos (keywordEach [] env))) Q E s₂) E s₁) E s) :
    wpAny (model prog w) A (eval (.Call (.Attribute o name apos) args [] pos) env) Q E s := by
  have hpos : methodCallPos true o env apos pos = pure pos := by unfold methodCallPos; simp [hline]
  rw [arm_eval_Call, hbase]
  refine wpAny_bind (wpAny_mono h (fun ov s₁ h₁ => ?_) fun _ _ e => e)
  refine wpAny_bind (wpAny_standAt ?_)
  unfold methodCall
  rw [hfew]
  refine wpAny_bind (wpAny_holding ?_)
  unfold calleeOf
  rw [if_pos rfl]
  refine wpAny_mono h₁ (fun fx s₂ h₂ => ?_) fun _ _ e => e
  exact wpAny_bind (wpAny_of_eq hpos h₂)
theorem few_all {env : Env} (hs : es.all (fun e => !isStar e) = true) (hl : es.length < 30) : methodCallForm (es.length + ([] : List Keyword).length) (backTo pos (starEach es env)) (backToKw pos (keywordEach [] env)) = true := by
  have e : (backTo pos (starEach es env)).all (fun x => !x.1) = true := by
    have := noPlain (env := env) (pos := pos) hs
    rw [List.all_eq_not_any_not]
    simp only [Bool.not_not]
    rw [this]; rfl
  unfold methodCallForm
  rw [e]
  simp [backToKw, keywordEach]
  exact hl
/-- a method is run, its receiver ahead of the arguments -/
def tUm (X : Cx) (G : Gx) (C : Cl) (W : WX) (i : Nat) (ta : TE) (t : TA) : TE := fun σ H Q => ta σ H fun x H1 => ∃ a c dx fs g, x = .ref a ∧ H1 a = some (.ins (G.cc c) dx fs) ∧ C.meth c i = some g ∧ fs.lookup (G.fnm i) = none ∧ t σ H1 fun vs H2 => spF G (C.call g) (.ref a :: vs) H2 Q (WE W σ)
theorem pe_um1 {i : Nat} {ta : TE} {t : TA} (ok : Ok G X W) (ih : InsH G C X) (he : PE X o ta) (ha : PA X (a :: es) t) (hab : abOk o = true) (hs : (a :: es).all (fun e => !isStar e) = true) (hl : (a :: es).length < 30) (hline : (apos.endLine == pos.line) = true) :
    PE X (.Call (.Attribute o (G.fnm i) apos) (a :: es) [] pos) (tUm X G C W i ta t) := by
  refine ⟨fun pins s σ H Q I h => ?_⟩
  refine call_attr (attributeBase_ok hab _) (few_all hs hl) hline (thn (he.run pins s σ H _ I h) fun u s1 ⟨x, H1, I1, rx, ad, c, dx, gs, g, ex, ea, hg, hl, q⟩ => ?_)
  subst ex
  obtain rfl : u = Value.ref ad := rx
  obtain ⟨cl, me, k, fd, ps, F, hr, hb⟩ := ih.me c i g hg
  refine getmeth_ok I1 ea cl me hl ?_
  rw [List.all_cons, Bool.and_eq_true] at hs
  refine PySem.W.callWith_K (first := [.ref ad]) (h₀ := X.base) I.ok.mod.kin me.kp (thn (ha.run pos pins s1 σ H1 _ I1 q) fun us s2 ⟨vs, H2, I2, r, q2⟩ => ⟨I2.kIn, ?_⟩) (starEach_cons (by simpa using hs.1)) (noPlain hs.2)
  exact run_fnS (us := .ref ad :: us) (vs := .ref ad :: vs) (E := WE W) F (hr.mono (Nat.le_succ _)) hb (passAt ok.tk σ) I2 (.cons rfl r) q2
theorem pe_um0 {i : Nat} {ta : TE} (ok : Ok G X W) (ih : InsH G C X) (he : PE X o ta) (hab : abOk o = true) (hline : (apos.endLine == pos.line) = true) :
    PE X (.Call (.Attribute o (G.fnm i) apos) [] [] pos) (tUm X G C W i ta tNil) := by
  refine ⟨fun pins s σ H Q I h => ?_⟩
  refine call_attr (attributeBase_ok hab _) (few_all rfl (by simp)) hline (thn (he.run pins s σ H _ I h) fun u s1 ⟨x, H1, I1, rx, ad, c, dx, gs, g, ex, ea, hg, hl, q⟩ => ?_)
  subst ex
  obtain rfl : u = Value.ref ad := rx
  obtain ⟨cl, me, k, fd, ps, F, hr, hb⟩ := ih.me c i g hg
  refine getmeth_ok I1 ea cl me hl ?_
  exact PySem.W.callWith_K0 (first := [.ref ad]) I1.kIn me.kp (run_fnS (us := [.ref ad]) (vs := [.ref ad]) (E := WE W) F (hr.mono (Nat.le_succ _)) hb (passAt ok.tk σ) I1 (.cons rfl .nil) q)
theorem umQ_ok {i : Nat} {x : D} {h1 : Hd} {g : Nat} (e : umQ C i x h1 = .ok g) : ∃ k c gs, x = .ob k ∧ h1[k]? = some (.ins c gs) ∧ C.meth c i = some g ∧ gs.lookup i = none := by
  unfold umQ at e
  split at e
  · split at e
    · split at e
      · cases e; exact ⟨_, _, _, rfl, by assumption, by assumption, by assumption⟩
      · cases e
    · cases e
  · cases e
theorem umQ_nx {i : Nat} {x : D} {h1 h' : Hd} {c : Nat} : umQ C i x h1 ≠ .ex c h' := by
  unfold umQ
  repeat' split
  all_goals (intro e; cases e)
theorem tUm_of {i : Nat} (ih : InsH G C X) {σ : L2.St} {H : Hp} {Q : VK} (h : tR G W (fun σ h => vl (fo σ h) >>= fun p => umQ C i p.1 p.2 >>= fun g => fs σ p.2 >>= fun q => rv (C.call g (p.1 :: q.1) q.2)) σ H Q) : tUm X G C W i (tE G W fun σ h => vl (fo σ h)) (tEs G W fs) σ H Q := by
  obtain ⟨α, σD, hd, s, l, z⟩ := h
  refine tX_bind (Rel := rD G) s l z fun x h1 α1 v H1 e x1 s1 l1 r1 z => ?_
  dsimp only at z
  cases eg : umQ C i x h1 with
  | no => rw [eg] at z; exact z.elim
  | ex c h' => exact absurd eg umQ_nx
  | ok g =>
    rw [eg] at z
    obtain ⟨k, c, gs, rfl, ek, em, el⟩ := umQ_ok eg
    have r1' : RD G h1.length α1 H1 (.ob k) v := r1
    unfold RD at r1'
    obtain ⟨hk, rfl⟩ := r1'
    obtain ⟨dx, ws, e1, rf⟩ := insAt s1 ek
    have lk := RFs.look ih.fi (f := i) rf
    rw [el] at lk
    refine ⟨_, c, dx, ws, g, rfl, e1, em, lk, ?_⟩
    have z' : Lnd G (rR G) (fun c d H1 => W c d σ H1) h1.length α1 H1 Q (fs σD h1 >>= fun q => rv (C.call g (.ob k :: q.1) q.2)) := z
    refine tX_bind (Rel := rDs G) s1 l1 z' fun ds h2 α2 vs H2 e x2 s2 l2 r2 z => ?_
    exact ⟨α2, h2, .ob k :: ds, s2, .cons (RD.mono x2.toEy (fun i hi => s1.at_ hi) (.ob k) _ (by unfold RD; exact ⟨hk, rfl⟩)) r2, z.rv⟩
theorem de_um1 {i : Nat} (ok : Ok G X W) (ih : InsH G C X) (ho : PE X o (tR G W fo)) (ha : PA X (a :: es) (tEs G W fs)) (hab : abOk o = true) (hs : (a :: es).all (fun e => !isStar e) = true) (hl : (a :: es).length < 30) (hline : (apos.endLine == pos.line) = true) :
    PE X (.Call (.Attribute o (G.fnm i) apos) (a :: es) [] pos) (tR G W fun σ h => vl (fo σ h) >>= fun p => umQ C i p.1 p.2 >>= fun g => fs σ p.2 >>= fun q => rv (C.call g (p.1 :: q.1) q.2)) :=
  (pe_um1 ok ih (pe_vl ho) ha hab hs hl hline).imp fun σ H Q h => tUm_of ih h
theorem de_um0 {i : Nat} (ok : Ok G X W) (ih : InsH G C X) (ho : PE X o (tR G W fo)) (hab : abOk o = true) (hline : (apos.endLine == pos.line) = true) :
    PE X (.Call (.Attribute o (G.fnm i) apos) [] [] pos) (tR G W fun σ h => vl (fo σ h) >>= fun p => umQ C i p.1 p.2 >>= fun g => (R.ok ([], p.2) : R (List D × Hd)) >>= fun q => rv (C.call g (p.1 :: q.1) q.2)) :=
  (pe_um0 ok ih (pe_vl ho) hab hline).imp fun σ H Q h => by
    have h1 := tUm_of (fs := fun _ h => .ok ([], h)) ih h
    obtain ⟨α, σD, hd, s, l, z⟩ := h1
    refine ⟨α, σD, hd, s, l, ?_⟩
    revert z
    show Lnd G (rD G) _ _ _ _ _ (vl (fo σD hd)) → Lnd G (rD G) _ _ _ _ _ (vl (fo σD hd))
    cases vl (fo σD hd) with
    | no => exact fun z => z
    | ex c h1 => exact fun z => z
    | ok p =>
      intro z α1 v H1 x s1 r
      obtain ⟨ad, c, dx, gs, g, e1, e2, e3, e4, q⟩ := z α1 v H1 x s1 r
      refine ⟨ad, c, dx, gs, g, e1, e2, e3, e4, ?_⟩
      obtain ⟨α2, σ2, h2, s2, l2, z2⟩ := q
      exact z2 α2 [] H1 Ex.refl s2 .nil
/-! ### c(..) -/
theorem run_makeS {k : Nat} {C0 f : Addr} {fd : FuncData} {ps : List Str} {sp : Sp} {E : XK} {pins : List (Addr × Obj)} {σ : L2.St} {H : Hp} {s : Shared} {Q : VK} {us : List Value} {vs : List V} (M : Mk X.K C0 f) (F : FnOk X.prog X.w X.K X.mg X.base (L2.CX X.prog X.w) k f fd ps sp) (hr : Room (k + 1) X.A) (hb : Binds X.K fd ps [])
    (hx : PassesAt (L2.CX X.prog X.w) X σ E) (I : Inv X pins σ H s) (r : Vals vs us)
    (h : ∀ x dx, H x = none → H dx = none → dx ≠ x → sp (.ref x :: vs) (upd (upd H dx (.own x)) x (.ins C0 dx [])) (fun v H2 => v = .non ∧ Q (.ref x) H2) E) :
    wpAny (model X.prog X.w) X.A (call (.ref C0) us) (EP X pins σ Q) X.xe s := by
  have q0 := h (s.heap.objs.size + 1) s.heap.objs.size (I.hok.fresh (Nat.le_succ _)) (I.hok.fresh (Nat.le_refl _)) (Nat.ne_of_lt (Nat.lt_succ_self _))
  have I2 := Inv.made (C := C0) I
  have rv : Vals (V.ref (s.heap.objs.size + 1) :: vs) (Value.ref (s.heap.objs.size + 1) :: us) := .cons rfl r
  have ln : (Value.ref (s.heap.objs.size + 1) :: us ++ []).length = ps.length := by
    rw [List.append_nil, ← rv.length]
    exact F.len _ _ _ _ q0
  have b := hb _ (Value.ref (s.heap.objs.size + 1) :: us) I2.kIn ln
  rw [List.append_nil] at b
  refine wpAny_call (make_map (f := f) I.kIn M.makes M.init (beq_iff_eq.mp M.fn) (codeAny_mono (F.run _ X.stack _ _ ⟨Value.ref (s.heap.objs.size + 1) :: us, []⟩ (Value.ref (s.heap.objs.size + 1) :: us) _ _ E (hr.make C0 us []) (I2.env0.make C0 us []) b rv q0) fun rr s' hq => ?_))
  match rr, hq with
  | .error e, hq => exact hx pins _ _ e s' I2 hq
  | .ok (.ret u), hq =>
    obtain ⟨v, H', I3, r3, ev, q3⟩ := I2.after hq
    subst ev
    exact ⟨r3, ⟨V.ref (s.heap.objs.size + 1), H', I3, rfl, q3⟩⟩
  | .ok .next, hq => exact hq.elim
  | .ok .brk, hq => exact hq.elim
  | .ok .cont, hq => exact hq.elim
/-- an instance is made -/
def tMk (G : Gx) (C : Cl) (W : WX) (c f : Nat) (t : TA) : TE := fun σ H Q => t σ H fun vs H1 => ∀ x dx, H1 x = none → H1 dx = none → dx ≠ x → spF G (C.call f) (.ref x :: vs) (upd (upd H1 dx (.own x)) x (.ins (G.cc c) dx [])) (fun v H2 => v = .non ∧ Q (.ref x) H2) (WE W σ)
theorem pe_mk1 {x : Str} {p : Pos} {c f : Nat} {t : TA} (ok : Ok G X W) (ih : InsH G C X) (hf : C.meth c 0 = some f) (mk : Mk X.K (G.cc c) (G.fa f)) (gl : Gl X x) (hm : X.mg x = some (.ref (G.cc c))) (hd : (x == ("__debug__" : Str)) = false) (ha : PA X (a :: es) t) (hs : (a :: es).all (fun e => !isStar e) = true) : PE X (.Call (.Name x p) (a :: es) [] pos) (tMk G C W c f t) := by
  obtain ⟨_, _, k, fd, ps, F, hr, hb⟩ := ih.me c 0 f hf
  rw [List.all_cons, Bool.and_eq_true] at hs
  refine ⟨fun pins s σ H Q I h => wpAny_Call_Name_kw (ld_glob I gl hm ?_ hd)⟩
  refine PySem.W.callWith_K (h₀ := X.base) I.ok.mod.kin mk.kp (thn (ha.run pos pins s σ H _ I h) fun us s1 ⟨vs, H1, I1, r, q⟩ => ⟨I1.kIn, ?_⟩) (starEach_cons (by simpa using hs.1)) (noPlain hs.2)
  exact run_makeS mk F hr hb (passAt ok.tk σ) I1 r q
theorem tMk_of {c f : Nat} (hf : C.meth c 0 = some f) {σ : L2.St} {H : Hp} {Q : VK} (h : tR G W (fun σ h => fs σ h >>= fun p => rv (mkD C c p.1 p.2)) σ H Q) : tMk G C W c f (tEs G W fs) σ H Q := by
  obtain ⟨α, σD, hd, s, l, z⟩ := h
  refine tX_bind (Rel := rDs G) s l z fun ds h1 α1 vs H1 e x1 s1 l1 r1 z => ?_
  have z1 := z.rv
  unfold mkD at z1
  rw [hf] at z1
  have z2 : Lnd G (rD G) (fun c d H1 => W c d σ H1) h1.length α1 H1 Q (C.call f (.ob h1.length :: ds) (h1 ++ [.ins c []]) >>= fun p => if p.1 = .non then .ok (.ob h1.length, p.2) else .no) := z1
  intro x dx hx hdx hne
  have h2 : upd H1 dx (.own x) x = none := by rw [upd_ne (Ne.symm hne)]; exact hx
  have s2 := s1.other (o := .own x) hdx
  have x2 : Ex h1.length α1 H1 h1.length α1 (upd H1 dx (.own x)) := Ex.other hdx
  have s3 := s2.other (o := .ins (G.cc c) dx []) h2
  have x3 : Ex h1.length α1 H1 h1.length α1 (upd (upd H1 dx (.own x)) x (.ins (G.cc c) dx [])) := x2.trans s2.there (Ex.other h2)
  have na : ∀ i, i < h1.length → α1 i ≠ x := fun i hi q => by
    obtain ⟨o, e, _⟩ := s1.at_ hi
    rw [q, hx] at e; cases e
  obtain ⟨s4, y4⟩ := s3.adopt (o := .ins c []) na ⟨dx, [], upd_same, rfl⟩
  have x4 : Ex h1.length α1 H1 (h1 ++ [Ob.ins c []]).length (alUp α1 h1.length x) (upd (upd H1 dx (.own x)) x (.ins (G.cc c) dx [])) := by
    rw [List.length_append, List.length_singleton]; exact x3.adopt hx
  have r4 : RDs G (h1 ++ [Ob.ins c []]).length (alUp α1 h1.length x) (upd (upd H1 dx (.own x)) x (.ins (G.cc c) dx [])) (.ob h1.length :: ds) (.ref x :: vs) := by
    rw [List.length_append, List.length_singleton]
    refine .cons (by unfold RD; exact ⟨Nat.lt_succ_self _, by rw [alUp_eq]⟩) ?_
    exact RDs.mono y4 (fun i hi => s3.at_ hi) _ _ (RDs.mono x3.toEy (fun i hi => s1.at_ hi) _ _ r1)
  refine ⟨alUp α1 h1.length x, h1 ++ [.ins c []], .ob h1.length :: ds, s4, r4, ?_⟩
  have hlt : h1.length < (h1 ++ [Ob.ins c []]).length := by simp
  cases ec : C.call f (.ob h1.length :: ds) (h1 ++ [.ins c []]) with
  | no => rw [ec] at z2; exact z2.elim
  | ex k h' => rw [ec] at z2; exact fun α5 H5 x5 s5 => z2 α5 H5 (x4.trans s4.there x5) s5
  | ok p =>
    obtain ⟨d, h'⟩ := p
    rw [ec] at z2
    intro α5 v H5 x5 s5 r5
    by_cases hn : d = .non
    · subst hn
      have z3 : Lnd G (rD G) (fun c d H1 => W c d σ H1) h1.length α1 H1 Q (.ok (.ob h1.length, h')) := z2
      refine ⟨by have : RD G h'.length α5 H5 .non v := r5; unfold RD at this; exact this, z3 α5 (.ref x) H5 (x4.trans s4.there x5) s5 ?_⟩
      show RD G _ _ _ (.ob h1.length) _
      unfold RD
      exact ⟨Nat.lt_of_lt_of_le hlt x5.le, by rw [x5.al _ hlt, alUp_eq]⟩
    · have z3 : Lnd G (rD G) (fun c d H1 => W c d σ H1) h1.length α1 H1 Q (if d = .non then .ok (.ob h1.length, h') else .no) := z2
      rw [if_neg hn] at z3; exact z3.elim
theorem de_mk1 {x : Str} {p : Pos} {c f : Nat} (ok : Ok G X W) (ih : InsH G C X) (hf : C.meth c 0 = some f) (mk : Mk X.K (G.cc c) (G.fa f)) (gl : Gl X x) (hm : X.mg x = some (.ref (G.cc c))) (hd : (x == ("__debug__" : Str)) = false) (ha : PA X (a :: es) (tEs G W fs)) (hs : (a :: es).all (fun e => !isStar e) = true) : PE X (.Call (.Name x p) (a :: es) [] pos) (tR G W fun σ h => fs σ h >>= fun p => rv (mkD C c p.1 p.2)) :=
  (pe_mk1 ok ih hf mk gl hm hd ha hs).imp fun σ H Q h => tMk_of hf h
end
end Mp
set_option maxHeartbeats 1000000
/-! MiniPy, part 29: == and != by a class's own __eq__. -/
namespace Mp
open PySem PySem.Spec PyProof.Rows L2
section
variable {M : Model} {prog : Program} {w : World} {A : Around} {E : Value → Shared → Prop} {s : Shared} {K : PySem.W.Frag} {x C f : Addr} {ox : Obj} {od : Option Obj} {b tb : Value}
theorem ifBound_ne {args : List Value} {Q : Option Value → Shared → Prop} (X : K.In s.heap) (I : PySem.W.InstAt s.heap x ox C od) (hs : PySem.W.findIn K (.ref C) "__ne__" = some (some (.builtin "object.__ne__")))
    (h : wpAny M A (call (.builtin "object.__ne__") (.ref x :: args)) (fun v => Q (some v)) E s) : wpAny M A (callSpecialIfBound? (.ref x) "__ne__" args) Q E s := by
  simp only [callSpecialIfBound?, bindSpecialIfBound?]
  refine wpAny_holding (wpAny_bind (wpAny_bind (wpAny_bind (I.type.here ((PySem.W.looks_findIn X hs).here ?_)))))
  refine wpAny_bind (wpAny_askSetting (wpAny_ite ?_))
  have go : wpAny M A (call (.builtin "object.__ne__") ([.ref x] ++ args) >>= fun v => pure (some v)) Q E s := wpAny_bind (wpAny_mono h (fun _ _ z => wpAny_pure z) fun _ _ z => z)
  split
  · exact wpAny_bind (wpAny_of_eq (F.cmp_object.ne.bind _) (wpAny_pure (by exact go)))
  · exact wpAny_tryCatch (wpAny_bind (wpAny_of_eq (F.cmp_object.ne.bind _) (wpAny_pure (by exact go))))
theorem entry_ne {Q : Fin → Shared → Prop} (hu : A.units < cLine) (X : K.In s.heap) (I : PySem.W.InstAt s.heap x ox C od) (hs : PySem.W.findIn K (.ref C) "__eq__" = some (some (.ref f))) (hf : PySem.W.isFn K (.ref f) = true)
    (h : wpAny M A (call (.ref f) [.ref x, b]) (fun v s' => ∃ r, v = .bool r ∧ Q (.done (.ret (.bool (!r)))) s') E s) : wpAny M A (Builtin.«object.__ne__» ⟨[.ref x, b], []⟩) Q E s := by
  unfold Builtin.«object.__ne__»
  repeat (first
    | with_reducible refine wpAny_cRoomFor hu ?_
    | (refine wpAny_bind (m := callSpecialIfBound? (.ref x) (Str.ofString "__eq__") [b])
        (PySem.W.ifBound_K X I hs hf (wpAny_mono h (fun r s' hr => by
          obtain ⟨d, rfl, hq⟩ := hr
          repeat (first | exact hq | exact wpAny_pure hq | exact wpAny_truthy_bool hq | (refine wpAny_bind (m := truthy (.bool _)) (wpAny_truthy_bool ?_)) | wp_step)) fun _ _ e => e)))
    | wp_step)
theorem ne_K {Q : Value → Shared → Prop} (hu : A.units + 1 < cLine) (X : K.In s.heap) (I : PySem.W.InstAt s.heap x ox C od) (hb : PySem.W.Looks (model prog w) s.heap (typeOf b) tb) (hn : PySem.W.notFirst K C tb = true)
    (hne : PySem.W.findIn K (.ref C) "__ne__" = some (some (.builtin "object.__ne__"))) (hmo : PySem.W.mroIn K C (.type "object") = some true) (hs : PySem.W.findIn K (.ref C) "__eq__" = some (some (.ref f))) (hf : PySem.W.isFn K (.ref f) = true)
    (h : wpAny (model prog w) A.in1 (call (.ref f) [.ref x, b]) (fun v s' => ∃ r, v = .bool r ∧ Q (.bool (!r)) s') E s) : wpAny (model prog w) A (richCompare .NotEq (.ref x) b) Q E s := by
  have one : wpAny (model prog w) A (tryCompare (.ref x) "__ne__" b) (fun r s' => ∃ d, r = some (.bool d) ∧ Q (.bool d) s') E s := by
    unfold tryCompare
    refine wpAny_bind (ifBound_ne X I hne (wpAny_call (codeAny_call_builtin F.cmp_object.ne.plain F.cmpEntry_ne (PySem.W.check_slot F.cmpKind_ne F.cmpSplit_ne (I.type.andThen (PySem.W.looks_mroIn X hmo)) (F.cmpArgs_ne _ _) (entry_ne (A := A.in1) hu X I hs hf (wpAny_mono h (fun v s' hv => ?_) fun _ _ e => e))))))
    obtain ⟨d, rfl, hq⟩ := hv
    first | exact ⟨d, rfl, wpAny_pure ⟨!d, rfl, hq⟩⟩ | exact ⟨d, rfl, ⟨!d, rfl, hq⟩⟩
  unfold richCompare
  simp only [oneThing_ref]
  refine wpAny_holding (wpAny_bind (wpAny_cRoomFor (Nat.lt_of_succ_lt hu) ?_))
  rw [cmpInfo_NotEq]
  dsimp only
  refine wpAny_bind (I.type.here (wpAny_bind (hb.here ?_)))
  split
  · rename_i q
    have e : PySem.W.subIn K tb (.ref C) = some false := by
      rcases Bool.or_eq_true_iff.mp hn with e | e
      · rw [beq_iff_eq.mp e] at q; simp at q
      · exact beq_iff_eq.mp e
    refine wpAny_bind ((PySem.W.looks_subIn X e).here ?_)
    simp only [Bool.false_eq_true, if_false]
    refine wpAny_bind (wpAny_mono one (fun r s' z => ?_) fun _ _ e => e)
    obtain ⟨v, rfl, hq⟩ := z
    exact wpAny_pure hq
  · refine wpAny_bind (wpAny_pure ?_)
    simp only [Bool.false_eq_true, if_false]
    refine wpAny_bind (wpAny_mono one (fun r s' z => ?_) fun _ _ e => e)
    obtain ⟨v, rfl, hq⟩ := z
    exact wpAny_pure hq
end
end Mp
set_option maxHeartbeats 1000000
/-! MiniPy, part 30: comparisons. -/
namespace Mp
open PySem PySem.Spec PyProof.Rows L2
section
variable {X : Cx}
theorem noCXs {P : Program} {w : World} {st : List Env} {H : Hp} {s : Shared} {e : Value} {s' : Shared} (h : L2.CX P w st H s (fun _ _ _ => False) e s') : False := by
  obtain ⟨_, _, _, _, _, _, _, _, _, _, _, _, z⟩ := h
  exact z
/-- a def of the module is run in A, no exception told -/
theorem run_own {A : Around} {k : Nat} {f : Addr} {fd : FuncData} {ps : List Str} {sp : Sp} {pins : List (Addr × Obj)} {σ : L2.St} {H : Hp} {s : Shared} {Q : VK} {us : List Value} {vs : List V} {Ex : Value → Shared → Prop} (fr : A.frames = X.A.frames) (F : FnOk X.prog X.w X.K X.mg X.base (L2.CX X.prog X.w) k f fd ps sp) (hr : Room k A) (hb : Binds X.K fd ps [])
    (I : Inv X pins σ H s) (r : Vals vs us) (h : sp vs H Q fun _ _ _ => False) : wpAny (model X.prog X.w) A (call (.ref f) us) (fun w s' => ∃ z H', RelV z w ∧ Inv X pins σ H' s' ∧ Q z H') Ex s := by
  have e0 : Env0 X.prog X.w X.K X.mg X.base A X.stack s H := by
    have e := I.env0
    exact ⟨by rw [fr]; exact e.frames, e.mod, e.bs, e.bsz, e.funs, e.frf, e.hok, e.bare⟩
  have ln : (us ++ []).length = ps.length := by rw [List.append_nil, ← r.length]; exact F.len _ _ _ _ h
  have b := hb s us I.kIn ln
  rw [List.append_nil] at b
  refine wpAny_call (codeAny_mono (F.run A X.stack s H ⟨us, []⟩ us vs Q (fun _ _ _ => False) hr e0 b r h) fun rr s' hq => ?_)
  match rr, hq with
  | .error e, hq => exact (noCXs hq).elim
  | .ok (.ret u), hq =>
    obtain ⟨z, H', I3, r3, q3⟩ := I.after hq
    exact ⟨z, H', r3, I3, q3⟩
  | .ok .next, hq => exact hq.elim
  | .ok .brk, hq => exact hq.elim
  | .ok .cont, hq => exact hq.elim
end
section
variable {G : Gx} {X : Cx} {W : WX} {C : Cl} {pos : Pos} {a b : Expr} {fa fb : Sl → Hd → R (Rv × Hd)}
/-- what cmpC is, by cases -/
theorem cmpC_cases {op : Cop} {d e : D} {h : Hd} {p : D × Hd} (q : cmpC C op d e h = .ok p) : (∃ r, cmpD op d e h = .ok r ∧ p = (.bl r, h)) ∨
    (op = .in_ ∧ ∃ k lk kvs, dctOf h e = some (k, lk, kvs) ∧ likeKs kvs d = true ∧ p = (.bl (dGet kvs d).isSome, h)) ∨
    (op = .notin ∧ ∃ k lk kvs, dctOf h e = some (k, lk, kvs) ∧ likeKs kvs d = true ∧ p = (.bl (!(dGet kvs d).isSome), h)) ∨
    (∃ f r h', eqO C d h = some f ∧ eqB d e h = true ∧ C.call f [d, e] h = .ok (.bl r, h') ∧ ((op = .eq ∧ p = (.bl r, h')) ∨ (op = .ne ∧ p = (.bl (!r), h')))) := by
  unfold cmpC at q
  split at q
  · rename_i f ef
    split at q
    · rename_i cb
      unfold blR at q
      split at q
      · rename_i r h' ec; cases q; exact .inr (.inr (.inr ⟨f, r, h', ef, cb, ec, .inl ⟨rfl, rfl⟩⟩))
      · cases q
    · cases q
  · rename_i f ef
    split at q
    · rename_i cb
      unfold blR at q
      split at q
      · rename_i r h' ec; cases q; exact .inr (.inr (.inr ⟨f, r, h', ef, cb, ec, .inr ⟨rfl, rfl⟩⟩))
      · cases q
    · cases q
  · split at q
    · rename_i k lk kvs e1
      split at q
      · rename_i c; cases q; exact .inr (.inl ⟨rfl, k, lk, kvs, e1, c, rfl⟩)
      · cases q
    · exact .inl (cmp_pl q)
  · split at q
    · rename_i k lk kvs e1
      split at q
      · rename_i c; cases q; exact .inr (.inr (.inl ⟨rfl, k, lk, kvs, e1, c, rfl⟩))
      · cases q
    · exact .inl (cmp_pl q)
  · exact .inl (cmp_pl q)
theorem sub_bi {K : PySem.W.Frag} {C0 : Addr} {T : String} {l : List Value} (e : fastBuiltinMro T = some l) (h : l.contains (.ref C0) = false) : PySem.W.subIn K (.type T) (.ref C0) = some false := by
  show (fastBuiltinMro T).map (·.contains (.ref C0)) = some false
  rw [e]
  simp only [Option.map_some, h]
theorem not_tup {K : PySem.W.Frag} {C0 : Addr} : PySem.W.notFirst K C0 (.type "tuple") = true := by
  unfold PySem.W.notFirst
  rw [sub_bi (l := [.type "tuple", .type "object"]) (by decide +kernel) (by simp)]
  simp
theorem not_str {K : PySem.W.Frag} {C0 : Addr} : PySem.W.notFirst K C0 (.type "str") = true := by
  unfold PySem.W.notFirst
  rw [sub_bi (l := [.type "str", .type "object"]) (by decide +kernel) (by simp)]
  simp
theorem eqO_at {d : D} {h : Hd} {f : Nat} (e : eqO C d h = some f) : ∃ i c gs, d = .ob i ∧ h[i]? = some (.ins c gs) ∧ C.meth c 2 = some f := by
  unfold eqO at e
  split at e
  · split at e
    · exact ⟨_, _, _, rfl, by assumption, e⟩
    · cases e
  · cases e
/-- the type of what an own == is asked of -/
theorem eqB_ty {pins : List (Addr × Obj)} {σ : L2.St} {H : Hp} {s : Shared} {α : Al} {hd : Hd} {i c : Nat} {gs : List (Nat × D)} {e : D} {y : V} {u : Value} (hK : X.K = G.K) (I : Inv X pins σ H s) (st : StR G α hd H) (ei : hd[i]? = some (.ins c gs)) (re : RD G hd.length α H e y) (ry : RelV y u) (hb : eqB (.ob i) e hd = true) :
    ∃ tb, PySem.W.Looks (model X.prog X.w) s.heap (typeOf u) tb ∧ PySem.W.notFirst X.K (G.cc c) tb = true := by
  cases e with
  | tup ys =>
    unfold RD at re
    obtain ⟨p, vs, rfl, hs, _⟩ := re
    obtain rfl : u = .ref p := ry
    obtain ⟨its, rv, pl, _⟩ := I.tuple (hK ▸ hs)
    obtain ⟨o, ho, hc, _⟩ := pl
    exact ⟨.type "tuple", fun A Q E k kp q => wpAny_typeOf_ref (kp _ _ ho) (by rw [hc]; exact q), not_tup⟩
  | str t =>
    unfold RD at re
    subst re
    obtain ⟨tk, rfl⟩ := ry
    exact ⟨.type "str", fun A Q E k kp q => wpAny_typeOf (typeIs_str _ _ _) q, not_str⟩
  | ob k =>
    unfold RD at re
    obtain ⟨hk, rfl⟩ := re
    obtain rfl : u = .ref (α k) := ry
    simp only [eqB, ei] at hb
    cases ek : hd[k]? with
    | none => rw [ek] at hb; cases hb
    | some ob =>
      rw [ek] at hb
      cases ob with
      | ins c' gs' =>
        have hc : c = c' := of_decide_eq_true hb
        subst hc
        obtain ⟨dx, ws, e1, _⟩ := insAt st ek
        obtain ⟨mB, J, _⟩ := ins_get I.hok e1
        obtain ⟨od, J, _⟩ := J.look
        exact ⟨.ref (G.cc c), J.type, by simp [PySem.W.notFirst]⟩
      | _ => cases hb
  | _ => cases hb
theorem c_opC (ih : InsH G C X) (hK : X.K = G.K) (hw : X.w = G.w) (hu : X.A.units + 65 < cLine) (op : Cop) : OpR X (compareOp (cOf op)) (rcC G C op) := by
  intro pins s σ H x y v u Q I rx ry ⟨α, hd, d, e, p, st, rd, re, q, f⟩
  rcases cmpC_cases q with ⟨r, hr, rfl⟩ | ⟨rfl, k, lk, kvs, e1, c, rfl⟩ | ⟨rfl, k, lk, kvs, e1, c, rfl⟩ | ⟨g, r, h', eo, hb, ec, hop⟩
  · exact c_op hK hu op pins s σ H x y v u Q I rx ry ⟨α, hd, d, e, r, st, rd, re, hr, f α (.bl r) H Ex.refl st dBl⟩
  · obtain ⟨rfl, ek⟩ := dctOf_at e1
    unfold RD at re
    obtain ⟨hk, rfl⟩ := re
    obtain rfl : u = .ref (α k) := ry
    exact dv_in I hK hw (show X.A.units + 64 < cLine by omega) (st.ob k _ ek) rd rx c fun s' I' => ⟨.bl (dGet kvs d).isSome, H, I', rfl, f α _ H Ex.refl st dBl⟩
  · obtain ⟨rfl, ek⟩ := dctOf_at e1
    unfold RD at re
    obtain ⟨hk, rfl⟩ := re
    obtain rfl : u = .ref (α k) := ry
    exact dv_notin I hK hw (show X.A.units + 64 < cLine by omega) (st.ob k _ ek) rd rx c fun s' I' => ⟨.bl (!(dGet kvs d).isSome), H, I', rfl, f α _ H Ex.refl st dBl⟩
  · obtain ⟨i, c, gs, rfl, ei, em⟩ := eqO_at eo
    obtain ⟨cl, me, k, fd, ps, F, hr, hbn⟩ := ih.me c 2 g em
    obtain ⟨hne, hmo⟩ := ih.ne c g em
    have at_ := me.at_
    rw [ih.q2] at at_
    obtain ⟨tb, hty, hnf⟩ := eqB_ty hK I st ei re ry hb
    have rd0 := rd
    unfold RD at rd
    obtain ⟨hi, rfl⟩ := rd
    obtain rfl : v = .ref (α i) := rx
    obtain ⟨dx, ws, e1, _⟩ := insAt st ei
    obtain ⟨mA, J, _⟩ := ins_get I.hok e1
    obtain ⟨od, J, _⟩ := J.look
    have sp : spF G (C.call g) [.ref (α i), y] H (fun z H' => z = .bl r ∧ ∃ α1, Ex hd.length α H h'.length α1 H' ∧ StR G α1 h' H') fun _ _ _ => False := by
      refine ⟨α, hd, [.ob i, e], st, .cons rd0 (.one re), ?_⟩
      rw [ec]
      exact fun α1 z H1 x1 s1 r1 => ⟨RDbl (show RD G h'.length α1 H1 (.bl r) z from r1), α1, x1, s1⟩
    have vals : Vals [V.ref (α i), y] [Value.ref (α i), u] := .cons rfl (.cons ry .nil)
    rcases hop with ⟨rfl, rfl⟩ | ⟨rfl, rfl⟩
    · obtain ⟨m, hF⟩ := I.fr
      show wpAny (model X.prog X.w) X.A (richCompare .Eq (.ref (α i)) u) (EP X pins σ Q) X.xe s
      refine PySem.W.cmp_K (op := .Eq) (tb := tb) (by omega) hF I.ok.mod.kin J hty hnf at_ me.fn ?_
      refine wpAny_mono (run_own rfl F (hr.mono (Nat.le_succ _)) hbn I vals sp) (fun w s' ⟨z, H', rz, I', ez, α1, x1, s1⟩ => ?_) fun _ _ z => z
      subst ez
      cases rz
      exact ⟨.bl r, H', I', rfl, f α1 _ H' x1 s1 dBl⟩
    · show wpAny (model X.prog X.w) X.A (richCompare .NotEq (.ref (α i)) u) (EP X pins σ Q) X.xe s
      refine ne_K (tb := tb) (by omega) I.kIn J hty hnf hne hmo at_ me.fn ?_
      refine wpAny_mono (run_own rfl F hr.in1 hbn I vals sp) (fun w s' ⟨z, H', rz, I', ez, α1, x1, s1⟩ => ?_) fun _ _ z => z
      subst ez
      cases rz
      exact ⟨r, rfl, .bl (!r), H', I', rfl, f α1 _ H' x1 s1 dBl⟩
theorem blR_nx {f : Bool → Bool} {r : R (D × Hd)} {c : Nat} {h' : Hd} : blR f r ≠ .ex c h' := by
  unfold blR
  split <;> (intro q; cases q)
theorem cmpC_nx (op : Cop) (d e : D) (h : Hd) (c : Nat) (h' : Hd) : cmpC C op d e h ≠ .ex c h' := by
  have pl : ∀ {op : Cop} {d e : D}, (cmpD op d e h >>= fun r => R.ok (D.bl r, h)) ≠ .ex c h' := fun {op d e} q => by
    cases e1 : cmpD op d e h with
    | no => rw [e1] at q; cases q
    | ex c h1 => exact cmpD_nx _ _ _ _ _ _ e1
    | ok r => rw [e1] at q; cases q
  unfold cmpC
  split
  · split
    · exact blR_nx
    · intro q; cases q
  · split
    · exact blR_nx
    · intro q; cases q
  · split
    · split <;> (intro q; cases q)
    · exact pl
  · split
    · split <;> (intro q; cases q)
    · exact pl
  · exact pl
theorem tCmpC_of {op : Cop} {σ : L2.St} {H : Hp} {Q : VK} (h : tR G W (fun σ h => vl (fa σ h) >>= fun p => vl (fb σ p.2) >>= fun q => rv (cmpC C op p.1 q.1 q.2)) σ H Q) :
    tOp (rcC G C op) (tE G W fun σ h => vl (fa σ h)) (tE G W fun σ h => vl (fb σ h)) σ H Q := by
  obtain ⟨α, σD, hd, s, l, z⟩ := h
  refine tX_bind (Rel := rD G) s l z fun x h1 α1 v H1 e x1 s1 l1 r z => ?_
  refine tX_bind (Rel := rD G) s1 l1 z fun y h2 α2 u H2 e x2 s2 l2 r2 z => ?_
  have z := z.rv
  cases eg : cmpC C op x y h2 with
  | no => rw [eg] at z; exact z.elim
  | ex c h' => exact absurd eg (cmpC_nx _ _ _ _ _ _)
  | ok p =>
    rw [eg] at z
    exact ⟨α2, h2, x, y, p, s2, RD.mono x2.toEy (fun i hi => s1.at_ hi) x v r, r2, eg, fun α3 w H3 x3 s3 r3 => z α3 w H3 x3 s3 r3⟩
theorem de_cmpC (ok : Ok G X W) (ih : InsH G C X) (op : Cop) (ha : PE X a (tR G W fa)) (hb : PE X b (tR G W fb)) (hm : notSet b = true) : PE X (.Compare a [cOf op] [b] pos) (tR G W fun σ h => vl (fa σ h) >>= fun p => vl (fb σ p.2) >>= fun q => rv (cmpC C op p.1 q.1 q.2)) :=
  (pe_cmpR (c_opC ih ok.K ok.w ok.un op) (pe_vl ha) (pe_vl hb) (noBehind hm)).imp fun σ H Q h => tCmpC_of h
theorem dt_cmpC (ok : Ok G X W) (ih : InsH G C X) (op : Cop) (ha : PE X a (tR G W fa)) (hb : PE X b (tR G W fb)) (hm : notSet b = true) : PT X (.Compare a [cOf op] [b] pos) (tT G W fun σ h => ts (vl (fa σ h) >>= fun p => vl (fb σ p.2) >>= fun q => rv (cmpC C op p.1 q.1 q.2))) :=
  (pt_cmpR (c_opC (C := C) ih ok.K ok.w ok.un op) (pe_vl ha) (pe_vl hb) (noBehind hm)).imp fun σ H Q h => tTest_of (fun σ H Q => tCmpC_of) h
end
end Mp
set_option maxHeartbeats 1000000
/-! MiniPy, part 31: isinstance with a class of the module's own. -/
namespace Mp
open PySem PySem.Spec PyProof.Rows L2
section
variable {G : Gx} {X : Cx} {W : WX} {C : Cl} {pos p p2 : Pos} {a : Expr} {fa : Sl → Hd → R (Rv × Hd)}
def rIsC (G : Gx) (C : Cl) (c : Nat) : List V → Hp → VK → Prop := fun xs H Q => ∃ x y α hd d b, xs = [x, y] ∧ (∀ u, RelV y u → u = .ref (G.cc c)) ∧ StR G α hd H ∧ RD G hd.length α H d x ∧ isiD C [.cls c] d hd = .ok (.bl b) ∧ Q (.bl b) H
theorem if_ok {P : Prop} [Decidable P] {β : Type} {r : R β} {x : β} (h : (if P then r else R.no) = .ok x) : P ∧ r = .ok x := by
  by_cases c : P
  · rw [if_pos c] at h; exact ⟨c, h⟩
  · rw [if_neg c] at h; cases h
theorem call_isC {c : Nat} (ih : InsH G C X) (hK : X.K = G.K) : CallR X (.builtin "isinstance") (rIsC G C c) := by
  intro pins s σ H xs us Q I r ⟨x, y, α, hd, d, b, e, hy, st, rd, ei, q⟩
  subst e
  cases r with
  | cons rx rr =>
    cases rr with
    | cons ry rr =>
      cases rr
      have ec := hy _ ry
      subst ec
      have fin : ∀ tk, EP X pins σ Q (.bool b) { s with toks := tk } := fun tk => ⟨.bl b, H, I.kept (t' := tk) fun _ _ z => z, rfl, q⟩
      have lit : ∀ {T : String}, (C.meth c 0).isSome = true → T ∈ ["NoneType", "bool", "int", "str", "list", "tuple"] → b = false → PySem.W.kitOne X.K (.type T) (.ref (G.cc c)) = some b := fun h1 h2 h3 => by rw [h3]; exact ih.kb c _ h1 h2
      cases d with
      | non =>
        obtain ⟨h1, h2⟩ := if_ok ei
        cases h2
        unfold RD at rd; subst rd
        cases rx
        exact PySem.W.kia_one PySem.W.kitx_none I.kIn True.intro (lit h1 (by simp) rfl) (fun z => nomatch z) fin
      | bl t =>
        obtain ⟨h1, h2⟩ := if_ok ei
        cases h2
        unfold RD at rd; subst rd
        cases rx
        exact PySem.W.kia_one PySem.W.kitx_bool I.kIn True.intro (lit h1 (by simp) rfl) (fun z => nomatch z) fin
      | int t =>
        obtain ⟨h1, h2⟩ := if_ok ei
        cases h2
        unfold RD at rd; subst rd
        obtain ⟨tk, rfl⟩ := rx
        exact PySem.W.kia_one PySem.W.kitx_int I.kIn True.intro (lit h1 (by simp) rfl) (fun z => nomatch z) fin
      | str t =>
        obtain ⟨h1, h2⟩ := if_ok ei
        cases h2
        unfold RD at rd; subst rd
        obtain ⟨tk, rfl⟩ := rx
        exact PySem.W.kia_one PySem.W.kitx_str I.kIn True.intro (lit h1 (by simp) rfl) (fun z => nomatch z) fin
      | tup t =>
        obtain ⟨h1, h2⟩ := if_ok ei
        cases h2
        unfold RD at rd
        obtain ⟨pa, vs, rfl, hs, _⟩ := rd
        cases rx
        obtain ⟨its, rv, pl, _⟩ := I.tuple (hK ▸ hs)
        obtain ⟨o, ho, hc, _⟩ := pl
        exact PySem.W.kia_one PySem.W.kitx_tuple I.kIn ⟨o, ho, hc⟩ (lit h1 (by simp) rfl) (fun z => nomatch z) fin
      | ob k =>
        unfold RD at rd
        obtain ⟨hk, rfl⟩ := rd
        cases rx
        simp only [isiD] at ei
        cases ek : hd[k]? with
        | none => rw [ek] at ei; cases ei
        | some ob =>
          rw [ek] at ei
          cases ob with
          | ins c' gs =>
            obtain ⟨h1, h2⟩ := if_ok ei
            rw [Bool.and_eq_true] at h1
            cases h2
            obtain ⟨cl, k1, k2, k3, k4, k5⟩ := ih.ck c' c h1.1 h1.2
            obtain ⟨dx, ws, e1, _⟩ := insAt st ek
            obtain ⟨mA, O, _⟩ := ins_get I.hok e1
            obtain ⟨od, J, _⟩ := O.look
            exact PySem.W.kia_one (PySem.W.kitx_own (cl.get _) cl.hd k1 k2 k3 k4) I.kIn J k5 (fun z => nomatch z) fin
          | lst ys =>
            obtain ⟨h1, h2⟩ := if_ok ei
            cases h2
            obtain ⟨vs, e1, _⟩ := st.ob k _ ek
            obtain ⟨its, n, _, ho, _⟩ := I.lst e1
            exact PySem.W.kia_one PySem.W.kitx_list I.kIn ⟨_, ho, rfl⟩ (lit h1 (by simp) rfl) (fun z => nomatch z) fin
          | _ => cases ei
      | _ => cases ei
theorem isiD_nx {ts : List Ty} {x : D} {h h' : Hd} {c : Nat} : isiD C ts x h ≠ .ex c h' := by
  intro e
  unfold isiD at e
  revert e
  repeat' split
  all_goals (intro e; first | (cases e; done) | exact R.of_nx _ _ _ e)
theorem isiD_bl {c : Nat} {x d : D} {h : Hd} (e : isiD C [.cls c] x h = .ok d) : ∃ b, d = .bl b := by
  simp only [isiD] at e
  revert e
  repeat' split
  all_goals (intro e; first | (cases e; done) | (cases e; exact ⟨_, rfl⟩) | (obtain ⟨_, e⟩ := if_ok e; cases e; exact ⟨_, rfl⟩) | (rename_i h; simp at h; done))
theorem de_isiC {c : Nat} {T : Str} (ok : Ok G X W) (ih : InsH G C X) (hb : Bi X "isinstance") (gl : Gl X T) (hm : X.mg T = some (.ref (G.cc c))) (hd : (T == ("__debug__" : Str)) = false) (hs : isStar a = false) (ha : PE X a (tR G W fa)) :
    PE X (.Call (.Name "isinstance" p) [a, .Name T p2] [] pos) (tR G W fun σ h => vl (fa σ h) >>= fun p => isiD C [.cls c] p.1 p.2 >>= fun d => .ok (.v d, p.2)) :=
  (pe_callB (call_isC (c := c) ih ok.K) hb.gl hb.mg (by decide +kernel) (pa_cons (pe_vl ha) (pa_cons (pe_glob gl hm (v := .ref (G.cc c)) rfl hd) pa_nil rfl) (starEach_cons hs)) hb.nn hb.nd (starEach_cons hs) rfl).imp fun σ H Q ⟨α, σD, hd, s, l, z⟩ => by
    refine tX_bind (Rel := rD G) s l z fun x h1 α1 v H1 e x1 s1 l1 r1 z => ?_
    dsimp only at z
    cases ei : isiD C [.cls c] x h1 with
    | no => rw [ei] at z; exact z.elim
    | ex k h' => exact absurd ei isiD_nx
    | ok d =>
      obtain ⟨b, rfl⟩ := isiD_bl ei
      rw [ei] at z
      exact ⟨v, .ref (G.cc c), α1, h1, x, b, rfl, fun u hu => hu, s1, r1, ei, Lnd.ok (Rel := rR G) (b := Rv.v (.bl b)) z s1 rRbl⟩
end
end Mp
set_option maxHeartbeats 4000000
/-! MiniPy, part 20: try: .. except X as e: c = e. The caught exception stays, as a thing that is tracked. -/
namespace Mp
open PySem PySem.Spec PyProof.Rows L2
section
variable {X : Cx} {ps : List (Addr × Obj)} {σ : L2.St} {H : Hp} {s : Shared}
/-- a standing object of nobody's is taken up -/
theorem track {e : Addr} {oe : Obj} {φ : Heap → Prop} (I : Inv X ps σ H s) (ge : s.heap.get? e = some oe) (he : H e = none) (g0 : X.s_0.heap.get? e = none) (eL : e ≠ X.env.locals) (eC : ∀ y q, X.env.cells.lookup y = some q → q ≠ e) (eP : ∀ p ∈ X.pn ++ ps, p.1 ≠ e)
    (hφ : φ s.heap) (st : ∀ k1 k2 : Heap, φ k1 → (∀ o, k1.get? e = some o → k2.get? e = some o) → φ k2) : Inv X ps σ (upd H e (.ext φ)) s := by
  have same : ∀ b, b ≠ e → upd H e (.ext φ) b = H b := fun b hb => upd_ne hb
  have nn : ∀ b u, H b = some u → b ≠ e := fun b u q z => by
    rw [z, he] at q
    cases q
  refine ⟨I.ok, I.os, I.bare, ⟨I.base.keep, I.base.slot, fun b o q n hx => ?_, I.base.there, fun b xs q => ?_, fun b o u q => ?_, fun b us q => ?_⟩, I.loc, I.cell, ?_, fun y q hq => ?_, fun p hp => ?_, fun b u q => ?_, I.len⟩
  · rw [same b fun z => by rw [z, g0] at q; cases q]
    exact I.base.free b o q n hx
  · have w := I.base.tups b xs q
    rw [same b (nn b _ w)]; exact w
  · have w := I.base.frzs b o u q
    rw [same b (nn b _ w)]; exact w
  · obtain ⟨more, w⟩ := I.base.tbls b us q
    exact ⟨more, by rw [same b (nn b _ w)]; exact w⟩
  · rw [same _ (Ne.symm eL)]; exact I.free
  · rw [same _ (eC y q hq)]; exact I.freeC y q hq
  · obtain ⟨p1, p2, p3⟩ := I.pin p hp
    exact ⟨p1, by rw [same _ (eP p hp)]; exact p2, p3⟩
  · by_cases hb : b = e
    · subst hb
      rw [upd_same] at q
      cases q
      exact ⟨hφ, ⟨oe, ge⟩, st⟩
    · rw [same b hb] at q
      exact (I.hok b u q).stay (fun c v _ w => w) (fun c w => by rw [same c (nn c _ w)]; exact w) fun c xs w => by rw [same c (nn c _ w)]; exact w
/-- a caught exception of the class cls -/
def ExT (cls : Value) (d : Option Addr) (e : Addr) : HO := .ext fun h => ∃ oe : Obj, h.get? e = some oe ∧ Zc cls d oe ∧ ∃ vs, oe.data = .fields vs
/-- what the clause wishes of an exception: the name's slot i, the slot j that keeps it -/
def wKeep (K : PySem.W.Frag) (c : Value) (i j : Nat) (Wout : WX) (D : Ends) : WX := fun cls d σ H => ∃ b, PySem.W.exmOne K cls c = some b ∧
  (b = true → ∀ e, H e = none → D.nx (((σ.set i (some (.ref e))).set j (some (.ref e))).set i none) (upd H e (ExT cls d e))) ∧ (b = false → Wout cls d σ H)
variable {x n y : Str} {c : Value} {i j : Nat} {body : List Stmt} {np py pn2 apos pos pos' : Pos} {tb : WX → TS} {Wout : WX}
theorem ps_try_keep (hstk : X.stack = X.env :: X.outer) (hfr0 : X.env.frame = some X.env.locals) (nd : X.N.Nodup) (hi : X.N[i]? = some n) (hj : X.N[j]? = some y) (hni : X.env.kindOf n = some .local) (hnj : X.env.kindOf y = some .local) (nmd : (n == ("__debug__" : Str)) = false) (ncd : (n == ("__classdict__" : Str)) = false)
    (hcl : Names X x c) (tk : Takes X Wout) (hex : X.ex = [])
    (hbody : ∀ (W : WX) (pn : List (Addr × Obj)) (xe : Value → Shared → Prop), Takes (X.tr pn xe) W → PassesOwn (model X.prog X.w) X.A X.env xe → PSs (X.tr pn xe) body (tb W)) :
    PS X (.Try body [.ExceptHandler (some (.Name x np)) (some n) [.Assign [.Name y py] (.Name n pn2) apos] pos'] [] [] pos) (fun D σ H => tb (wKeep X.K c i j Wout D) D σ H) := by
  constructor
  intro pins s σ H D I0 h0
  have okX := I0.ok
  have frm : X.A.frames = some (X.env :: X.outer) := okX.frames.trans (by rw [hstk])
  refine wpAny_Try_except ?_
  let after : Value → Shared → Prop := fun ev s₁ => wpAny (model X.prog X.w) X.A (noteFrame ev X.env) (fun _ s₂ => wpAny (model X.prog X.w) X.A (setFlight ev none) (fun _ s₃ =>
    wpAny (model X.prog X.w) X.A (handleBy ev X.env [.ExceptHandler (some (.Name x np)) (some n) [.Assign [.Name y py] (.Name n pn2) apos] pos']) (SP X pins D) X.xe s₃) X.xe s₂) X.xe s₁
  have takes : Takes (X.tr (X.pn ++ pins) after) (wKeep X.K c i j Wout D) := by
    intro u s' up0
    obtain ⟨e, B, sI, qs, τ, H', cls, d, rfl, JJ, nb, upS, sky, ne, eos, ebare, b, hb1, yes, no⟩ := up0
    have J : Inv X pins τ H' sI := JJ.ofTry okX
    rw [show (X.tr (X.pn ++ pins) after).stack = X.env :: X.outer from hstk] at sky
    show after (.ref e) s'
    refine Sky.land Zc.steady frm hfr0 sky fun h3 fly up3 => ?_
    have J3 : Inv X pins τ H' { s' with heap := h3 } := J.landed nb fly.1 (upS.trans up3) eos ebare
    obtain ⟨o3, vs3, g3, z3, d3⟩ := fly.there
    have out : ∀ {k : Heap} {o : Obj} {vs : Array Value}, k.FunFrames B (X.env :: X.outer) → k.get? e = some o → o.data = .fields vs → e ∉ frs (X.env :: X.outer) := by
      intro k o vs ff q dd hm
      obtain ⟨_, o', q', notF⟩ := ff.mem hm
      rw [q] at q'
      cases q'
      exact notF _ dd
    have eF := out fly.2.2.1 g3 d3
    have eFs : e ∉ frs X.stack := by rw [hstk]; exact eF
    have eL : e ≠ X.env.locals := fun z => eF (List.mem_filterMap.mpr ⟨X.env, List.mem_cons_self, by rw [hfr0, z]⟩)
    have eX : e ∉ X.fs := fun hm => by
      obtain ⟨v, hv, q⟩ := List.mem_filterMap.mp hm
      exact eF (List.mem_filterMap.mpr ⟨v, List.mem_cons_of_mem _ hv, q⟩)
    -- the exception is younger than all that stood ahead
    have gI : sI.heap.get? e = none := by
      cases q : sI.heap.get? e with
      | none => rfl
      | some o =>
        have w := nb e o q eFs
        rw [fly.2.1] at w
        cases w
    have notP : ∀ p ∈ X.pn ++ pins, p.1 ≠ e := fun p hp z => by
      have w := (J.pin p hp).1
      rw [z, gI] at w
      cases w
    have notC : ∀ u q, X.env.cells.lookup u = some q → q ≠ e := fun u q hq z => by
      obtain ⟨v, o, w, _⟩ := J.cell u q hq
      rw [z, gI] at w
      cases w
    have not0 : X.s_0.heap.get? e = none := by
      cases q : X.s_0.heap.get? e with
      | none => rfl
      | some o =>
        obtain ⟨o', w⟩ := J.base.there e o q (by rw [hex]; exact fun z => nomatch z)
        rw [gI] at w
        cases w
    have S3 := J3.suite g3 d3 ne eL eX
    refine wpAny_handleBy_cons (codeAny_handlers_test ?_) (by intro q; cases q)
    have ty : PySem.W.Looks (model X.prog X.w) h3 (typeOf (.ref e)) cls := fun A Q E k kp q => wpAny_typeOf_ref (kp _ _ g3) (by rw [z3.1]; exact q)
    have exm := PySem.W.exm_one (M := model X.prog X.w) J3.kIn ty hb1
    have ask : ∀ {Q : Value → Shared → Prop} {E : Value → Shared → Prop}, Q c { s' with heap := h3 } → wpAny (model X.prog X.w) (X.A.mark (some (.ref e))) (eval (.Name x np) X.env) Q E { s' with heap := h3 } := by
      intro Q E q
      rcases hcl with ⟨gl, db, m1 | ⟨m1, bt, nn⟩⟩
      · exact ld_glob (X := X.suite e ((e, o3) :: (X.pn ++ pins))) S3 gl m1 q db
      · exact ld_blt (X := X.suite e ((e, o3) :: (X.pn ++ pins))) S3 gl m1 bt q nn db
    refine ask (exm.here ?_)
    cases b with
    | true =>
      refine codeAny_handlers_suite_as (HandSPX.lands_againZ fly fun h4 fly4 up4 => ?_)
      have J4 : Inv X pins τ H' { s' with heap := h4 } := J.landed nb fly4.1 ((upS.trans up3).trans up4) eos ebare
      obtain ⟨o4, vs4, g4, z4, d4⟩ := fly4.there
      have S4 := J4.suite g4 d4 ne eL eX
      refine store_ok (X := X.suite e ((e, o4) :: (X.pn ++ pins))) (v := .ref e) S4 nd hi (.inl hni) rfl (fun s5 S5 => ?_) (.inr hni)
      have keep : PSs (X.suite e ((e, o4) :: (X.pn ++ pins))) [.Assign [.Name y py] (.Name n pn2) apos] (tAsg (tVar i) (gName j)) := pss_one (ps_set (i := j) nd hj (.inl hnj) (pe_var hi (.inl hni) nmd ncd) rfl (.inr hnj))
      have fin6 := keep.run [] s5 (τ.set i (some (.ref e))) H' { nx := fun σ6 H6 => σ6 = (τ.set i (some (.ref e))).set j (some (.ref e)) ∧ H6 = H', rt := fun _ _ => False } S5 ⟨.ref e, by
        have hl : i < τ.length := by rw [J.len]; exact (List.getElem?_eq_some_iff.mp hi).1
        exact List.getElem?_set_self hl, rfl, rfl⟩
      refine wpAny_mono fin6 (fun f s6 hsp => ?_) (fun _ _ z => False.elim z)
      cases f with
      | next =>
        obtain ⟨σ6, H6, S6, q6, q7⟩ := hsp
        refine gone_ok (X := X.suite e ((e, o4) :: (X.pn ++ pins))) S6 nd hi hni fun s7 S7 => ?_
        subst q6 q7
        obtain ⟨g7, n7, _⟩ := S7.pin (e, o4) (List.mem_append.mpr (.inl List.mem_cons_self))
        have J7 := S7.unsuite okX
        exact ⟨_, _, track J7 g7 n7 not0 eL notC notP ⟨o4, g7, z4, _, d4⟩ (fun k1 k2 ⟨o, w1, w2⟩ w => ⟨o, w o w1, w2⟩), yes rfl e ne⟩
      | brk => obtain ⟨_, _, _, z⟩ := hsp; exact z.elim
      | cont => obtain ⟨_, _, _, z⟩ := hsp; exact z.elim
      | ret u => obtain ⟨_, _, _, _, _, z⟩ := hsp; exact z.elim
    | false =>
      show wpAny _ X.A (handleBy (.ref e) X.env []) _ _ _
      refine wpAny_handleBy_nil ?_
      obtain ⟨_, _, _, oq, vq, tq, aq, rq, gq, zq, dq, fq, _⟩ := id fly
      unfold PySem.passOn
      refine wpAny_bind (wpAny_field gq dq fq ?_)
      rw [if_neg (show ¬ ((Value.ref tq == Value.none) = true) by simp)]
      have again : wpAny (model X.prog X.w) X.A (setFlight (.ref e) X.env.frame) (fun _ s8 => wpAny (model X.prog X.w) X.A (throw (.ref e) : Sem Flow) (SP X pins D) X.xe s8) X.xe { s' with heap := h3 } := by
        rw [hfr0]
        exact HandSPX.setFlight_upZ fly fun h9 held up9 => wpAny_throw (tk _ _ ⟨e, B, sI, pins, τ, H', cls, d, rfl, J, nb, (upS.trans up3).trans up9, .inr (.inr (by rw [hstk]; exact held)), ne, eos, ebare, no rfl⟩)
      first
        | exact wpAny_bind (wpAny_pure (wpAny_bind again))
        | exact wpAny_bind again
  refine wpAny_mono ((hbody (wKeep X.K c i j Wout D) (X.pn ++ pins) after takes PassesOwn.looking).run [] s σ H D (I0.toTry _) h0) (fun f s1 hsp => ?_) (fun _ _ z => z)
  cases f with
  | next =>
    obtain ⟨τ1, K1, J1, q⟩ := hsp
    exact wpAny_execs_nil ⟨τ1, K1, J1.ofTry okX, q⟩
  | brk =>
    obtain ⟨τ1, K1, J1, q⟩ := hsp
    exact ⟨τ1, K1, J1.ofTry okX, q⟩
  | cont =>
    obtain ⟨τ1, K1, J1, q⟩ := hsp
    exact ⟨τ1, K1, J1.ofTry okX, q⟩
  | ret u =>
    obtain ⟨w, τ1, K1, J1, r, q⟩ := hsp
    exact ⟨w, τ1, K1, J1.ofTry okX, r, q⟩
end
end Mp
set_option maxHeartbeats 4000000
/-! MiniPy, part 21: isinstance of a kept exception; try. -/
namespace Mp
open PySem PySem.Spec PyProof.Rows L2
/-- what the exception classes say of one another -/
structure SubH (G : Gx) (C : Cl) : Prop where
  exm : ∀ k c, PySem.W.exmOne G.K (.ref (G.ca k)) (.ref (G.ca c)) = some (C.sub k c)
  kit : ∀ k c, PySem.W.kitOne G.K (.ref (G.ca k)) (.ref (G.ca c)) = some (C.sub k c)
  ver : ∀ k, PySem.W.kitOne G.K (.ref (G.ca k)) (.type "ValueError") = some true
  exc : ∀ k, ExcC G.K (G.ca k)
section
variable {G : Gx} {C : Cl} {X : Cx} {W : WX}
/-- isinstance(e, c), e tracked -/
def rIsX (K : PySem.W.Frag) : List V → Hp → VK → Prop := fun xs H Q => ∃ (a D : Addr) (c : V) (cv : Value) (b : Bool), xs = [.ref a, c] ∧ H a = some (ExH D a) ∧ ExcC K D ∧ (∀ u, RelV c u → u = cv) ∧ PySem.W.kitOne K (.ref D) cv = some b ∧ Q (.bl b) H
theorem call_isX {X : Cx} : CallR X (.builtin "isinstance") (rIsX X.K) := by
  intro pins s σ H xs us Q I r h
  obtain ⟨a, D, c, cv, b, rfl, ha, hC, hcv, e, q⟩ := h
  cases r with
  | cons rx rr =>
    cases rr with
    | cons rt rr =>
      cases rr
      cases rx
      have ec := hcv _ rt
      subst ec
      obtain ⟨⟨oe, ge, ⟨z1, z2⟩, vs, hv⟩, _⟩ : ObjOk X.prog X.w H s.heap a (ExH D a) := I.hok a _ ha
      have J : PySem.W.InstAt s.heap a oe D none := by
        obtain ⟨oc, od, oda, osl⟩ := oe
        dsimp only at z1 z2 hv
        subst z1 z2 hv
        exact ⟨ge, rfl, rfl, trivial⟩
      exact PySem.W.kia_one (PySem.W.handS_kitx_exc hC.hg hC.hk hC.hs hC.hd hC.ha hC.hn hC.ht hC.hm) I.kIn J e (fun z => nomatch z) fun tk => ⟨.bl b, H, I.kept (t' := tk) fun _ _ z => z, rfl, q⟩
variable {pos p : Pos} {a : Expr} {fa : Sl → Hd → R (Rv × Hd)}
theorem isi_x {α : Al} {H1 : Hp} {n : Nat} {k : Nat} {v : V} (r : RD G n α H1 (.ex k) v) : ∃ e, v = .ref e ∧ H1 e = some (ExH (G.ca k) e) := by
  unfold RD at r
  exact r
theorem de_isiX {c : Nat} {T : Str} {p2 : Pos} (ok : Ok G X W) (sb : SubH G C) (hb : Bi X "isinstance") (gl : Gl X T) (hm : X.mg T = some (.ref (G.ca c))) (hd : (T == ("__debug__" : Str)) = false) (hs : isStar a = false) (ha : PE X a (tR G W fa)) :
    PE X (.Call (.Name "isinstance" p) [a, .Name T p2] [] pos) (tR G W fun σ h => vl (fa σ h) >>= fun p => isiD C [.own c] p.1 p.2 >>= fun d => .ok (.v d, p.2)) :=
  (pe_callB call_isX hb.gl hb.mg (by decide +kernel) (pa_cons (pe_vl ha) (pa_cons (pe_glob gl hm (v := .ref (G.ca c)) rfl hd) pa_nil rfl) (starEach_cons hs)) hb.nn hb.nd (starEach_cons hs) rfl).imp fun σ H Q ⟨α, σD, hd, s, l, z⟩ => by
    refine tX_bind (Rel := rD G) s l z fun x h1 α1 v H1 e x1 s1 l1 r1 z => ?_
    cases x with
    | ex k =>
      obtain ⟨q, rfl, hq⟩ := isi_x (show RD G h1.length α1 H1 (.ex k) v from r1)
      exact ⟨q, G.ca k, .ref (G.ca c), .ref (G.ca c), C.sub k c, rfl, hq, by rw [ok.K]; exact sb.exc k, fun u hu => hu, by rw [ok.K]; exact sb.kit k c, Lnd.ok (Rel := rR G) (b := Rv.v (.bl (C.sub k c))) z s1 rRbl⟩
    | _ => exact (show False from z).elim
theorem de_isiV (ok : Ok G X W) (sb : SubH G C) (hb : Bi X "isinstance") (hv : Bi X "ValueError") (hs : isStar a = false) (ha : PE X a (tR G W fa)) {p2 : Pos} :
    PE X (.Call (.Name "isinstance" p) [a, .Name "ValueError" p2] [] pos) (tR G W fun σ h => vl (fa σ h) >>= fun p => isiD C [.verr] p.1 p.2 >>= fun d => .ok (.v d, p.2)) :=
  (pe_callB call_isX hb.gl hb.mg (by decide +kernel) (pa_cons (pe_vl ha) (pa_cons (pe_bltn hv.gl hv.mg (u := .type "ValueError") (by decide +kernel) (v := .ty "ValueError") rfl hv.nn hv.nd) pa_nil rfl) (starEach_cons hs)) hb.nn hb.nd (starEach_cons hs) rfl).imp fun σ H Q ⟨α, σD, hd, s, l, z⟩ => by
    refine tX_bind (Rel := rD G) s l z fun x h1 α1 v H1 e x1 s1 l1 r1 z => ?_
    cases x with
    | ex k =>
      obtain ⟨q, rfl, hq⟩ := isi_x (show RD G h1.length α1 H1 (.ex k) v from r1)
      exact ⟨q, G.ca k, .ty "ValueError", .type "ValueError", true, rfl, hq, by rw [ok.K]; exact sb.exc k, fun u hu => hu, by rw [ok.K]; exact sb.ver k, Lnd.ok (Rel := rR G) (b := Rv.v (.bl true)) z s1 rRbl⟩
    | _ => exact (show False from z).elim
/-- what a def's own body has (a comprehension's block has it not) -/
structure FnX (X : Cx) : Prop where
  stk : X.stack = X.env :: X.outer
  fr : X.env.frame = some X.env.locals
  ex : X.ex = []
theorem ds_try {b : List Stmt} {fb : Sl → Hd → F} {x n y : Str} {c i j : Nat} {np py pn2 apos p' : Pos} (ok : Ok G X W) (fx : FnX X) (sb : SubH G C) (hi : X.N[i]? = some n) (hj : X.N[j]? = some y) (hni : X.env.scope.names.lookup n = some .local) (hnj : X.env.scope.names.lookup y = some .local) (nmd : (n == ("__debug__" : Str)) = false) (ncd : (n == ("__classdict__" : Str)) = false)
    (gl : Gl X x) (hm : X.mg x = some (.ref (G.ca c))) (hd : (x == ("__debug__" : Str)) = false)
    (hb : ∀ (W' : WX) (pn : List (Addr × Obj)) (xe : Value → Shared → Prop), Takes (X.tr pn xe) W' → PassesOwn (model X.prog X.w) X.A X.env xe → PSs (X.tr pn xe) b (tS G W' fb)) :
    PS X (.Try b [.ExceptHandler (some (.Name x np)) (some n) [.Assign [.Name y py] (.Name n pn2) apos] p'] [] [] pos) (tS G W fun σ h => tryF C c i j (fb σ h)) :=
  (ps_try_keep fx.stk fx.fr ok.nd hi hj hni hnj nmd ncd (c := .ref (G.ca c)) ⟨gl, hd, .inl hm⟩ ok.tk fx.ex hb).imp fun D σ H ⟨α, σD, hd0, s, l, z⟩ => by
    refine ⟨α, σD, hd0, s, l, ?_⟩
    have z' : LndS G W hd0.length α H D (tryF C c i j (fb σD hd0)) := z
    cases hf : fb σD hd0 with
    | ex k σ1 h1 =>
      rw [hf] at z'
      intro α1 σ' H1 x1 s1 l1
      refine ⟨C.sub k c, by rw [ok.K]; exact sb.exm k c, fun hs e he => ?_, fun hs => ?_⟩
      · have z2 : LndS G W hd0.length α H D (if C.sub k c then (if i < σ1.length then (if j < σ1.length then F.nx (((σ1.set i (some (.ex k))).set j (some (.ex k))).set i none) h1 else .no) else .no) else .ex k σ1 h1) := z'
        rw [if_pos hs] at z2
        by_cases c1 : i < σ1.length
        · rw [if_pos c1] at z2
          by_cases c2 : j < σ1.length
          · rw [if_pos c2] at z2
            have x2 : Ex h1.length α1 H1 h1.length α1 (upd H1 e (ExH (G.ca k) e)) := Ex.other he
            have rx : RD G h1.length α1 (upd H1 e (ExH (G.ca k) e)) (.ex k) (.ref e) := by
              unfold RD
              exact ⟨e, rfl, upd_same⟩
            have l2 := l1.mono x2.toEy fun i hi => s1.at_ hi
            exact z2 α1 _ _ (x1.trans s1.there x2) (s1.other he) (((l2.set rx).set rx).setN i)
          · rw [if_neg c2] at z2; exact z2.elim
        · rw [if_neg c1] at z2; exact z2.elim
      · have z2 : LndS G W hd0.length α H D (if C.sub k c then (if i < σ1.length then (if j < σ1.length then F.nx (((σ1.set i (some (.ex k))).set j (some (.ex k))).set i none) h1 else .no) else .no) else .ex k σ1 h1) := z'
        rw [hs] at z2
        exact z2 α1 σ' H1 x1 s1 l1
    | nx σ1 h1 => rw [hf] at z'; exact z'
    | rt d h1 => rw [hf] at z'; exact z'
    | bk σ1 h1 => rw [hf] at z'; exact z'
    | ct σ1 h1 => rw [hf] at z'; exact z'
    | no => rw [hf] at z'; exact z'
end
end Mp
set_option maxHeartbeats 4000000
/-! MiniPy, part 13: from the model's syntax to part 0's, and that it says the same. -/
namespace Mp
open PySem PySem.Spec PyProof.Rows L2
/-- what the module's names stand for -/
structure Mg where
  fns : List (Str × Nat)
  exs : List (Str × Nat)
  intc : List (Str × Int)
  strc : List (Str × Str)
  free : List Str
  cls : List (Str × Nat)
  an : List Str
/-- a block's names -/
structure Sc where
  N : List Str
  sc : Scope
  fnf : Str → Bool
def okName (x : Str) : Bool := !(x == ("__debug__" : Str)) && !(x == ("__classdict__" : Str)) && !(x == ("__name__" : Str))
def ixOf (x : Str) : List Str → Nat → Option Nat
  | [], _ => none
  | y :: r, i => if y = x then some i else ixOf x r (i + 1)
/-- the slot of a name of the block -/
def slotOf (Γ : Sc) (x : Str) : Option Nat :=
  if okName x && (decide (Γ.sc.names.lookup x = some .local) || decide (Γ.sc.names.lookup x = some .cell) || decide (Γ.sc.names.lookup x = some .free)) then ixOf x Γ.N 0 else none
/-- .. that is stored -/
def nmOf (Γ : Sc) (x : Str) : Option Nat :=
  if (decide (Γ.sc.names.lookup x = some .local) || (decide (Γ.sc.names.lookup x = some .cell) && Γ.fnf x)) then ixOf x Γ.N 0 else none
def glOf (Γ : Sc) (x : Str) : Bool := decide (Γ.sc.names.lookup x = some .globalImplicit) && okName x
def look {α : Type} (x : Str) : List (Str × α) → Option α
  | [] => none
  | (y, a) :: r => if y = x then some a else look x r
def bopOf : Operator → Option Bop
  | .Add => some .add | .Sub => some .sub | .Mult => some .mul | .FloorDiv => some .fdiv | .Mod => some .mod | .Pow => some .pow | _ => none
def copOf : CmpOp → Cop
  | .Eq => .eq | .NotEq => .ne | .Lt => .lt | .LtE => .le | .Gt => .gt | .GtE => .ge | .Is => .is_ | .IsNot => .isnot | .In => .in_ | .NotIn => .notin
theorem cOf_copOf (o : CmpOp) : cOf (copOf o) = o := by cases o <;> rfl
theorem opOf_bopOf {o : Operator} {b : Bop} (h : bopOf o = some b) : opOf b = o := by cases o <;> cases h <;> rfl
def isTp : Expr → Bool
  | .Tuple _ _ _ => true
  | _ => false
def isIf : Expr → Bool
  | .IfExp _ _ _ _ => true
  | _ => false
/-- guard -/
def gd {α : Type} (b : Bool) (o : Option α) : Option α := if b then o else none
theorem gd_some {α : Type} {b : Bool} {o : Option α} {a : α} (h : gd b o = some a) : b = true ∧ o = some a := by
  cases b with
  | true => exact ⟨rfl, h⟩
  | false => cases h
theorem bd {α β : Type} {o : Option α} {f : α → Option β} {b : β} (h : o.bind f = some b) : ∃ a, o = some a ∧ f a = some b := Option.bind_eq_some_iff.mp h
mutual
def trT (Γ : Sc) : Nat → Expr → Option T
  | 0, _ => none
  | n + 1, .Name x _ => (nmOf Γ x).map .nm
  | n + 1, .Tuple es _ _ => (trTs Γ n es).map .tp
  | _, _ => none
def trTs (Γ : Sc) : Nat → List Expr → Option (List T)
  | 0, _ => none
  | n + 1, [] => some []
  | n + 1, e :: es => (trT Γ n e).bind fun t => (trTs Γ n es).map (t :: ·)
end
def tyOf (x : Str) : Option Ty := look x [("int", .int), ("bool", .bool), ("str", .str), ("tuple", .tuple), ("list", .list), ("dict", .dict)]
/-- names that a comprehension's block has of its own, with their slots -/
def ownOf (N : List Str) (sc : Scope) : List (Str × Nat) := sc.names.filterMap fun (x, k) => match k with
  | .local => (ixOf x N 0).map fun i => (x, i)
  | .cell => (ixOf x N 0).map fun i => (x, i)
  | _ => none
def inner (Γ : Sc) (sc : Scope) : Sc := ⟨Γ.N, relS sc Γ.sc, fun x => sc.names.lookup x == some .cell⟩
/-- built-in functions of one argument -/
def b1Of (x : Str) : Option B1 := look x [("len", .len), ("int", .int_), ("str", .str_), ("tuple", .tuple), ("list", .list), ("all", .all), ("any", .any), ("sum", .sum), ("max", .max), ("min", .min)]
def b2Of (x : Str) : Option B2 := look x [("max", .max), ("min", .min), ("divmod", .divmod)]
/-- methods of built-in types -/
def m1Of (x : Str) : Option M1 := look x [("append", .append), ("join", .join), ("index", .index), ("count", .count), ("pop", .pop), ("extend", .extend), ("split", .split)]
def m0Of (x : Str) : Option M0 := look x [("pop", .pop)]
/-- the stores of a row of values to a row of names, told -/
def parOk (Γ : Sc) (ts es : List Expr) : Bool := match ts, es with
  | [.Name x px, .Name y py], [a, b] => if swp2 Γ.sc x y px.line py.line && !(foldedForSure 8 a && foldedForSure 8 b) then !(constantsAlone 8 a && constantsAlone 8 b)
      else (foldedForSure 8 a && foldedForSure 8 b) || !(decide (Γ.sc.names.lookup x = some .local) && decide (Γ.sc.names.lookup y = some .local))
  | [.Name x px, .Name y py, .Name z pz], [a, b, c] => if swp3 Γ.sc x y z px.line py.line pz.line && !(foldedForSure 8 a && (foldedForSure 8 b && foldedForSure 8 c)) then !(constantsAlone 8 a && (constantsAlone 8 b && constantsAlone 8 c))
      else (foldedForSure 8 a && (foldedForSure 8 b && foldedForSure 8 c)) || !(decide (Γ.sc.names.lookup x = some .local) && (decide (Γ.sc.names.lookup y = some .local) && decide (Γ.sc.names.lookup z = some .local)))
  | _, es => es.all (foldedForSure 8)
section
variable (M : Mg)
mutual
def trE : Nat → Sc → Expr → Option E
  | 0, _, _ => none
  | n + 1, Γ, e => match e with
    | .Name x _ => match slotOf Γ x with
      | some i => some (.v i)
      | none => gd (glOf Γ x) (match look x M.intc with
        | some i => some (.gc "" (.int i))
        | none => (look x M.strc).map fun s => .gc "" (.str s.cps.toList))
    | .Constant (.int i) _ _ => some (.c (.int i))
    | .Constant (.bool b) _ _ => some (.c (.bl b))
    | .Constant .none _ _ => some (.c .non)
    | .Constant (.str s) _ _ => some (.c (.str s.cps.toList))
    | .BinOp a op b _ => (bopOf op).bind fun o => (trE n Γ a).bind fun a' => (trE n Γ b).map fun b' => .bin o a' b'
    | .UnaryOp .USub a _ => (trE n Γ a).map .neg
    | .UnaryOp .Not a _ => gd (!isIf a) ((trE n Γ a).map .nt)
    | .Compare a [op] [b] _ => gd (notSet b) ((trE n Γ a).bind fun a' => (trE n Γ b).map fun b' => .cmp (copOf op) a' b')
    | .Compare a [o, p] [b, c] _ => gd (notSet c) ((trE n Γ a).bind fun a' => (trE n Γ b).bind fun b' => (trE n Γ c).map fun c' => .chn (copOf o) (copOf p) a' b' c')
    | .BoolOp _ [a] _ => gd (!isIf a) (trE n Γ a)
    | .BoolOp .And (a :: b :: r) pos => gd (!isIf a) ((trE n Γ a).bind fun a' => (trE n Γ (.BoolOp .And (b :: r) pos)).map fun b' => .and_ a' b')
    | .BoolOp .Or (a :: b :: r) pos => gd (!isIf a) ((trE n Γ a).bind fun a' => (trE n Γ (.BoolOp .Or (b :: r) pos)).map fun b' => .or_ a' b')
    | .IfExp t a b _ => gd (!isIf t) ((trE n Γ t).bind fun t' => (trE n Γ a).bind fun a' => (trE n Γ b).map fun b' => .ite t' a' b')
    | .Tuple es _ _ => (trEs n Γ es).map .tup
    | .List es _ => (trEs n Γ es).map .lst
    | .Subscript a (.Slice none none (some (.UnaryOp .USub (.Constant (.int 1) _ _) _)) _) _ => (trE n Γ a).map .rv
    | .Subscript a (.Slice lo hi none _) _ => (trE n Γ a).bind fun a' => (trP n Γ lo).bind fun l => (trP n Γ hi).map fun u => .sl a' l u
    | .Subscript a i _ => gd (notSlice i) ((trE n Γ a).bind fun a' => (trE n Γ i).map fun i' => .ix a' i')
    | .Call (.Name x _) es [] _ => gd (glOf Γ x && es.all (fun e => !isStar e)) (match look x M.fns with
      | some f => (trEs n Γ es).map fun es' => .call f es'
      | none => match look x M.cls with
        | some c => gd (!es.isEmpty) ((trEs n Γ es).map fun es' => .mk c es')
        | none => gd (M.free.contains x) (match es with
        | [a] => (b1Of x).bind fun b => (trE n Γ a).map fun a' => .b1 b a'
        | [a, b] => match x == ("isinstance" : Str) with
          | true => match b with
            | .Name t _ => match look t M.exs with
              | some c => gd (glOf Γ t) ((trE n Γ a).map fun a' => .isi a' [.own c])
              | none => match look t M.cls with
                | some c => gd (glOf Γ t) ((trE n Γ a).map fun a' => .isi a' [.cls c])
                | none => match t == ("ValueError" : Str) with
                | true => gd (glOf Γ t && M.free.contains t) ((trE n Γ a).map fun a' => .isi a' [.verr])
                | false => gd (glOf Γ t && M.free.contains t) ((tyOf t).bind fun ty => (trE n Γ a).map fun a' => .isi a' [ty])
            | _ => none
          | false => (b2Of x).bind fun f => (trE n Γ a).bind fun a' => (trE n Γ b).map fun b' => .b2 f a' b'
        | _ => none))
    | .Call (.Attribute o m apos) [a] [] pos => gd (!isStar a && abOk o && (apos.endLine == pos.line)) (
        match m1Of m with
        | some k => (trE n Γ o).bind fun o' => (trE n Γ a).map fun a' => .m1 k o' a'
        | none => (ixOf m M.an 0).bind fun i => (trE n Γ o).bind fun o' => (trE n Γ a).map fun a' => .um i o' [a'])
    | .Call (.Attribute o m apos) [] [] pos => gd (abOk o && (apos.endLine == pos.line)) (
        match m0Of m with
        | some k => (trE n Γ o).map fun o' => .m0 k o'
        | none => (ixOf m M.an 0).bind fun i => (trE n Γ o).map fun o' => .um i o' [])
    | .Call (.Attribute o m apos) (a :: b :: es) [] pos => gd (abOk o && ((apos.endLine == pos.line) && (decide (es.length < 20) && (a :: b :: es).all (fun e => !isStar e)))) (
        (ixOf m M.an 0).bind fun i => (trE n Γ o).bind fun o' => (trEs n Γ (a :: b :: es)).map fun es' => .um i o' es')
    | .Attribute o f _ => gd (abOk o) ((ixOf f M.an 0).bind fun i => (trE n Γ o).map fun o' => .fld o' i)
    | .JoinedStr es _ => gd (decide (2 ≤ es.length)) ((trF n Γ es).map .fs)
    | .ListComp elt [⟨tg, it, ifs, 0⟩] sc _ => gd (blkC Γ.N Γ.sc sc (ownOf Γ.N sc) && notSet it) (
        (trT (inner Γ sc) n tg).bind fun t => gd (t.sl.all fun j => ((ownOf Γ.N sc).map (·.2)).contains j) (
          (trI n Γ (isTp tg) it).bind fun i => (trE n (inner Γ sc) elt).bind fun e' => ((match ifs with
            | [] => some (E.c (.bl true))
            | [c] => gd (!isIf c) (trE n (inner Γ sc) c)
            | _ => none) : Option E).map fun c' => .comp ((ownOf Γ.N sc).map (·.2)) t i c' e'))
    | _ => none
def trEs : Nat → Sc → List Expr → Option (List E)
  | 0, _, _ => none
  | n + 1, _, [] => some []
  | n + 1, Γ, e :: es => gd (!isStar e) ((trE n Γ e).bind fun e' => (trEs n Γ es).map (e' :: ·))
def trF : Nat → Sc → List Expr → Option (List E)
  | 0, _, _ => none
  | n + 1, _, [] => some []
  | n + 1, Γ, e :: es => match e with
    | .Constant (.str s) _ _ => (trF n Γ es).map (.c (.str s.cps.toList) :: ·)
    | .FormattedValue e (-1) none _ => (trE n Γ e).bind fun e' => (trF n Γ es).map (e' :: ·)
    | _ => none
def trP : Nat → Sc → Option Expr → Option E
  | 0, _, _ => none
  | n + 1, _, none => some (.c .non)
  | n + 1, Γ, some e => (trE n Γ e).bind fun e' => gd (!isNon e') (some e')
def trI : Nat → Sc → Bool → Expr → Option I
  | 0, _, _, _ => none
  | n + 1, Γ, tp, e => match e with
    | .Call (.Name x _) [a] [] _ => match x == ("range" : Str) && M.free.contains x && glOf Γ x with
      | true => gd (!isStar a) ((trE n Γ a).map fun a' => .rng (.c (.int 0)) a')
      | false => match x == ("enumerate" : Str) && M.free.contains x && glOf Γ x with
        | true => gd (!isStar a && tp) ((trE n Γ a).map .en)
        | false => (trE n Γ e).map .sq
    | .Call (.Name x _) [a, b] [] _ => match x == ("range" : Str) && M.free.contains x && glOf Γ x with
      | true => gd (!isStar a && !isStar b) ((trE n Γ a).bind fun a' => (trE n Γ b).map fun b' => .rng a' b')
      | false => match x == ("zip" : Str) && M.free.contains x && glOf Γ x with
        | true => gd (!isStar a && !isStar b && tp) ((trE n Γ a).bind fun a' => (trE n Γ b).map fun b' => .zp a' b')
        | false => (trE n Γ e).map .sq
    | e => (trE n Γ e).map .sq
end
def nmsOf : List T → Option (List Nat)
  | [] => some []
  | .nm i :: r => (nmsOf r).map (i :: ·)
  | _ => none
mutual
def trS : Nat → Sc → Stmt → Option S
  | 0, _, _ => none
  | n + 1, Γ, s => match s with
    | .Pass _ => some .pas
    | .Break _ => some .brk
    | .Continue _ => some .cnt
    | .Return none _ => some .retN
    | .Return (some e) _ => (trE M n Γ e).map .ret
    | .Expr (.Constant (.str _) _ _) _ => some .pas
    | .Expr e _ => gd (notComp e) ((trE M n Γ e).map .ex)
    | .If c a b _ => gd (!isIf c) ((trE M n Γ c).bind fun c' => (trSs n Γ a).bind fun a' => (trSs n Γ b).map fun b' => .ite c' a' b')
    | .For t it b [] _ => gd (notSet it) ((trT Γ n t).bind fun t' => (trI M n Γ (isTp t) it).bind fun i => (trSs n Γ b).map fun b' => .for_ t' i b')
    | .While c b [] _ => gd (!isIf c) ((trE M n Γ c).bind fun c' => (trSs n Γ b).map fun b' => .whl c' b')
    | .Raise (some (.Call (.Name x _) [.Constant (.str _) _ _] [] _)) none _ => gd (glOf Γ x) ((look x M.exs).map .raise)
    | .Try b [.ExceptHandler (some (.Name x _)) (some nm) [.Assign [.Name y _] (.Name n2 _) _] _] [] [] _ =>
        gd (n2 == nm && (glOf Γ x && (okName nm && (decide (Γ.sc.names.lookup nm = some .local) && decide (Γ.sc.names.lookup y = some .local))))) ((look x M.exs).bind fun c => (ixOf nm Γ.N 0).bind fun i => (ixOf y Γ.N 0).bind fun j => (trSs n Γ b).map fun b' => .try_ b' c i j)
    | .AugAssign (.Name x _) .Add e _ => (nmOf Γ x).bind fun i => (trE M n Γ e).map fun e' => .aug i .add e'
    | .Assign [.Subscript o i _] e _ => gd (notSlice i && notComp e) ((trE M n Γ o).bind fun o' => (trE M n Γ i).bind fun i' => (trE M n Γ e).map fun e' => .setIx o' i' e')
    | .Assign [.Attribute o f _] e _ => gd (notComp e) ((ixOf f M.an 0).bind fun i => (trE M n Γ o).bind fun o' => (trE M n Γ e).map fun e' => .setFld o' i e')
    | .Assign [.Name x _] (.ListComp elt gs sc pos) _ => (nmOf Γ x).bind fun i => (trE M n Γ (.ListComp elt gs sc pos)).map fun e' => .asg (.nm i) e'
    | .Assign [.Name x _] e _ => gd (notComp e) ((nmOf Γ x).bind fun i => (trE M n Γ e).map fun e' => .asg (.nm i) e')
    | .Assign [.Tuple ts _ _] (.Tuple es _ _) _ => (trTs Γ n ts).bind fun ts' => (trEs M n Γ es).bind fun es' => gd (decide (ts'.length ≤ 20) && parOk Γ ts es) ((nmsOf ts').map fun is => .par is es')
    | .Assign [.Tuple ts _ _] e _ => gd (notComp e && (match e with | .Tuple _ _ _ => false | _ => true)) ((trTs Γ n ts).bind fun ts' => (trE M n Γ e).map fun e' => .asg (.tp ts') e')
    | _ => none
def trSs : Nat → Sc → List Stmt → Option (List S)
  | 0, _, _ => none
  | n + 1, _, [] => some []
  | n + 1, Γ, s :: ss => (trSs n Γ ss).map (((trS n Γ s).getD .bad) :: ·)
end
end
end Mp
set_option maxHeartbeats 4000000
/-! MiniPy, part 14: the translation says the same. -/
namespace Mp
open PySem PySem.Spec PyProof.Rows L2
structure OkX (M : Mg) (G : Gx) (C : Cl) (Γ : Sc) (X : Cx) (W : WX) : Prop where
  ok : Ok G X W
  N : X.N = Γ.N
  sc : X.env.scope = Γ.sc
  fnf : X.fn = Γ.fnf
  free : ∀ x, M.free.contains x = true → X.mg x = none
  fns : ∀ x f, look x M.fns = some f → FnH G C X x f
  exs : ∀ x c, look x M.exs = some c → ExcH G X x c
  intc : ∀ x i, look x M.intc = some i → ∃ t, X.mg x = some (.int i t)
  strc : ∀ x i, look x M.strc = some i → ∃ t, X.mg x = some (.str i t)
  sub : SubH G C
  ins : InsH G C X
  an : ∀ i f, M.an[i]? = some f → G.fnm i = f
  cls : ∀ x c, look x M.cls = some c → X.mg x = some (.ref (G.cc c)) ∧ (x == ("__debug__" : Str)) = false ∧ ∃ f, C.meth c 0 = some f ∧ Mk X.K (G.cc c) (G.fa f)
section
variable {M : Mg} {G : Gx} {C : Cl} {Γ : Sc} {X : Cx} {W : WX}
theorem ixOf_get {x : Str} : ∀ {l : List Str} {i k : Nat}, ixOf x l k = some i → k ≤ i ∧ l[i - k]? = some x
  | [], i, k, h => by cases h
  | y :: r, i, k, h => by
    unfold ixOf at h
    by_cases e : y = x
    · rw [if_pos e] at h
      cases h
      subst e
      exact ⟨Nat.le_refl _, by rw [Nat.sub_self]; rfl⟩
    · rw [if_neg e] at h
      obtain ⟨h1, h2⟩ := ixOf_get h
      refine ⟨by omega, ?_⟩
      have : i - k = (i - (k + 1)) + 1 := by omega
      rw [this]
      exact h2
theorem okName_ok {x : Str} (h : okName x = true) : (x == ("__debug__" : Str)) = false ∧ (x == ("__classdict__" : Str)) = false ∧ x ≠ "__name__" := by
  unfold okName at h
  simp only [Bool.and_eq_true, Bool.not_eq_true'] at h
  exact ⟨h.1.1, h.1.2, by simpa using h.2⟩
theorem slot_ok (o : OkX M G C Γ X W) {x : Str} {i : Nat} (h : slotOf Γ x = some i) : X.N[i]? = some x ∧ Vis X.env.scope x ∧ (x == ("__debug__" : Str)) = false ∧ (x == ("__classdict__" : Str)) = false := by
  unfold slotOf at h
  split at h
  · rename_i c
    rw [Bool.and_eq_true] at c
    obtain ⟨c1, c2⟩ := c
    obtain ⟨d1, d2, _⟩ := okName_ok c1
    refine ⟨?_, ?_, d1, d2⟩
    · rw [o.N]; simpa using (ixOf_get h).2
    · unfold Vis
      rw [o.sc]
      simp only [Bool.or_eq_true, decide_eq_true_eq] at c2
      rcases c2 with (c | c) | c
      · exact .inl c
      · exact .inr (.inl c)
      · exact .inr (.inr c)
  · cases h
theorem nm_ok (o : OkX M G C Γ X W) {x : Str} {i : Nat} (h : nmOf Γ x = some i) : Nm X i x := by
  unfold nmOf at h
  split at h
  · rename_i c
    have a : X.N[i]? = some x := by rw [o.N]; simpa using (ixOf_get h).2
    simp only [Bool.or_eq_true, Bool.and_eq_true, decide_eq_true_eq] at c
    rcases c with c | ⟨c, d⟩
    · exact ⟨a, .inl (by rw [o.sc]; exact c), .inr (by rw [o.sc]; exact c)⟩
    · exact ⟨a, .inr (by rw [o.sc]; exact c), .inl (by rw [o.fnf]; exact d)⟩
  · cases h
theorem gl_ok (o : OkX M G C Γ X W) {x : Str} (h : glOf Γ x = true) : Gl X x ∧ (x == ("__debug__" : Str)) = false ∧ x ≠ "__name__" := by
  unfold glOf at h
  rw [Bool.and_eq_true, decide_eq_true_eq] at h
  obtain ⟨d1, _, d3⟩ := okName_ok h.2
  refine ⟨?_, d1, d3⟩
  show X.env.scope.names.lookup x = _
  rw [o.sc]; exact h.1
theorem bi_ok (o : OkX M G C Γ X W) {x : Str} (h : glOf Γ x = true) (hf : M.free.contains x = true) : Bi X x :=
  ⟨(gl_ok o h).1, o.free x hf, (gl_ok o h).2.2, (gl_ok o h).2.1⟩
mutual
theorem trT_ok (o : OkX M G C Γ X W) : ∀ (n : Nat) (e : Expr) (t : T), trT Γ n e = some t → Tg X e t
  | 0, e, t, h => by cases e <;> cases h
  | n + 1, e, t, h => by
    cases e with
    | Name x p =>
      simp only [trT] at h
      cases hn : nmOf Γ x with
      | none => rw [hn] at h; cases h
      | some i => rw [hn] at h; cases h; exact .nm (nm_ok o hn)
    | Tuple es k p =>
      simp only [trT] at h
      cases hn : trTs Γ n es with
      | none => rw [hn] at h; cases h
      | some ts => rw [hn] at h; cases h; exact .tp (trTs_ok o n es ts hn)
    | _ => simp [trT] at h
theorem trTs_ok (o : OkX M G C Γ X W) : ∀ (n : Nat) (e : List Expr) (t : List T), trTs Γ n e = some t → TgL X e t
  | 0, e, t, h => by cases e <;> cases h
  | n + 1, e, t, h => by
    cases e with
    | nil => cases h; exact .nil
    | cons e es =>
      simp only [trTs] at h
      obtain ⟨t1, h1, h⟩ := bd h
      cases hn : trTs Γ n es with
      | none => rw [hn] at h; cases h
      | some ts => rw [hn] at h; cases h; exact .cons (trT_ok o n e t1 h1) (trTs_ok o n es ts hn)
end
theorem mp {α β : Type} {o : Option α} {f : α → β} {b : β} (h : o.map f = some b) : ∃ a, o = some a ∧ b = f a := by
  cases o with
  | none => cases h
  | some a => cases h; exact ⟨a, rfl, rfl⟩
theorem own_ix {N : List Str} {sc : Scope} {p : Str × Nat} (h : p ∈ ownOf N sc) : N[p.2]? = some p.1 := by
  unfold ownOf at h
  obtain ⟨⟨x, k⟩, _, hk⟩ := List.mem_filterMap.mp h
  cases k <;> simp only at hk <;> first | (cases hk; done) | skip
  all_goals
    obtain ⟨i, hi, rfl⟩ := mp hk
    simpa using (ixOf_get hi).2
/-- the context of a comprehension's block -/
theorem OkX.blk (o : OkX M G C Γ X W) (sc : Scope) (s : Shared) (H : Hp) (c : Addr) (cl : List (Str × Addr)) (fp : List Addr) : OkX M G C (inner Γ sc) (X.blk s H sc (compEnvC sc cl c X.env) fp) W0 where
  ok := ⟨o.ok.K, o.ok.w, o.ok.calm, takes0, o.ok.un, o.ok.nd⟩
  N := o.N
  sc := by
    show relS sc X.env.scope = relS sc Γ.sc
    rw [o.sc]
  fnf := rfl
  free := o.free
  fns := fun x f h => let F := o.fns x f h; ⟨F.ex, F.mg, F.kp, F.nd⟩
  exs := fun x c h => let F := o.exs x c h; ⟨F.mg, F.q, F.kp, F.b, F.t, F.nd⟩
  intc := o.intc
  strc := o.strc
  sub := o.sub
  ins := let I := o.ins; ⟨I.fi, I.me, I.na, I.ck, I.kb, I.q1, I.q2, I.q3, I.ne⟩
  an := o.an
  cls := o.cls
/-- .. of a try's body -/
theorem OkX.tr (o : OkX M G C Γ X W) {W' : WX} (pn : List (Addr × Obj)) (xe : Value → Shared → Prop) (tk : Takes (X.tr pn xe) W') : OkX M G C Γ (X.tr pn xe) W' where
  ok := ⟨o.ok.K, o.ok.w, o.ok.calm, tk, o.ok.un, o.ok.nd⟩
  N := o.N
  sc := o.sc
  fnf := o.fnf
  free := o.free
  fns := fun x f h => let F := o.fns x f h; ⟨F.ex, F.mg, F.kp, F.nd⟩
  exs := fun x c h => let F := o.exs x c h; ⟨F.mg, F.q, F.kp, F.b, F.t, F.nd⟩
  intc := o.intc
  strc := o.strc
  sub := o.sub
  ins := let I := o.ins; ⟨I.fi, I.me, I.na, I.ck, I.kb, I.q1, I.q2, I.q3, I.ne⟩
  an := o.an
  cls := o.cls
/-- .. of a loop's body -/
theorem an_ok (o : OkX M G C Γ X W) {f : Str} {i : Nat} (h : ixOf f M.an 0 = some i) : G.fnm i = f := o.an i f (by simpa using (ixOf_get h).2)
theorem OkX.lp (o : OkX M G C Γ X W) : OkX M G C Γ X (opW X W) := { o with ok := ⟨o.ok.K, o.ok.w, o.ok.calm, tk_op o.ok.tk, o.ok.un, o.ok.nd⟩ }
end
end Mp
set_option maxHeartbeats 8000000
/-! MiniPy, part 15: expressions, soundly. -/
namespace Mp
open PySem PySem.Spec PyProof.Rows L2
def isBo : Expr → Bool
  | .BoolOp _ _ _ => true
  | _ => false
structure Snd1 (G : Gx) (C : Cl) (X : Cx) (W : WX) (pe : Expr) (e : E) : Prop where
  v : PE X pe (tR G W (evR C e))
  t : isIf pe = false → PT X pe (tT G W fun σ h => ts (evR C e σ h))
  w : isBo pe = true → PW X pe (tT G W fun σ h => ts (evR C e σ h))
structure SndE (M : Mg) (G : Gx) (C : Cl) (n : Nat) : Prop where
  e : ∀ {Γ X W pe e}, OkX M G C Γ X W → trE M n Γ pe = some e → Snd1 G C X W pe e
  es : ∀ {Γ X W pes es}, OkX M G C Γ X W → trEs M n Γ pes = some es → PA X pes (tEs G W (evEs C es)) ∧ pes.all (fun e => !isStar e) = true
  p : ∀ {Γ X W lo l}, OkX M G C Γ X W → trP M n Γ lo = some l → PO X lo (tX G (rO G) W fun σ h => prtR l (vl (evR C l σ h)))
  i : ∀ {Γ X W tg pe i}, OkX M G C Γ X W → trI M n Γ (isTp tg) pe = some i → PI X tg pe (tI G X W (evI C i))
  f : ∀ {Γ X W pes es}, OkX M G C Γ X W → trF M n Γ pes = some es → Pts G X W C pes es
section
variable {M : Mg} {G : Gx} {C : Cl} {Γ : Sc} {X : Cx} {W : WX}
theorem Snd1.val {pe : Expr} {e : E} (h : PE X pe (tR G W (evR C e))) (hp : plainT pe = true) (hb : isBo pe = false) : Snd1 G C X W pe e :=
  ⟨h, fun _ => dt_val h hp, fun z => by rw [hb] at z; cases z⟩
theorem look_mem {α : Type} {P : Str → α → Prop} {x : Str} {a : α} : ∀ {l : List (Str × α)}, look x l = some a → (∀ p ∈ l, P p.1 p.2) → P x a
  | [], h, _ => by cases h
  | (y, b) :: r, h, f => by
    simp only [look] at h
    by_cases e : y = x
    · rw [if_pos e] at h
      cases h
      subst e
      exact f _ List.mem_cons_self
    · rw [if_neg e] at h
      exact look_mem h fun p hp => f p (List.mem_cons_of_mem _ hp)
theorem b1_ok (o : OkX M G C Γ X W) {x : Str} {b : B1} {a : Expr} {a' : E} {p pos : Pos} (hg : glOf Γ x = true) (hf : M.free.contains x = true) (hs : isStar a = false) (hb : b1Of x = some b) (ha : PE X a (tR G W (evR C a'))) :
    PE X (.Call (.Name x p) [a] [] pos) (tR G W (evR C (.b1 b a'))) := by
  have bi := bi_ok o hg hf
  revert bi
  refine look_mem (P := fun x b => Bi X x → PE X (.Call (.Name x p) [a] [] pos) (tR G W (evR C (.b1 b a')))) hb ?_
  intro q hq
  simp only [List.mem_cons, List.not_mem_nil, or_false] at hq
  rcases hq with rfl | rfl | rfl | rfl | rfl | rfl | rfl | rfl | rfl | rfl
  · exact fun bi => de_len o.ok bi hs ha
  · exact fun bi => de_int_ bi hs ha
  · exact fun bi => de_str_ bi hs ha
  · exact fun bi => de_tuple o.ok bi hs ha
  · exact fun bi => de_list o.ok bi hs ha
  · exact fun bi => de_all o.ok bi hs ha
  · exact fun bi => de_any o.ok bi hs ha
  · exact fun bi => de_sum o.ok bi hs ha
  · exact fun bi => de_max o.ok bi hs ha
  · exact fun bi => de_min o.ok bi hs ha
theorem b2_ok (o : OkX M G C Γ X W) {x : Str} {f : B2} {a b : Expr} {a' b' : E} {p pos : Pos} (hg : glOf Γ x = true) (hf : M.free.contains x = true) (hs : isStar a = false) (hs2 : isStar b = false) (hb : b2Of x = some f) (ha : PE X a (tR G W (evR C a'))) (hb' : PE X b (tR G W (evR C b'))) :
    PE X (.Call (.Name x p) [a, b] [] pos) (tR G W (evR C (.b2 f a' b'))) := by
  have bi := bi_ok o hg hf
  revert bi
  refine look_mem (P := fun x f => Bi X x → PE X (.Call (.Name x p) [a, b] [] pos) (tR G W (evR C (.b2 f a' b')))) hb ?_
  intro q hq
  simp only [List.mem_cons, List.not_mem_nil, or_false] at hq
  rcases hq with rfl | rfl | rfl
  · exact fun bi => de_max2 o.ok bi hs hs2 ha hb'
  · exact fun bi => de_min2 o.ok bi hs hs2 ha hb'
  · exact fun bi => de_divmod bi hs hs2 ha hb'
theorem isi_ok (o : OkX M G C Γ X W) {x : Str} {t : Ty} {a : Expr} {a' : E} {p p2 pos : Pos} (hg : glOf Γ "isinstance" = true) (hf : M.free.contains "isinstance" = true) (hg2 : glOf Γ x = true) (hf2 : M.free.contains x = true) (hs : isStar a = false) (ht : tyOf x = some t) (ha : PE X a (tR G W (evR C a'))) :
    PE X (.Call (.Name "isinstance" p) [a, .Name x p2] [] pos) (tR G W (evR C (.isi a' [t]))) := by
  have bi := bi_ok o hg hf
  have bt := bi_ok o hg2 hf2
  revert bt
  refine look_mem (P := fun x t => Bi X x → PE X (.Call (.Name "isinstance" p) [a, .Name x p2] [] pos) (tR G W (evR C (.isi a' [t])))) ht ?_
  intro q hq
  simp only [List.mem_cons, List.not_mem_nil, or_false] at hq
  rcases hq with rfl | rfl | rfl | rfl | rfl | rfl
  all_goals exact fun bt => de_isi1 o.ok bi bt (by decide +kernel) hs rfl ha
theorem m1_ok (o : OkX M G C Γ X W) {m : Str} {k : M1} {ob a : Expr} {o' a' : E} {apos pos : Pos} (hs : isStar a = false) (hab : abOk ob = true) (hl : (apos.endLine == pos.line) = true) (hk : m1Of m = some k) (ho : PE X ob (tR G W (evR C o'))) (ha : PE X a (tR G W (evR C a'))) :
    PE X (.Call (.Attribute ob m apos) [a] [] pos) (tR G W (evR C (.m1 k o' a'))) := by
  refine look_mem (P := fun m k => PE X (.Call (.Attribute ob m apos) [a] [] pos) (tR G W (evR C (.m1 k o' a')))) hk ?_
  intro q hq
  simp only [List.mem_cons, List.not_mem_nil, or_false] at hq
  rcases hq with rfl | rfl | rfl | rfl | rfl | rfl | rfl
  · exact de_append' hs hab hl ho ha
  · exact de_join o.ok hs hab hl ho ha
  · exact de_index o.ok hs hab hl ho ha
  · exact de_count o.ok hs hab hl ho ha
  · exact de_pop1 hs hab hl ho ha
  · exact de_extend hs hab hl ho ha
  · exact de_split hs hab hl ho ha
theorem m0_ok (o : OkX M G C Γ X W) {m : Str} {k : M0} {ob : Expr} {o' : E} {apos pos : Pos} (hab : abOk ob = true) (hl : (apos.endLine == pos.line) = true) (hk : m0Of m = some k) (ho : PE X ob (tR G W (evR C o'))) :
    PE X (.Call (.Attribute ob m apos) [] [] pos) (tR G W (evR C (.m0 k o'))) := by
  refine look_mem (P := fun m k => PE X (.Call (.Attribute ob m apos) [] [] pos) (tR G W (evR C (.m0 k o')))) hk ?_
  intro q hq
  simp only [List.mem_cons, List.not_mem_nil, or_false] at hq
  subst hq
  exact de_pop0 hab hl ho
end
end Mp
set_option maxHeartbeats 8000000
/-! MiniPy, part 16: expressions, soundly: all. -/
namespace Mp
open PySem PySem.Spec PyProof.Rows L2
section
variable {M : Mg} {G : Gx} {C : Cl}
theorem mpp {α β : Type} {o : Option α} {f : α → β} {b : β} (h : o.map f = some b) : ∃ a, o = some a ∧ f a = b := by
  obtain ⟨a, h1, h2⟩ := mp h
  exact ⟨a, h1, h2.symm⟩
theorem star_f {e : Expr} (h : (!isStar e) = true) : isStar e = false := by simpa using h
theorem if_f {e : Expr} (h : (!isIf e) = true) : isIf e = false := by simpa using h
section
variable {X : Cx} {W : WX} {pos : Pos} {a b c : Expr} {fa fb fc : Sl → Hd → R (Rv × Hd)}
theorem de_cmp' (ok : Ok G X W) (ih : InsH G C X) (op : CmpOp) (ha : PE X a (tR G W fa)) (hb : PE X b (tR G W fb)) (hm : notSet b = true) : PE X (.Compare a [op] [b] pos) (tR G W fun σ h => vl (fa σ h) >>= fun p => vl (fb σ p.2) >>= fun q => rv (cmpC C (copOf op) p.1 q.1 q.2)) := by
  have := de_cmpC (C := C) (pos := pos) ok ih (copOf op) ha hb hm
  rwa [cOf_copOf] at this
theorem dt_cmp' (ok : Ok G X W) (ih : InsH G C X) (op : CmpOp) (ha : PE X a (tR G W fa)) (hb : PE X b (tR G W fb)) (hm : notSet b = true) : PT X (.Compare a [op] [b] pos) (tT G W fun σ h => ts (vl (fa σ h) >>= fun p => vl (fb σ p.2) >>= fun q => rv (cmpC C (copOf op) p.1 q.1 q.2))) := by
  have := dt_cmpC (C := C) (pos := pos) ok ih (copOf op) ha hb hm
  rwa [cOf_copOf] at this
theorem de_chn' (ok : Ok G X W) (o p : CmpOp) (ha : PE X a (tR G W fa)) (hb : PE X b (tR G W fb)) (hc : PE X c (tR G W fc)) (hm : notSet c = true) :
    PE X (.Compare a [o, p] [b, c] pos) (tR G W fun σ h => vl (fa σ h) >>= fun q => vl (fb σ q.2) >>= fun q' => cmpD (copOf o) q.1 q'.1 q'.2 >>= fun r => if r then vl (fc σ q'.2) >>= fun z => cmpD (copOf p) q'.1 z.1 z.2 >>= fun r2 => .ok (.v (.bl r2), z.2) else .ok (.v (.bl false), q'.2)) := by
  have := de_chn (pos := pos) ok (copOf o) (copOf p) ha hb hc hm
  rwa [cOf_copOf, cOf_copOf] at this
theorem dt_chn' (ok : Ok G X W) (o p : CmpOp) (ha : PE X a (tR G W fa)) (hb : PE X b (tR G W fb)) (hc : PE X c (tR G W fc)) (hm : notSet c = true) :
    PT X (.Compare a [o, p] [b, c] pos) (tT G W fun σ h => ts (vl (fa σ h) >>= fun q => vl (fb σ q.2) >>= fun q' => cmpD (copOf o) q.1 q'.1 q'.2 >>= fun r => if r then vl (fc σ q'.2) >>= fun z => cmpD (copOf p) q'.1 z.1 z.2 >>= fun r2 => .ok (.v (.bl r2), z.2) else .ok (.v (.bl false), q'.2))) := by
  have := dt_chn (pos := pos) ok (copOf o) (copOf p) ha hb hc hm
  rwa [cOf_copOf, cOf_copOf] at this
end
theorem all_cont {l : List Nat} {ow : List Nat} (h : (l.all fun j => ow.contains j) = true) : ∀ j, j ∈ l → j ∈ ow := fun j hj => by
  have := List.all_eq_true.mp h j hj
  simpa using this
theorem blk_ok {Γ : Sc} {X : Cx} {W : WX} (o : OkX M G C Γ X W) {sc : Scope} (h : blkC Γ.N Γ.sc sc (ownOf Γ.N sc) = true) : BlkOk X.N X.env.scope sc (ownOf Γ.N sc) := by
  rw [o.N, o.sc]
  exact blkOk_by h
theorem call_ok {n : Nat} {Γ : Sc} {X : Cx} {W : WX} (o : OkX M G C Γ X W) {x : Str} {es : List Expr} {es' : List E} {f : Nat} {p pos : Pos} (hg : glOf Γ x = true) (hs : es.all (fun e => !isStar e) = true) (hf : look x M.fns = some f) (he : trEs M n Γ es = some es') (ha : PA X es (tEs G W (evEs C es'))) :
    PE X (.Call (.Name x p) es [] pos) (tR G W (evR C (.call f es'))) := by
  have F := o.fns _ _ hf
  have gl := (gl_ok o hg).1
  cases es with
  | nil =>
    cases n with
    | zero => cases he
    | succ n => cases he; exact de_call0 F gl
  | cons e es =>
    cases n with
    | zero => cases he
    | succ n =>
      unfold trEs at he
      obtain ⟨_, he⟩ := gd_some he
      obtain ⟨e1, _, he⟩ := bd he
      obtain ⟨es1, _, rfl⟩ := mpp he
      rw [List.all_cons, Bool.and_eq_true] at hs
      exact de_call o.ok F gl (star_f hs.1) hs.2 ha
def biT (M : Mg) (n : Nat) (Γ : Sc) (x : Str) (es : List Expr) : Option E := match es with
  | [a] => (b1Of x).bind fun b => (trE M n Γ a).map fun a' => .b1 b a'
  | [a, b] => match x == ("isinstance" : Str) with
    | true => match b with
      | .Name t _ => match look t M.exs with
        | some c => gd (glOf Γ t) ((trE M n Γ a).map fun a' => .isi a' [.own c])
        | none => match look t M.cls with
          | some c => gd (glOf Γ t) ((trE M n Γ a).map fun a' => .isi a' [.cls c])
          | none => match t == ("ValueError" : Str) with
          | true => gd (glOf Γ t && M.free.contains t) ((trE M n Γ a).map fun a' => .isi a' [.verr])
          | false => gd (glOf Γ t && M.free.contains t) ((tyOf t).bind fun ty => (trE M n Γ a).map fun a' => .isi a' [ty])
      | _ => none
    | false => (b2Of x).bind fun f => (trE M n Γ a).bind fun a' => (trE M n Γ b).map fun b' => .b2 f a' b'
  | _ => none
theorem isiV_ok {n : Nat} (ih : SndE M G C n) {Γ : Sc} {X : Cx} {W : WX} (o : OkX M G C Γ X W) {x t : Str} {a : Expr} {e : E} {p p2 pos : Pos} (ht : t = "ValueError") (hx : x = "isinstance") (hg : glOf Γ x = true) (hf : M.free.contains x = true) (hs : isStar a = false)
    (h : gd (glOf Γ t && M.free.contains t) ((trE M n Γ a).map fun a' => E.isi a' [.verr]) = some e) : Snd1 G C X W (.Call (.Name x p) [a, .Name t p2] [] pos) e := by
  subst hx ht
  obtain ⟨hg2, h⟩ := gd_some h
  rw [Bool.and_eq_true] at hg2
  obtain ⟨a', ha, rfl⟩ := mpp h
  exact .val (de_isiV o.ok o.sub (bi_ok o hg hf) (bi_ok o hg2.1 hg2.2) hs (ih.e o ha).v) rfl rfl
theorem isi2_ok {n : Nat} (ih : SndE M G C n) {Γ : Sc} {X : Cx} {W : WX} (o : OkX M G C Γ X W) {x : Str} {a b : Expr} {e : E} {p pos : Pos} (hx : x = "isinstance") (hg : glOf Γ x = true) (hf : M.free.contains x = true) (hs : isStar a = false)
    (h : (match b with
      | .Name t _ => match look t M.exs with
        | some c => gd (glOf Γ t) ((trE M n Γ a).map fun a' => E.isi a' [.own c])
        | none => match look t M.cls with
          | some c => gd (glOf Γ t) ((trE M n Γ a).map fun a' => E.isi a' [.cls c])
          | none => match t == ("ValueError" : Str) with
          | true => gd (glOf Γ t && M.free.contains t) ((trE M n Γ a).map fun a' => E.isi a' [.verr])
          | false => gd (glOf Γ t && M.free.contains t) ((tyOf t).bind fun ty => (trE M n Γ a).map fun a' => E.isi a' [ty])
      | _ => none) = some e) : Snd1 G C X W (.Call (.Name x p) [a, b] [] pos) e := by
  split at h
  · split at h
    · rename_i c hc
      subst hx
      obtain ⟨hg2, h⟩ := gd_some h
      obtain ⟨a', ha, rfl⟩ := mpp h
      have Eh := o.exs _ _ hc
      exact .val (de_isiX o.ok o.sub (bi_ok o hg hf) (gl_ok o hg2).1 Eh.mg Eh.nd hs (ih.e o ha).v) rfl rfl
    · split at h
      · rename_i c hc
        subst hx
        obtain ⟨hg2, h⟩ := gd_some h
        obtain ⟨a', ha, rfl⟩ := mpp h
        obtain ⟨cm, cd, _⟩ := o.cls _ _ hc
        exact .val (de_isiC o.ok o.ins (bi_ok o hg hf) (gl_ok o hg2).1 cm cd hs (ih.e o ha).v) rfl rfl
      · split at h
        · rename_i hv
          exact isiV_ok ih o (beq_iff_eq.mp hv) hx hg hf hs h
        · subst hx
          obtain ⟨hg2, h⟩ := gd_some h
          rw [Bool.and_eq_true] at hg2
          obtain ⟨ty, hty, h⟩ := bd h
          obtain ⟨a', ha, rfl⟩ := mpp h
          exact .val (isi_ok o hg hf hg2.1 hg2.2 hs hty (ih.e o ha).v) rfl rfl
  · cases h
theorem bi2_ok {n : Nat} (ih : SndE M G C n) {Γ : Sc} {X : Cx} {W : WX} (o : OkX M G C Γ X W) {x : Str} {es : List Expr} {e : E} {p pos : Pos} (hg : glOf Γ x = true) (hf : M.free.contains x = true) (hs : es.all (fun e => !isStar e) = true)
    (h : biT M n Γ x es = some e) : Snd1 G C X W (.Call (.Name x p) es [] pos) e := by
  match es, hs, h with
  | [], hs, h => cases h
  | [a], hs, h =>
    obtain ⟨b, hb, h⟩ := bd h
    obtain ⟨a', ha, rfl⟩ := mpp h
    exact .val (b1_ok o hg hf (star_f (by simpa using hs)) hb (ih.e o ha).v) rfl rfl
  | [a, b], hs, h =>
    simp only [List.all_cons, List.all_nil, Bool.and_true, Bool.and_eq_true] at hs
    unfold biT at h
    cases hx : x == ("isinstance" : Str) with
    | true =>
      simp only [hx] at h
      exact isi2_ok ih o (beq_iff_eq.mp hx) hg hf (star_f hs.1) h
    | false =>
      simp only [hx] at h
      obtain ⟨f, hb, h⟩ := bd h
      obtain ⟨a', ha, h⟩ := bd h
      obtain ⟨b', hb', rfl⟩ := mpp h
      exact .val (b2_ok o hg hf (star_f hs.1) (star_f hs.2) hb (ih.e o ha).v (ih.e o hb').v) rfl rfl
  | _ :: _ :: _ :: _, hs, h => cases h
theorem mk_ok {Γ : Sc} {X : Cx} {W : WX} (o : OkX M G C Γ X W) {x : Str} {es : List Expr} {es' : List E} {c : Nat} {p pos : Pos} (hg : glOf Γ x = true) (hs : es.all (fun e => !isStar e) = true) (hc : look x M.cls = some c) (hn : (!es.isEmpty) = true) (ha : PA X es (tEs G W (evEs C es'))) :
    PE X (.Call (.Name x p) es [] pos) (tR G W (evR C (.mk c es'))) := by
  obtain ⟨cm, cd, f, hf, mk⟩ := o.cls _ _ hc
  cases es with
  | nil => cases hn
  | cons e es => exact de_mk1 o.ok o.ins hf mk (gl_ok o hg).1 cm cd ha hs
theorem um_ok {Γ : Sc} {X : Cx} {W : WX} (o : OkX M G C Γ X W) {ob a : Expr} {m : Str} {es : List Expr} {o' : E} {es' : List E} {i : Nat} {apos pos : Pos} (hab : abOk ob = true) (hl : (apos.endLine == pos.line) = true) (hi : ixOf m M.an 0 = some i) (hs : (a :: es).all (fun e => !isStar e) = true) (hn : (a :: es).length < 30) (ho : PE X ob (tR G W (evR C o'))) (ha : PA X (a :: es) (tEs G W (evEs C es'))) :
    PE X (.Call (.Attribute ob m apos) (a :: es) [] pos) (tR G W (evR C (.um i o' es'))) := by
  have := de_um1 (C := C) (i := i) (pos := pos) (apos := apos) o.ok o.ins ho ha hab hs hn hl
  rw [an_ok o hi] at this
  exact this
theorem um0_ok {Γ : Sc} {X : Cx} {W : WX} (o : OkX M G C Γ X W) {ob : Expr} {m : Str} {o' : E} {i : Nat} {apos pos : Pos} (hab : abOk ob = true) (hl : (apos.endLine == pos.line) = true) (hi : ixOf m M.an 0 = some i) (ho : PE X ob (tR G W (evR C o'))) :
    PE X (.Call (.Attribute ob m apos) [] [] pos) (tR G W (evR C (.um i o' []))) := by
  have := de_um0 (C := C) (i := i) (pos := pos) (apos := apos) o.ok o.ins ho hab hl
  rw [an_ok o hi] at this
  exact this
theorem fld_ok {Γ : Sc} {X : Cx} {W : WX} (o : OkX M G C Γ X W) {ob : Expr} {f : Str} {o' : E} {i : Nat} {pos : Pos} (hab : abOk ob = true) (hi : ixOf f M.an 0 = some i) (ho : PE X ob (tR G W (evR C o'))) :
    PE X (.Attribute ob f pos) (tR G W (evR C (.fld o' i))) := by
  have := de_fld (C := C) (i := i) (pos := pos) o.ins hab ho
  rw [an_ok o hi] at this
  exact this
theorem fs_ok {X : Cx} {W : WX} {es : List Expr} {fs : List E} {pos : Pos} (hl : 2 ≤ es.length) (h : Pts G X W C es fs) : PE X (.JoinedStr es pos) (tR G W (evR C (.fs fs))) := by
  match es, hl, h with
  | e1 :: e2 :: es, _, h => exact de_fs h
  | [], hl, _ => exact absurd hl (by simp)
  | [_], hl, _ => exact absurd hl (by simp)
theorem sndE_e {n : Nat} (ih : SndE M G C n) {Γ : Sc} {X : Cx} {W : WX} {pe : Expr} {e : E} (o : OkX M G C Γ X W) (h : trE M (n + 1) Γ pe = some e) : Snd1 G C X W pe e := by
  unfold trE at h
  split at h
  · -- Name
    rename_i x p
    split at h
    · rename_i i hi
      cases h
      obtain ⟨h1, h2, h3, h4⟩ := slot_ok o hi
      exact .val (de_v h1 h2 h3 h4) rfl rfl
    · obtain ⟨hg, h⟩ := gd_some h
      obtain ⟨gl, nd, nn⟩ := gl_ok o hg
      split at h
      · rename_i i hi
        cases h
        exact .val (de_gint (o.intc _ _ hi) gl nd) rfl rfl
      · obtain ⟨s, hs, rfl⟩ := mpp h
        exact .val (de_gstr (o.strc _ _ hs) gl nd) rfl rfl
  · cases h; exact .val de_int rfl rfl
  · cases h; exact .val de_bl rfl rfl
  · cases h; exact .val de_non rfl rfl
  · cases h; exact .val de_str rfl rfl
  · obtain ⟨op, ho, h⟩ := bd h
    obtain ⟨a', ha, h⟩ := bd h
    obtain ⟨b', hb, rfl⟩ := mpp h
    rw [← opOf_bopOf ho]
    exact .val (de_bin o.ok op (ih.e o ha).v (ih.e o hb).v) rfl rfl
  · obtain ⟨a', ha, rfl⟩ := mpp h
    exact .val (de_neg (ih.e o ha).v) rfl rfl
  · obtain ⟨hi, h⟩ := gd_some h
    obtain ⟨a', ha, rfl⟩ := mpp h
    exact ⟨de_not (.inr trivial) (ih.e o ha).v, fun _ => dt_not ((ih.e o ha).t (if_f hi)), fun z => by cases z⟩
  · obtain ⟨hs, h⟩ := gd_some h
    obtain ⟨a', ha, h⟩ := bd h
    obtain ⟨b', hb, rfl⟩ := mpp h
    exact ⟨de_cmp' o.ok o.ins _ (ih.e o ha).v (ih.e o hb).v hs, fun _ => dt_cmp' o.ok o.ins _ (ih.e o ha).v (ih.e o hb).v hs, fun z => by cases z⟩
  · obtain ⟨hs, h⟩ := gd_some h
    obtain ⟨a', ha, h⟩ := bd h
    obtain ⟨b', hb, h⟩ := bd h
    obtain ⟨c', hc, rfl⟩ := mpp h
    exact ⟨de_chn' o.ok _ _ (ih.e o ha).v (ih.e o hb).v (ih.e o hc).v hs, fun _ => dt_chn' o.ok _ _ (ih.e o ha).v (ih.e o hb).v (ih.e o hc).v hs, fun z => by cases z⟩
  · -- BoolOp, one
    obtain ⟨hi, ha⟩ := gd_some h
    have A := ih.e o ha
    rename_i op _ _
    have hw : ∀ pos, PW X (.BoolOp op [_] pos) (tT G W fun σ h => ts (evR C e σ h)) := fun pos => dw_one (by cases op; exact .inl rfl; exact .inr rfl) (A.t (if_f hi))
    exact ⟨de_one A.v, fun _ => (hw _).pt, fun _ => hw _⟩
  · obtain ⟨hi, h⟩ := gd_some h
    obtain ⟨a', ha, h⟩ := bd h
    obtain ⟨b', hb, rfl⟩ := mpp h
    have A := ih.e o ha
    have B := ih.e o hb
    have hw := dw_and (A.t (if_f hi)) (B.w rfl)
    exact ⟨de_and A.v B.v, fun _ => hw.pt, fun _ => hw⟩
  · obtain ⟨hi, h⟩ := gd_some h
    obtain ⟨a', ha, h⟩ := bd h
    obtain ⟨b', hb, rfl⟩ := mpp h
    have A := ih.e o ha
    have B := ih.e o hb
    have hw := dw_or (A.t (if_f hi)) (B.w rfl)
    exact ⟨de_or A.v B.v, fun _ => hw.pt, fun _ => hw⟩
  · obtain ⟨hi, h⟩ := gd_some h
    obtain ⟨t', ht, h⟩ := bd h
    obtain ⟨a', ha, h⟩ := bd h
    obtain ⟨b', hb, rfl⟩ := mpp h
    exact ⟨de_ite ((ih.e o ht).t (if_f hi)) (ih.e o ha).v (ih.e o hb).v, fun z => (by cases z), fun z => by cases z⟩
  · obtain ⟨es', he, rfl⟩ := mpp h
    exact .val (de_tup (ih.es o he).1) rfl rfl
  · obtain ⟨es', he, rfl⟩ := mpp h
    exact .val (de_lst (ih.es o he).1) rfl rfl
  · obtain ⟨a', ha, rfl⟩ := mpp h
    exact .val (de_rv o.ok (ih.e o ha).v) rfl rfl
  · obtain ⟨a', ha, h⟩ := bd h
    obtain ⟨l, hl, h⟩ := bd h
    obtain ⟨u, hu, rfl⟩ := mpp h
    exact .val (de_sl o.ok (ih.e o ha).v (ih.p o hl) (ih.p o hu)) rfl rfl
  · obtain ⟨hs, h⟩ := gd_some h
    obtain ⟨a', ha, h⟩ := bd h
    obtain ⟨i', hi, rfl⟩ := mpp h
    exact .val (de_ixC o.ok (ih.e o ha).v (ih.e o hi).v hs) rfl rfl
  · -- a call by name
    obtain ⟨hg, h⟩ := gd_some h
    rw [Bool.and_eq_true] at hg
    split at h
    · rename_i f hf
      obtain ⟨es', he, rfl⟩ := mpp h
      have A := ih.es o he
      exact .val (call_ok o hg.1 hg.2 hf he A.1) rfl rfl
    · split at h
      · rename_i c hc
        obtain ⟨hn, h⟩ := gd_some h
        obtain ⟨es', he, rfl⟩ := mpp h
        exact .val (mk_ok o hg.1 hg.2 hc hn (ih.es o he).1) rfl rfl
      · obtain ⟨hf, h⟩ := gd_some h
        exact bi2_ok ih o hg.1 hf hg.2 h
  · obtain ⟨hg, h⟩ := gd_some h
    simp only [Bool.and_eq_true] at hg
    split at h
    · rename_i k hk
      obtain ⟨o', ho, h⟩ := bd h
      obtain ⟨a', ha, rfl⟩ := mpp h
      exact .val (m1_ok o (star_f hg.1.1) hg.1.2 hg.2 hk (ih.e o ho).v (ih.e o ha).v) rfl rfl
    · obtain ⟨i, hi, h⟩ := bd h
      obtain ⟨o', ho, h⟩ := bd h
      obtain ⟨a', ha, rfl⟩ := mpp h
      exact .val (um_ok o hg.1.2 hg.2 hi (by simp [hg.1.1]) (by simp) (ih.e o ho).v (da_cons (star_f hg.1.1) (ih.e o ha).v da_nil)) rfl rfl
  · obtain ⟨hg, h⟩ := gd_some h
    simp only [Bool.and_eq_true] at hg
    split at h
    · rename_i k hk
      obtain ⟨o', ho, rfl⟩ := mpp h
      exact .val (m0_ok o hg.1 hg.2 hk (ih.e o ho).v) rfl rfl
    · obtain ⟨i, hi, h⟩ := bd h
      obtain ⟨o', ho, rfl⟩ := mpp h
      exact .val (um0_ok o hg.1 hg.2 hi (ih.e o ho).v) rfl rfl
  · obtain ⟨hg, h⟩ := gd_some h
    simp only [Bool.and_eq_true, decide_eq_true_eq] at hg
    obtain ⟨i, hi, h⟩ := bd h
    obtain ⟨o', ho, h⟩ := bd h
    obtain ⟨es', he, rfl⟩ := mpp h
    exact .val (um_ok o hg.1 hg.2.1 hi hg.2.2.2 (by simp; omega) (ih.e o ho).v (ih.es o he).1) rfl rfl
  · obtain ⟨hg, h⟩ := gd_some h
    obtain ⟨i, hi, h⟩ := bd h
    obtain ⟨o', ho, rfl⟩ := mpp h
    exact .val (fld_ok o hg hi (ih.e o ho).v) rfl rfl
  · obtain ⟨hl, h⟩ := gd_some h
    obtain ⟨fs, hf, rfl⟩ := mpp h
    exact .val (fs_ok (of_decide_eq_true hl) (ih.f o hf)) rfl rfl
  · obtain ⟨hg, h⟩ := gd_some h
    rw [Bool.and_eq_true] at hg
    obtain ⟨t, ht, h⟩ := bd h
    obtain ⟨hsl, h⟩ := gd_some h
    obtain ⟨i, hi, h⟩ := bd h
    obtain ⟨e', he, h⟩ := bd h
    obtain ⟨c', hc, rfl⟩ := mpp h
    refine .val (de_comp o.ok (ih.i o hi) (blk_ok o hg.1) (all_cont hsl) (fun s H c cl fp => trT_ok (o.blk _ s H c cl fp) _ _ _ ht) (fun s H c cl fp => ?_) (fun s H c cl fp => (ih.e (o.blk _ s H c cl fp) he).v) hg.2) rfl rfl
    split at hc
    · cases hc
      exact dts_nil
    · obtain ⟨hi2, hc⟩ := gd_some hc
      exact dts_one ((ih.e (o.blk _ s H c cl fp) hc).t (if_f hi2))
    · cases hc
  · cases h
theorem sndE : ∀ n, SndE M G C n
  | 0 => by
    refine ⟨fun {Γ X W pe e} o h => ?_, fun {Γ X W pes es} o h => ?_, fun {Γ X W lo l} o h => ?_, fun {Γ X W tg pe i} o h => ?_, fun {Γ X W pes es} o h => ?_⟩
    all_goals cases h
  | n + 1 => by
    have ih := sndE n
    refine ⟨fun o h => sndE_e ih o h, fun {Γ X W pes es} o h => ?_, fun {Γ X W lo l} o h => ?_, fun {Γ X W tg pe i} o h => ?_, fun {Γ X W pes es} o h => ?_⟩
    · cases pes with
      | nil => cases h; exact ⟨da_nil, rfl⟩
      | cons p ps =>
        unfold trEs at h
        obtain ⟨hs, h⟩ := gd_some h
        obtain ⟨e', he, h⟩ := bd h
        obtain ⟨es', hes, rfl⟩ := mpp h
        refine ⟨da_cons (star_f hs) (ih.e o he).v (ih.es o hes).1, ?_⟩
        rw [List.all_cons, hs, (ih.es o hes).2]; rfl
    · cases lo with
      | none => cases h; exact do_none
      | some p =>
        unfold trP at h
        obtain ⟨e', he, h⟩ := bd h
        obtain ⟨hn, h⟩ := gd_some h
        cases h
        have hn : isNon l = false := by simpa using hn
        have : (fun σ h => prtR l (vl (evR C l σ h))) = fun σ h => numR (vl (evR C l σ h)) := by funext σ h; unfold prtR; rw [hn]; rfl
        rw [this]
        exact do_some (ih.e o he).v
    · unfold trI at h
      split at h
      · split at h
        · rename_i hx
          simp only [Bool.and_eq_true, beq_iff_eq] at hx
          obtain ⟨⟨rfl, hf⟩, hg⟩ := hx
          obtain ⟨hs, h⟩ := gd_some h
          obtain ⟨a', ha, rfl⟩ := mpp h
          exact di_rng1 (bi_ok o hg hf) (star_f hs) (ih.e o ha).v
        · split at h
          · rename_i hx
            simp only [Bool.and_eq_true, beq_iff_eq] at hx
            obtain ⟨⟨rfl, hf⟩, hg⟩ := hx
            obtain ⟨hs, h⟩ := gd_some h
            rw [Bool.and_eq_true] at hs
            obtain ⟨a', ha, rfl⟩ := mpp h
            cases tg with
            | Tuple ts kk tp => exact di_enumA o.ok (bi_ok o hg hf) (star_f hs.1) (ih.e o ha).v
            | _ => exact absurd hs.2 (by simp [isTp])
          · obtain ⟨e', he, rfl⟩ := mpp h
            exact di_sq o.ok (ih.e o he).v
      · split at h
        · rename_i hx
          simp only [Bool.and_eq_true, beq_iff_eq] at hx
          obtain ⟨⟨rfl, hf⟩, hg⟩ := hx
          obtain ⟨hs, h⟩ := gd_some h
          rw [Bool.and_eq_true] at hs
          obtain ⟨a', ha, h⟩ := bd h
          obtain ⟨b', hb, rfl⟩ := mpp h
          exact di_rng2 (bi_ok o hg hf) (star_f hs.1) (star_f hs.2) (ih.e o ha).v (ih.e o hb).v
        · split at h
          · rename_i hx
            simp only [Bool.and_eq_true, beq_iff_eq] at hx
            obtain ⟨⟨rfl, hf⟩, hg⟩ := hx
            obtain ⟨hs, h⟩ := gd_some h
            simp only [Bool.and_eq_true] at hs
            obtain ⟨a', ha, h⟩ := bd h
            obtain ⟨b', hb, rfl⟩ := mpp h
            cases tg with
            | Tuple ts kk tp => exact di_zip o.ok (bi_ok o hg hf) (star_f hs.1.1) (star_f hs.1.2) (ih.e o ha).v (ih.e o hb).v
            | _ => exact absurd hs.2 (by simp [isTp])
          · obtain ⟨e', he, rfl⟩ := mpp h
            exact di_sq o.ok (ih.e o he).v
      · obtain ⟨e', he, rfl⟩ := mpp h
        exact di_sq o.ok (ih.e o he).v
    · cases pes with
      | nil => cases h; exact .nil
      | cons p ps =>
        unfold trF at h
        split at h
        · obtain ⟨fs, hf, rfl⟩ := mpp h
          exact .str (ih.f o hf)
        · obtain ⟨e', he, h⟩ := bd h
          obtain ⟨fs, hf, rfl⟩ := mpp h
          exact .fmt (ih.e o he).v (ih.f o hf)
        · cases h
end
end Mp
set_option maxHeartbeats 8000000
/-! MiniPy, part 17: statements, soundly. -/
namespace Mp
open PySem PySem.Spec PyProof.Rows L2
section
variable {G : Gx} {X : Cx} {W : WX} {pos : Pos} {a b c : Expr} {es : List Expr} {fs : Sl → Hd → R (List D × Hd)} {x y w : Str}
theorem len3 {α : Type} {l : List α} (h : l.length = 3) : ∃ a b c, l = [a, b, c] := by
  match l, h with
  | [a, b, c], _ => exact ⟨a, b, c, rfl⟩
theorem ds_par3 {i j l : Nat} {px py pz pt pv : Pos} {k k2 : Nat} (ok : Ok G X W) (nx : Nm X i x) (ny : Nm X j y) (nz : Nm X l w) (hx : X.env.scope.names.lookup x = some .local) (hy : X.env.scope.names.lookup y = some .local) (hz : X.env.scope.names.lookup w = some .local) (hij : i ≠ j) (hil : i ≠ l) (hjl : j ≠ l) (ha : PA X [a, b, c] (tEs G W fs))
    (hw : swappedStores [.Tuple [.Name x px, .Name y py, .Name w pz] k pt] (.Tuple [a, b, c] k2 pv) X.env = pure (some [x, y, w])) : PS X (.Assign [.Tuple [.Name x px, .Name y py, .Name w pz] k pt] (.Tuple [a, b, c] k2 pv) pos) (tS G W fun σ h => thenF σ (fs σ h) (parF [i, j, l] σ)) :=
  (ps_par3 ok.calm ok.nd nx.at_ ny.at_ nz.at_ hij hil hjl hx hy hz ha hw rfl).imp fun D σ H ⟨α, σD, hd, s, l', z⟩ => tX_then (Rel := rDs G) s l' z fun ds h1 α1 vs H1 e x1 s1 l1 r1 z => by
    dsimp only [parF] at z
    cases ea : asgTs ([i, j, l].map .nm) ds σD with
    | none => rw [ea] at z; exact z.elim
    | some σ' =>
      rw [ea] at z
      have hl := asgTs_len (X := X) (G := G) ea
      have h3 : ∃ d1 d2 d3, ds = [d1, d2, d3] := len3 hl
      obtain ⟨d1, d2, d3, rfl⟩ := h3
      · skip
        have r1' : RDs G h1.length α1 H1 [d1, d2, d3] vs := r1
        unfold RDs at r1'
        obtain ⟨v1, ws, rfl, q1, r2⟩ := r1'
        unfold RDs at r2
        obtain ⟨v2, ws, rfl, q2, r3⟩ := r2
        unfold RDs at r3
        obtain ⟨v3, ws, rfl, q3, r4⟩ := r3
        unfold RDs at r4
        subst r4
        refine ⟨v1, v2, v3, rfl, ?_⟩
        simp only [List.map_cons, List.map_nil, asgTs, asgT] at ea
        by_cases c1 : i < σD.length
        · rw [if_pos c1] at ea
          by_cases c2 : j < σD.length
          · simp only [Option.bind_some, List.length_set, c2, if_true] at ea
            by_cases c3 : l < σD.length
            · simp only [c3, if_true, Option.bind_some] at ea
              cases ea
              exact LndS.nx z s1 (((l1.set q1).set q2).set q3)
            · simp [c3] at ea
          · simp [c2] at ea
        · rw [if_neg c1] at ea; cases ea
end
structure SndS (M : Mg) (G : Gx) (C : Cl) (n : Nat) : Prop where
  s : ∀ {Γ X W st s}, OkX M G C Γ X W → FnX X → PassesOwn (model X.prog X.w) X.A X.env X.xe → X.env.scope.kind = .function → trS M n Γ st = some s → PS X st (tS G W (evS C s))
  ss : ∀ {Γ X W st s}, OkX M G C Γ X W → FnX X → PassesOwn (model X.prog X.w) X.A X.env X.xe → X.env.scope.kind = .function → trSs M n Γ st = some s → PSs X st (tS G W (evSs C s))
section
variable {M : Mg} {G : Gx} {C : Cl} {Γ : Sc} {X : Cx} {W : WX} {pos : Pos}
theorem nmsOf_eq : ∀ {ts : List T} {is : List Nat}, nmsOf ts = some is → ts = is.map .nm
  | [], is, h => by cases h; rfl
  | .nm i :: r, is, h => by
    simp only [nmsOf] at h
    obtain ⟨js, hj, rfl⟩ := mpp h
    rw [nmsOf_eq hj]; rfl
  | .tp _ :: r, is, h => by cases h
theorem tgL2 {x y : Str} {px py : Pos} {is : List Nat} (h : TgL X [.Name x px, .Name y py] (is.map .nm)) : ∃ i j, is = [i, j] ∧ Nm X i x ∧ Nm X j y := by
  match is, h with
  | [i, j], .cons (.nm a) (.cons (.nm b) .nil) => exact ⟨i, j, rfl, a, b⟩
theorem tgL3 {x y w : Str} {px py pz : Pos} {is : List Nat} (h : TgL X [.Name x px, .Name y py, .Name w pz] (is.map .nm)) : ∃ i j k, is = [i, j, k] ∧ Nm X i x ∧ Nm X j y ∧ Nm X k w := by
  match is, h with
  | [i, j, k], .cons (.nm a) (.cons (.nm b) (.cons (.nm c) .nil)) => exact ⟨i, j, k, rfl, a, b, c⟩
theorem nm_ne {i j : Nat} {x y : Str} (a : Nm X i x) (b : Nm X j y) (h : (!(y == x)) = true) : i ≠ j := fun e => by
  subst e
  have e1 := a.at_
  have e2 := b.at_
  rw [e1] at e2
  cases e2
  simp at h
theorem bnot_f {b : Bool} (h : (!b) = true) : b = false := by cases b; rfl; cases h
theorem par_ok {ts : List Expr} {is : List Nat} {es : List Expr} {fs : Sl → Hd → R (List D × Hd)} {k k2 : Nat} {pt pv : Pos} (o : OkX M G C Γ X W) (hk : X.env.scope.kind = .function) (tg : TgL X ts (is.map .nm)) (hl : is.length ≤ sizeL) (hp : parOk Γ ts es = true) (hst : es.all (fun e => !isStar e) = true) (ha : PA X es (tEs G W fs)) :
    PS X (.Assign [.Tuple ts k pt] (.Tuple es k2 pv) pos) (tS G W fun σ h => thenF σ (fs σ h) (parF is σ)) := by
  unfold parOk at hp
  split at hp
  · rename_i x px y py a b
    simp only [List.all_cons, List.all_nil, Bool.and_true, Bool.and_eq_true] at hst
    split at hp
    · rename_i hs
      rw [Bool.and_eq_true] at hs
      obtain ⟨hs, hf⟩ := hs
      obtain ⟨i, j, rfl, nx, ny⟩ := tgL2 tg
      have hw := hs
      unfold swp2 at hs
      simp only [Bool.and_eq_true] at hs
      rw [← o.sc] at hs hw
      refine ds_par2 o.ok nx ny (eq_of_beq hs.1.1.1) (eq_of_beq hs.1.1.2) (nm_ne nx ny hs.2) ha (sw2 hk (star_f hst.1) (star_f hst.2) hw (bnot_f hf) (bnot_f hp))
    · rw [Bool.or_eq_true] at hp
      rcases hp with hp | hp
      · exact ds_parN o.ok tg hl ha (sw_fold (by simpa using hp))
      · have hw : swappedStores [.Tuple [.Name x px, .Name y py] k pt] (.Tuple [a, b] k2 pv) X.env = pure none := by
          by_cases c : Γ.sc.names.lookup x = some .local
          · have c2 : Γ.sc.names.lookup y ≠ some .local := by simpa [c] using hp
            exact sw_cell (List.mem_cons_of_mem _ List.mem_cons_self) (by rw [o.sc]; exact c2)
          · exact sw_cell List.mem_cons_self (by rw [o.sc]; exact c)
        exact ds_parN o.ok tg hl ha hw
  · rename_i x px y py z pz a b c
    simp only [List.all_cons, List.all_nil, Bool.and_true, Bool.and_eq_true] at hst
    split at hp
    · rename_i hs
      rw [Bool.and_eq_true] at hs
      obtain ⟨hs, hf⟩ := hs
      obtain ⟨i, j, l, rfl, nx, ny, nz⟩ := tgL3 tg
      have hw := hs
      unfold swp3 at hs
      simp only [Bool.and_eq_true] at hs
      rw [← o.sc] at hs hw
      refine ds_par3 o.ok nx ny nz (eq_of_beq hs.1.1.1.1.1.1.1) (eq_of_beq hs.1.1.1.1.1.1.2) (eq_of_beq hs.1.1.1.1.1.2) (nm_ne nx ny hs.1.1.2) (nm_ne nx nz hs.1.2) (nm_ne ny nz hs.2) ha (sw3 hk (star_f hst.1) (star_f hst.2.1) (star_f hst.2.2) hw (bnot_f hf) (bnot_f hp))
    · rw [Bool.or_eq_true] at hp
      rcases hp with hp | hp
      · exact ds_parN o.ok tg hl ha (sw_fold (by simpa using hp))
      · have hw : swappedStores [.Tuple [.Name x px, .Name y py, .Name z pz] k pt] (.Tuple [a, b, c] k2 pv) X.env = pure none := by
          by_cases c1 : Γ.sc.names.lookup x = some .local
          · by_cases c2 : Γ.sc.names.lookup y = some .local
            · have c3 : Γ.sc.names.lookup z ≠ some .local := by simpa [c1, c2] using hp
              exact sw_cell (List.mem_cons_of_mem _ (List.mem_cons_of_mem _ List.mem_cons_self)) (by rw [o.sc]; exact c3)
            · exact sw_cell (List.mem_cons_of_mem _ List.mem_cons_self) (by rw [o.sc]; exact c2)
          · exact sw_cell List.mem_cons_self (by rw [o.sc]; exact c1)
        exact ds_parN o.ok tg hl ha hw
  · exact ds_parN o.ok tg hl ha (sw_fold hp)
theorem trTs_len : ∀ {n : Nat} {es : List Expr} {ts : List T}, trTs Γ n es = some ts → True := fun _ => trivial
/-- name = [.. for ..] -/
theorem lc_ok {n : Nat} (o : OkX M G C Γ X W) (hk : X.env.scope.kind = .function) {x : Str} {i : Nat} {elt : Expr} {gs : List Comprehension} {sc : Scope} {px p2 : Pos} {e : E} (nm : Nm X i x) (h : trE M n Γ (.ListComp elt gs sc pos) = some e) :
    PS X (.Assign [.Name x px] (.ListComp elt gs sc pos) p2) (tS G W fun σ h => thenF σ (vl (evR C e σ h)) (asgF (.nm i) σ)) := by
  cases hb : ((X.env.scope.names.lookup x == some .local) && (px.line == pos.line) && !(sc.names.any fun (n, k) => n == x && (k == .local || k == .cell))) with
  | false => exact ds_set' o.ok nm (sw_lc hk hb) ((sndE n).e o h).v
  | true =>
    cases n with
    | zero => cases h
    | succ n =>
      have ih := sndE (M := M) (G := G) (C := C) n
      simp only [Bool.and_eq_true] at hb
      unfold trE at h
      split at h <;> rename_i heq <;> first | (cases heq; done) | skip
      · rename_i tg it ifs _ _
        cases heq
        obtain ⟨hg, h⟩ := gd_some h
        rw [Bool.and_eq_true] at hg
        obtain ⟨t, ht, h⟩ := bd h
        obtain ⟨hsl, h⟩ := gd_some h
        obtain ⟨i', hi, h⟩ := bd h
        obtain ⟨e', he, h⟩ := bd h
        obtain ⟨c', hc, rfl⟩ := mpp h
        refine ds_setLc o.ok nm (eq_of_beq hb.1.1) hk hb.1.2 (by simpa using hb.2) (ih.i o hi) (blk_ok o hg.1) (all_cont hsl) (fun s H c cl fp => trT_ok (o.blk _ s H c cl fp) _ _ _ ht) (fun s H c cl fp => ?_) (fun s H c cl fp => (ih.e (o.blk _ s H c cl fp) he).v) hg.2
        split at hc
        · cases hc
          exact dts_nil
        · obtain ⟨hi2, hc⟩ := gd_some hc
          exact dts_one ((ih.e (o.blk _ s H c cl fp) hc).t (if_f hi2))
        · cases hc
      · cases h
theorem setFld_ok (o : OkX M G C Γ X W) {ob e : Expr} {f : Str} {o' e' : E} {i : Nat} {tpos : Pos} (hi : ixOf f M.an 0 = some i) (ho : PE X ob (tR G W (evR C o'))) (he : PE X e (tR G W (evR C e'))) (hc : notComp e = true) : PS X (.Assign [.Attribute ob f tpos] e pos) (tS G W (evS C (.setFld o' i e'))) := by
  have := ds_setFld (C := C) (i := i) (pos := pos) (tpos := tpos) o.ins ho he hc
  rw [an_ok o hi] at this
  exact this
theorem try_ok {n : Nat} (ih : SndS M G C n) {b : List Stmt} {b' : List S} {x nm n2 y : Str} {c i j : Nat} {np py pn2 apos p' : Pos} (o : OkX M G C Γ X W) (fx : FnX X) (hk : X.env.scope.kind = .function)
    (hg : (n2 == nm && (glOf Γ x && (okName nm && (decide (Γ.sc.names.lookup nm = some .local) && decide (Γ.sc.names.lookup y = some .local))))) = true) (hc : look x M.exs = some c) (hi : ixOf nm Γ.N 0 = some i) (hj : ixOf y Γ.N 0 = some j) (hb : trSs M n Γ b = some b') :
    PS X (.Try b [.ExceptHandler (some (.Name x np)) (some nm) [.Assign [.Name y py] (.Name n2 pn2) apos] p'] [] [] pos) (tS G W (evS C (.try_ b' c i j))) := by
  simp only [Bool.and_eq_true, decide_eq_true_eq] at hg
  obtain ⟨e2, g1, g2, g3, g4⟩ := hg
  have e2 := beq_iff_eq.mp e2
  subst e2
  obtain ⟨d1, d2, _⟩ := okName_ok g2
  have gx := gl_ok o g1
  exact ds_try o.ok fx o.sub (by rw [o.N]; simpa using (ixOf_get hi).2) (by rw [o.N]; simpa using (ixOf_get hj).2) (by rw [o.sc]; exact g3) (by rw [o.sc]; exact g4) d1 d2 gx.1 (o.exs _ _ hc).mg gx.2.1 fun W' pn xe tk po => ih.ss (o.tr pn xe tk) ⟨fx.stk, fx.fr, fx.ex⟩ po hk hb
theorem sndS_s {n : Nat} (ih : SndS M G C n) {st : Stmt} {s : S} (o : OkX M G C Γ X W) (fx : FnX X) (hp : PassesOwn (model X.prog X.w) X.A X.env X.xe) (hk : X.env.scope.kind = .function) (h : trS M (n + 1) Γ st = some s) : PS X st (tS G W (evS C s)) := by
  have ie := sndE (M := M) (G := G) (C := C) n
  unfold trS at h
  split at h
  · cases h; exact ds_pas
  · cases h; exact ds_brk
  · cases h; exact ds_cnt
  · cases h; exact ds_retN
  · obtain ⟨e', he, rfl⟩ := mpp h
    exact ds_ret (ie.e o he).v
  · cases h; exact ds_doc
  · obtain ⟨hc, h⟩ := gd_some h
    obtain ⟨e', he, rfl⟩ := mpp h
    exact ds_ex hc (ie.e o he).v
  · obtain ⟨hi, h⟩ := gd_some h
    obtain ⟨c', hc, h⟩ := bd h
    obtain ⟨a', ha, h⟩ := bd h
    obtain ⟨b', hb, rfl⟩ := mpp h
    exact ds_ite ((ie.e o hc).t (if_f hi)) (ih.ss o fx hp hk ha) (ih.ss o fx hp hk hb)
  · obtain ⟨hs, h⟩ := gd_some h
    obtain ⟨t', ht, h⟩ := bd h
    obtain ⟨i', hi, h⟩ := bd h
    obtain ⟨b', hb, rfl⟩ := mpp h
    exact ds_for o.ok hp (ie.i o hi) (trT_ok o _ _ _ ht) (ih.ss o.lp fx hp hk hb) hs
  · obtain ⟨hi, h⟩ := gd_some h
    obtain ⟨c', hc, h⟩ := bd h
    obtain ⟨b', hb, rfl⟩ := mpp h
    exact ds_whl hp ((ie.e o hc).t (if_f hi)) (ih.ss o fx hp hk hb)
  · obtain ⟨hg, h⟩ := gd_some h
    obtain ⟨c', hc, rfl⟩ := mpp h
    exact ds_raise o.ok (o.exs _ _ hc) (gl_ok o hg).1
  · obtain ⟨hg, h⟩ := gd_some h
    obtain ⟨c, hc, h⟩ := bd h
    obtain ⟨i, hi, h⟩ := bd h
    obtain ⟨j, hj, h⟩ := bd h
    obtain ⟨b', hb, rfl⟩ := mpp h
    exact try_ok ih o fx hk hg hc hi hj hb
  · obtain ⟨i, hi, h⟩ := bd h
    obtain ⟨e', he, rfl⟩ := mpp h
    exact ds_aug o.ok (nm_ok o hi) (ie.e o he).v
  · obtain ⟨hs, h⟩ := gd_some h
    rw [Bool.and_eq_true] at hs
    obtain ⟨o', ho, h⟩ := bd h
    obtain ⟨i', hi, h⟩ := bd h
    obtain ⟨e', he, rfl⟩ := mpp h
    exact ds_setIx o.ok hs.1 (ie.e o he).v (ie.e o ho).v (ie.e o hi).v (by unfold swapsWithSole; exact swaps_of hs.2) rfl
  · obtain ⟨hc, h⟩ := gd_some h
    obtain ⟨i, hi, h⟩ := bd h
    obtain ⟨o', ho, h⟩ := bd h
    obtain ⟨e', he, rfl⟩ := mpp h
    exact setFld_ok o hi (ie.e o ho).v (ie.e o he).v hc
  · obtain ⟨i, hi, h⟩ := bd h
    obtain ⟨e', he, rfl⟩ := mpp h
    exact lc_ok o hk (nm_ok o hi) he
  · obtain ⟨hc, h⟩ := gd_some h
    obtain ⟨i, hi, h⟩ := bd h
    obtain ⟨e', he, rfl⟩ := mpp h
    exact ds_set o.ok (nm_ok o hi) hc (ie.e o he).v
  · obtain ⟨ts', ht, h⟩ := bd h
    obtain ⟨es', he, h⟩ := bd h
    obtain ⟨hg, h⟩ := gd_some h
    rw [Bool.and_eq_true] at hg
    obtain ⟨is, hi, rfl⟩ := mpp h
    have := nmsOf_eq hi
    subst this
    exact par_ok o hk (trTs_ok o _ _ _ ht) (show is.length ≤ 16777216 by have := hg.1; simp only [List.length_map, decide_eq_true_eq] at this; omega) hg.2 (ie.es o he).2 (ie.es o he).1
  · obtain ⟨hg, h⟩ := gd_some h
    rw [Bool.and_eq_true] at hg
    obtain ⟨ts', ht, h⟩ := bd h
    obtain ⟨e', he, rfl⟩ := mpp h
    exact ds_asg o.ok (trTs_ok o _ _ _ ht) hg.1 (ie.e o he).v (sw_other (by
      have := hg.2
      revert this
      split <;> simp))
  · cases h
theorem ds_bad (st : Stmt) : PS X st (tS G W fun _ _ => .no) := ⟨fun pins s σ H D I ⟨α, σD, hd, st, l, z⟩ => (show False from z).elim⟩
theorem sndS : ∀ n, SndS M G C n
  | 0 => by
    refine ⟨fun {Γ X W pe e} o _ _ _ h => ?_, fun {Γ X W pes es} o _ _ _ h => ?_⟩
    all_goals cases h
  | n + 1 => by
    have ih := sndS n
    refine ⟨fun o fx hp hk h => sndS_s ih o fx hp hk h, fun {Γ X W st s} o fx hp hk h => ?_⟩
    cases st with
    | nil => cases h; exact dss_nil
    | cons a r =>
      unfold trSs at h
      obtain ⟨r', hr, rfl⟩ := mpp h
      cases hs : trS M n Γ a with
      | none => exact dss_cons (ds_bad (X := X) (W := W) a) (ih.ss o fx hp hk hr)
      | some s' => exact dss_cons (ih.s o fx hp hk hs) (ih.ss o fx hp hk hr)
end
end Mp
set_option maxHeartbeats 8000000
/-! MiniPy, part 27: l.append(t.replace(y, z)) behind a statement that takes a token. -/
namespace Mp
open PySem PySem.Spec PyProof.Rows L2
section
variable {X : Cx}
/-- .. after which a token is out -/
def PEK (X : Cx) (e : Expr) (t : TE) : Prop := ∀ (pins : List (Addr × Obj)) (s : Shared) (σ : L2.St) (H : Hp) (Q : VK), Inv X pins σ H s → t σ H Q → wpAny (model X.prog X.w) X.A (eval e X.env) (fun v s1 => 1 ≤ s1.toks ∧ EP X pins σ Q v s1) X.xe s
def PAK (X : Cx) (es : List Expr) (t : TA) : Prop := ∀ (pos : Pos) (pins : List (Addr × Obj)) (s : Shared) (σ : L2.St) (H : Hp) (Q : List V → Hp → Prop), Inv X pins σ H s → t σ H Q → wpAny (model X.prog X.w) X.A (spliced (backTo pos (starEach es X.env))) (fun us s1 => 1 ≤ s1.toks ∧ AP X pins σ Q us s1) X.xe s
theorem pak_here {x : Str} {j : Nat} {pos : Pos} {es : List Expr} {t : TA} (hr : PA X es t) : PAK X (.Constant (.str x) j pos :: es) (tCons (tC (.str x)) t) := by
  intro p pins s σ H Q I h
  rw [starEach_cons rfl]
  show wpAny _ _ (spliced ((false, eval (.Constant (.str x) j pos) X.env) :: backTo p (starEach es X.env))) _ _ s
  refine Calls.spliced_cons (Calls.Constant_str ?_)
  refine wpAny_mono (PySem.wpAny_toks (hr.run p pins _ σ H _ (I.tok (s.toks + 1)) h)) (fun us s2 ⟨hk, xs, H2, I2, r2, q2⟩ => ?_) fun _ _ z => z.2
  have hk' : s.toks + 1 ≤ s2.toks := hk
  exact ⟨by omega, .str x :: xs, H2, I2, .cons (show ∃ t, Value.str x s.toks = Value.str x t from ⟨s.toks, rfl⟩) r2, q2⟩
theorem pak_cons {e : Expr} {es : List Expr} {te : TE} {ta : TA} (he : PE X e te) (hs : isStar e = false) (hr : PAK X es ta) : PAK X (e :: es) (tCons te ta) := by
  intro pos pins s σ H Q I h
  rw [starEach_cons hs]
  show wpAny _ _ (spliced ((false, eval e X.env) :: backTo pos (starEach es X.env))) _ _ s
  refine Calls.spliced_cons (thn (he.run pins s σ H _ I h) fun v s1 ⟨x, H1, I1, r1, q1⟩ => ?_)
  exact thn (hr pos pins s1 σ H1 _ I1 q1) fun us s2 ⟨hk, xs, H2, I2, r2, q2⟩ => ⟨hk, x :: xs, H2, I2, .cons r1 r2, q2⟩
theorem pek_lst {es : List Expr} {t : TA} {pos : Pos} (h : PAK X es t) : PEK X (.List es pos) (tLst t) := by
  intro pins s σ H Q I hq
  refine wpAny_List_spliced (thn (h pos pins s σ H _ I hq) fun us s1 ⟨hk, xs, H1, I1, r, z, q⟩ => ⟨by rw [← r.length]; exact z, hk, ?_⟩)
  have hf : H1 s1.heap.objs.size = none := I1.hok.fresh (Nat.le_refl _)
  exact ⟨.ref s1.heap.objs.size, upd H1 s1.heap.objs.size (.lst xs), I1.laid (t' := s1.toks) (fun b u e => Heap.get?_push_of_some _ e) (Nat.le_refl _) ⟨z, us, 0, r, Heap.get?_push_size _ rfl⟩, rfl, q _ hf⟩
theorem PEK.imp {e : Expr} {t t' : TE} (h : PEK X e t) (hi : ∀ σ H Q, t' σ H Q → t σ H Q) : PEK X e t' := fun pins s σ H Q I q => h pins s σ H Q I (hi σ H Q q)
/-- a statement behind which a token is out -/
def PSK (X : Cx) (st : Stmt) (t : TS) : Prop := ∀ (pins : List (Addr × Obj)) (s : Shared) (σ : L2.St) (H : Hp) (D : Ends), Inv X pins σ H s → t D σ H → wpAny (model X.prog X.w) X.A (exec st X.env) (fun f s1 => 1 ≤ s1.toks ∧ SP X pins D f s1) X.xe s
theorem psk_set {i : Nat} {x : Str} {e : Expr} {te : TE} {pos pos' : Pos} (hN : X.N.Nodup) (nm : Nm X i x) (he : PEK X e te) (hs : swapsWith e (some (.Name x pos')) pos.line X.env = pure false) : PSK X (.Assign [.Name x pos'] e pos) (tAsg te (gName i)) := by
  intro pins s σ H D I h
  refine wpAny_Assign_Name (thn (he pins s σ H _ I h) fun v s1 ⟨hk, y, H1, I1, r1, q1⟩ => ?_) hs
  refine wpAny_mono (PySem.wpAny_toks (store_ok (Q := fun _ s2 => Inv X pins (σ.set i (some y)) H1 s2) I1 hN nm.at_ nm.loc r1 (fun s2 I2 => I2) nm.fn)) (fun _ s2 q => ⟨Nat.le_trans hk q.1, _, H1, q.2, q1⟩) fun _ _ z => z.2
theorem pss_consK {st : Stmt} {rest : List Stmt} {t u : TS} (h1 : PSK X st t) (h2 : PSsT X rest u) : PSs X (st :: rest) (tSeq t u) := by
  refine ⟨fun pins s σ H D I h => wpAny_execs_cons (thn (h1 pins s σ H { D with nx := u D } I h) fun f s1 q => ?_)⟩
  obtain ⟨hk, q⟩ := q
  cases f with
  | next =>
    obtain ⟨σ', H', I', q⟩ := q
    exact h2 pins s1 σ' H' D hk I' q
  | ret v => exact q
  | brk => exact q
  | cont => exact q
theorem PSsT.imp {st : List Stmt} {t t' : TS} (h : PSsT X st t) (hi : ∀ D σ H, t' D σ H → t D σ H) : PSsT X st t' := fun pins s σ H D h0 I q => h pins s σ H D h0 I (hi D σ H q)
theorem PST.imp {st : Stmt} {t t' : TS} (h : PST X st t) (hi : ∀ D σ H, t' D σ H → t D σ H) : PST X st t' := fun pins s σ H D h0 I q => h pins s σ H D h0 I (hi D σ H q)
theorem PSK.imp {st : Stmt} {t t' : TS} (h : PSK X st t) (hi : ∀ D σ H, t' D σ H → t D σ H) : PSK X st t' := fun pins s σ H D I q => h pins s σ H D I (hi D σ H q)
/-- o.name(e ..), a token out ahead of the arguments -/
theorem pet_bm {T id : String} {name : Str} {r : V → List V → Hp → VK → Prop} {o e : Expr} {es : List Expr} {to : TE} {t : TA} {apos cpos : Pos} (pa : PlainAttrs T) (slot : Slot T name id) (hty : typeOf (.builtin id) = pure (.type "method_descriptor")) (hm : MtR X id r) (ho : PE X o to) (ha : PAT X (e :: es) t)
    (hbase : attributeBase o name X.env (eval o X.env) = eval o X.env)
    (hfew : ((backTo cpos (starEach (e :: es) X.env)).all (fun x => !x.1) && (backToKw cpos (keywordEach [] X.env)).all (fun x => x.1.isSome)
      && decide ((e :: es).length + ([] : List Keyword).length + (if ([] : List Keyword).isEmpty then 0 else 1) < 30)) = true)
    (hline : (apos.endLine == cpos.line) = true) (hs : starEach (e :: es) X.env = (false, eval e X.env) :: starEach es X.env) (hplain : (backTo cpos (starEach es X.env)).any (·.1) = false) :
    PET X (.Call (.Attribute o name apos) (e :: es) [] cpos) (tBM X.K T r to t) := by
  intro pins s σ H Q h0 I h
  refine wpAny_Call_method_late hbase hfew hline rfl (wpAny_mono (PySem.wpAny_toks (ho.run pins s σ H _ I h)) (fun v s1 ⟨hk, x, H1, I1, r1, ty, q1⟩ => ?_) fun _ _ z => z.2)
  obtain ⟨h1, h2⟩ := tyV_is I1 r1 ty
  refine ⟨T, id, pa, slot, hty, h1, h2, ?_⟩
  have hA := ha cpos pins s1 σ H1 _ (Nat.le_trans h0 hk) I1 q1
  rw [hs] at hA ⊢
  refine Calls.callWith_builtin (by show (false || (backTo cpos (starEach es X.env)).any (·.1)) = false; rw [hplain] <;> rfl) (Calls.evalArgs_plain ?_)
  exact thn hA fun us s2 ⟨vs, H2, I2, r2, q2⟩ => hm pins s2 σ H2 x vs v us Q I2 r1 r2 q2
theorem pst_expr {e : Expr} {te : TE} {pos : Pos} (he : PET X e te) (hs : swapsWith e none pos.line X.env = pure false) : PST X (.Expr e pos) (tDrop te) := fun pins s σ H D h0 I h =>
  wpAny_Expr_any (thn (he pins s σ H _ h0 I h) fun v s1 ⟨x, H1, I1, r1, q1⟩ => ⟨σ, H1, I1, q1⟩) I.quiet hs
end
theorem replC_eq {c : Nat} {w : List Nat} (t : List Nat) : Txt.replace ⟨t.toArray⟩ ⟨[c].toArray⟩ ⟨w.toArray⟩ = ⟨(replC c w t).toArray⟩ := by
  have e := StrLaws.replace_list (x := ⟨t.toArray⟩) (y := ⟨[c].toArray⟩) (z := ⟨w.toArray⟩) (by simp [Str.length])
  have key : ∀ t : List Nat, StrLaws.replL [c] w t = replC c w t := by
    intro t
    induction t with
    | nil => rw [StrLaws.replL_nil]; rfl
    | cons x xs ih =>
      by_cases q : x = c
      · subst q
        rw [StrLaws.replL_hit (by simp) (by simp)]
        simp [replC, ih]
      · rw [StrLaws.replL_miss (by simp [q])]
        simp [replC, q, ih]
  have e2 : (Txt.replace ⟨t.toArray⟩ ⟨[c].toArray⟩ ⟨w.toArray⟩ : Str).cps.toList = replC c w t := by rw [e]; exact key t
  cases h : (Txt.replace ⟨t.toArray⟩ ⟨[c].toArray⟩ ⟨w.toArray⟩ : Str) with
  | mk a => rw [h] at e2; simp at e2; rw [← e2]
section
variable {G : Gx} {X : Cx} {W : WX} {pos p apos apos2 pos2 : Pos} {b x : Expr} {fb fx : Sl → Hd → R (Rv × Hd)} {y z : Str} {j k : Nat} {c0 c1 : Pos}
theorem de_repl (hab : abOk x = true) (hline : (apos2.endLine == pos2.line) = true) (hx : PE X x (tR G W fx)) (hyz : (y == z) = false) :
    PET X (.Call (.Attribute x "replace" apos2) [.Constant (.str y) j c0, .Constant (.str z) k c1] [] pos2) (tR G W fun σ h => vl (fx σ h) >>= fun p => rv (m2D .replace p.1 (.str y.cps.toList) (.str z.cps.toList) p.2)) := by
  intro pins s σ H Q h0 I ⟨α, σD, hd, st, l, q⟩
  refine CwR.pet_replC (pe_vl hx) hyz rfl (attributeBase_ok hab _) hline pins s σ H Q h0 I ?_
  refine tX_bind (Rel := rD G) st l q fun d h1 α1 v H1 e x1 s1 l1 r1 q => ?_
  have q := q.rv
  cases d with
  | str t =>
    obtain rfl : v = .str ⟨t.toArray⟩ := RDstr (show RD G _ _ _ (.str t) v from r1)
    simp only [m2D] at q
    cases ey : y.cps.toList with
    | nil => rw [ey] at q; exact q.elim
    | cons c r =>
      cases r with
      | cons _ _ => rw [ey] at q; exact q.elim
      | nil =>
        rw [ey] at q
        have q' : Lnd G (rD G) (fun c d H1 => W c d σ H1) h1.length α1 H1 Q (if decide (t.length + (t.length + 1) * z.cps.toList.length ≤ sizeL) = true then R.ok (D.str (replC c z.cps.toList t), h1) else .no) := q
        obtain ⟨cc, q'⟩ := if_no q'
        have cc := of_decide_eq_true cc
        have ly : y = ⟨[c].toArray⟩ := by cases y with | mk a => simp at ey; rw [← ey]
        have lz : z = ⟨z.cps.toList.toArray⟩ := by cases z; simp
        refine ⟨_, rfl, ?_, ?_⟩
        · have : z.length = z.cps.toList.length := by simp [Str.length]
          rw [strLen, this]; exact cc
        · rw [ly, lz, replC_eq]
          exact Lnd.ok (Rel := rD G) (b := D.str (replC c z.cps.toList t)) q' s1 (by show RD G _ _ _ (.str _) _; unfold RD; rfl)
  | _ => exact q.elim
theorem PET.vl {e : Expr} {f : Sl → Hd → R (Rv × Hd)} (h : PET X e (tR G W f)) : PET X e (tE G W fun σ h => Mp.vl (f σ h)) := by
  intro pins s σ H Q h0 I ⟨α, σD, hd, st, l, z⟩
  refine h pins s σ H Q h0 I ⟨α, σD, hd, st, l, ?_⟩
  revert z
  show Lnd G (rD G) _ _ _ _ _ (Mp.vl (f σD hd)) → _
  cases e : f σD hd with
  | no => exact fun z => z
  | ex c h1 => exact fun z => z
  | ok p =>
    obtain ⟨r, h1⟩ := p
    exact fun z α1 v H1 x s1 rr => Lnd.val x s1 rr z
theorem ds_rep {lpos spos : Pos} {C : Cl} {b' x' : E} (hb : abOk b = true) (hx : abOk x = true) (hl1 : (apos.endLine == pos.line) = true) (hl2 : (apos2.endLine == pos2.line) = true) (hyz : (y == z) = false) (Hb : PE X b (tR G W (evR C b'))) (Hx : PE X x (tR G W (evR C x'))) :
    PST X (.Expr (.Call (.Attribute b "append" apos) [.Call (.Attribute x "replace" apos2) [.Constant (.str y) j c0, .Constant (.str z) k c1] [] pos2] [] pos) spos) (tS G W (evS C (.ex (.m1 .append b' (.m2 .replace x' (.c (.str y.cps.toList)) (.c (.str z.cps.toList))))))) := by
  have ha : PET X (.Call (.Attribute x "replace" apos2) [.Constant (.str y) j c0, .Constant (.str z) k c1] [] pos2) (tE G W fun σ h => Mp.vl (evR C (.m2 .replace x' (.c (.str y.cps.toList)) (.c (.str z.cps.toList))) σ h)) := PET.vl (de_repl hx hl2 Hx hyz)
  refine PST.imp (pst_expr (pet_bm PySem.F.plainAttrs_list PySem.F.slot_list_append PySem.F.type_list_append mt_append (pe_vl Hb) (pat_cons ha pat_nil rfl) (attributeBase_ok hb _) (few1 rfl) hl1 rfl rfl) (swaps_of rfl)) fun D σ H ⟨α, σD, hd, s, l, q⟩ => ?_
  refine lm1_of (fo := evR C b') (fa := evR C (.m2 .replace x' (.c (.str y.cps.toList)) (.c (.str z.cps.toList)))) ru_append ⟨α, σD, hd, s, l, ?_⟩
  have e : ∀ p : Mp.D × Hd, m1K .append (evR C (.m2 .replace x' (.c (.str y.cps.toList)) (.c (.str z.cps.toList)))) σD p = onL (fun i h => Mp.vl (evR C (.m2 .replace x' (.c (.str y.cps.toList)) (.c (.str z.cps.toList))) σD h) >>= fun q => rv (m1D .append (.ob i) q.1 q.2)) p := m1K_L (fun k h => rfl) (fun d h hd => by show (if (lstOf h d).isSome = true then R.ok () else R.no) = _; rw [lst_non hd]; rfl) σD
  have q0 : LndS G W hd.length α H D (thenF σD (Mp.vl (Mp.vl (evR C b' σD hd) >>= m1K .append (evR C (.m2 .replace x' (.c (.str y.cps.toList)) (.c (.str z.cps.toList)))) σD)) fun p => .nx σD p.2) := q
  have e2 : (Mp.vl (evR C b' σD hd) >>= m1K .append (evR C (.m2 .replace x' (.c (.str y.cps.toList)) (.c (.str z.cps.toList)))) σD) = (Mp.vl (evR C b' σD hd) >>= onL (fun i h => Mp.vl (evR C (.m2 .replace x' (.c (.str y.cps.toList)) (.c (.str z.cps.toList))) σD h) >>= fun q => rv (m1D .append (.ob i) q.1 q.2))) := by
    congr 1
    funext p
    exact e p
  rw [e2] at q0
  revert q0
  dsimp only
  cases er : (Mp.vl (evR C b' σD hd) >>= onL (fun i h => Mp.vl (evR C (.m2 .replace x' (.c (.str y.cps.toList)) (.c (.str z.cps.toList))) σD h) >>= fun q => rv (m1D .append (.ob i) q.1 q.2))) with
  | no => exact fun q => q
  | ex c h1 => exact fun q α1 H1 x1 s1 => q α1 σ H1 x1 s1 (l.mono x1.toEy fun i hi => s.at_ hi)
  | ok p =>
    obtain ⟨r, h1⟩ := p
    intro q α1 v H1 x1 s1 rr
    have l1 : SlR G h1.length α1 H1 σD σ := l.mono x1.toEy fun i hi => s.at_ hi
    cases r with
    | v d => exact q α1 σ H1 x1 s1 l1
    | l xs =>
      obtain ⟨a, vs, rfl, ea, rs, h0, na⟩ := rr
      obtain ⟨s2, y2⟩ := s1.adopt (o := .lst xs) na ⟨vs, ea, rs⟩
      have en : (h1 ++ [Ob.lst xs]).length = h1.length + 1 := by rw [List.length_append, List.length_singleton]
      refine q (alUp α1 h1.length a) σ H1 ?_ s2 ?_
      · show Ex _ _ _ (h1 ++ [Ob.lst xs]).length _ _
        rw [en]; exact x1.adopt h0
      · show SlR G (h1 ++ [Ob.lst xs]).length _ _ _ _
        rw [en]; exact l1.mono y2 fun i hi => s1.at_ hi
end
/-! ### the translation -/
def tokS : Stmt → Bool
  | .Assign [.Name _ _] (.List (_ :: _ :: .Constant (.str _) _ _ :: _) _) _ => true
  | _ => false
def trRep (M : Mg) (n : Nat) (Γ : Sc) : Stmt → Option S
  | .Expr (.Call (.Attribute b m1 apos) [.Call (.Attribute x m2 apos2) [.Constant (.str y) _ _, .Constant (.str z) _ _] [] pos2] [] pos) _ => gd ((m1 == ("append" : Str)) && ((m2 == ("replace" : Str)) && ((abOk b && abOk x) && ((apos.endLine == pos.line) && ((apos2.endLine == pos2.line) && !(y == z)))))) ((trE M n Γ b).bind fun b' => (trE M n Γ x).map fun x' => .ex (.m1 .append b' (.m2 .replace x' (.c (.str y.cps.toList)) (.c (.str z.cps.toList)))))
  | _ => none
def trBT (M : Mg) (n : Nat) (Γ : Sc) : List Stmt → List S
  | [] => []
  | s :: ss => (match trRep M n Γ s with
    | some s' => s'
    | none => (trS M n Γ s).getD .bad) :: trBT M n Γ ss
def trB (M : Mg) (n : Nat) (Γ : Sc) : List Stmt → List S
  | [] => []
  | s :: ss => ((trS M n Γ s).getD .bad) :: (if tokS s then trBT M n Γ ss else trB M n Γ ss)
section
variable {M : Mg} {G : Gx} {C : Cl} {Γ : Sc} {X : Cx} {W : WX}
theorem dssT_cons {st : Stmt} {rest : List Stmt} {fs fr : Sl → Hd → F} (h1 : PST X st (tS G W fs)) (h2 : PSsT X rest (tS G W fr)) : PSsT X (st :: rest) (tS G W fun σ h => match fs σ h with
    | .nx σ' h' => fr σ' h'
    | f => f) :=
  PSsT.imp (psst_cons h1 h2) fun D σ H ⟨α, σD, hd, s, l, z⟩ => by
    refine ⟨α, σD, hd, s, l, ?_⟩
    dsimp only at z
    cases e : fs σD hd with
    | nx σ1 h1 =>
      rw [e] at z
      exact fun α1 σ' H1 x1 s1 l1 => ⟨α1, σ1, h1, s1, l1, LndS.from x1 s1.there z⟩
    | rt d h1 => rw [e] at z; exact z
    | bk σ1 h1 => rw [e] at z; exact z
    | ct σ1 h1 => rw [e] at z; exact z
    | ex c σ1 h1 => rw [e] at z; exact z
    | no => rw [e] at z; exact z
theorem dssK_cons {st : Stmt} {rest : List Stmt} {fs fr : Sl → Hd → F} (h1 : PSK X st (tS G W fs)) (h2 : PSsT X rest (tS G W fr)) : PSs X (st :: rest) (tS G W fun σ h => match fs σ h with
    | .nx σ' h' => fr σ' h'
    | f => f) :=
  (pss_consK h1 h2).imp fun D σ H ⟨α, σD, hd, s, l, z⟩ => by
    refine ⟨α, σD, hd, s, l, ?_⟩
    dsimp only at z
    cases e : fs σD hd with
    | nx σ1 h1 =>
      rw [e] at z
      exact fun α1 σ' H1 x1 s1 l1 => ⟨α1, σ1, h1, s1, l1, LndS.from x1 s1.there z⟩
    | rt d h1 => rw [e] at z; exact z
    | bk σ1 h1 => rw [e] at z; exact z
    | ct σ1 h1 => rw [e] at z; exact z
    | ex c σ1 h1 => rw [e] at z; exact z
    | no => rw [e] at z; exact z
theorem rep_ok {n : Nat} (o : OkX M G C Γ X W) {st : Stmt} {s : S} (h : trRep M n Γ st = some s) : PST X st (tS G W (evS C s)) := by
  unfold trRep at h
  split at h
  · obtain ⟨hg, h2⟩ := gd_some h
    clear h
    simp only [Bool.and_eq_true, beq_iff_eq] at hg
    obtain ⟨rfl, rfl, ⟨hb, hx⟩, l1, l2, hyz⟩ := hg
    obtain ⟨b', hb', h3⟩ := bd h2
    obtain ⟨x', hx', rfl⟩ := mpp h3
    exact ds_rep (lpos := ⟨0, 0, 0, 0⟩) hb hx (by simpa using l1) (by simpa using l2) (bnot_f hyz) ((sndE n).e o hb').v ((sndE n).e o hx').v
  · cases h
theorem dsT_bad (st : Stmt) : PST X st (tS G W fun _ _ => .no) := fun pins s σ H D _ I ⟨α, σD, hd, st, l, z⟩ => (show False from z).elim
theorem sndBT {n : Nat} (o : OkX M G C Γ X W) (fx : FnX X) (hp : PassesOwn (model X.prog X.w) X.A X.env X.xe) (hk : X.env.scope.kind = .function) : ∀ ss : List Stmt, PSsT X ss (tS G W (evSs C (trBT M n Γ ss)))
  | [] => PSsT.of dss_nil
  | s :: ss => by
    have ih := sndBT (n := n) o fx hp hk ss
    unfold trBT
    cases er : trRep M n Γ s with
    | some s' => exact dssT_cons (rep_ok o er) ih
    | none =>
      cases hs : trS M n Γ s with
      | none => exact dssT_cons (dsT_bad s) ih
      | some s' => exact dssT_cons (PST.of ((sndS n).s o fx hp hk hs)) ih
/-! a list whose third item is a written text -/
variable {pos : Pos} {a : Expr} {es : List Expr} {fa : Sl → Hd → R (Rv × Hd)} {fs : Sl → Hd → R (List D × Hd)}
theorem dak_cons (hs : isStar a = false) (ha : PE X a (tR G W fa)) (hr : PAK X es (tEs G W fs)) : PAK X (a :: es) (tEs G W fun σ h => vl (fa σ h) >>= fun p => fs σ p.2 >>= fun q => .ok (p.1 :: q.1, q.2)) :=
  fun p pins s σ H Q I ⟨α, σD, hd, st, l, z⟩ => pak_cons (pe_vl ha) hs hr p pins s σ H Q I <| by
    refine tX_bind (Rel := rD G) st l z fun x h1 α1 v H1 e x1 s1 l1 r z => ?_
    refine tX_bind (Rel := rDs G) s1 l1 z fun xs h2 α2 vs H2 e x2 s2 l2 r2 z => ?_
    exact Lnd.ok (Rel := rDs G) (b := x :: xs) z s2 (.cons (RD.mono x2.toEy (fun i hi => s1.at_ hi) x v r) r2)
theorem dak_here {x : Str} {j : Nat} (hr : PA X es (tEs G W fs)) : PAK X (.Constant (.str x) j pos :: es) (tEs G W fun σ h => vl (.ok (.v (.str x.cps.toList), h)) >>= fun p => fs σ p.2 >>= fun q => .ok (p.1 :: q.1, q.2)) :=
  fun p pins s σ H Q I ⟨α, σD, hd, st, l, z⟩ => pak_here hr p pins s σ H Q I <| by
    have z' : Lnd G (rDs G) (fun c d H1 => W c d σ H1) hd.length α H Q (fs σD hd >>= fun q => .ok (.str x.cps.toList :: q.1, q.2)) := z
    refine tX_bind (Rel := rDs G) st l z' fun xs h2 α2 vs H2 e x2 s2 l2 r2 z => ?_
    exact Lnd.ok (Rel := rDs G) (b := .str x.cps.toList :: xs) z s2 (.cons (by unfold RD; simp) r2)
theorem dek_lst (h : PAK X es (tEs G W fs)) : PEK X (.List es pos) (tE G W fun σ h => vl (fs σ h >>= fun p => if p.1.length ≤ sizeL then .ok (.l p.1, p.2) else .no)) :=
  PEK.imp (pek_lst h) fun σ H Q ⟨α, σD, hd, s, l, z⟩ => by
    have z' : tR G W (fun σ h => fs σ h >>= fun p => if p.1.length ≤ sizeL then .ok (.l p.1, p.2) else .no) σ H Q := by
      refine ⟨α, σD, hd, s, l, ?_⟩
      revert z
      dsimp only
      cases e : (fs σD hd >>= fun p => if p.1.length ≤ sizeL then (R.ok (Rv.l p.1, p.2) : R (Rv × Hd)) else .no) with
      | no => exact fun z => z
      | ex c h1 => exact fun z => z
      | ok p =>
        obtain ⟨r, h1⟩ := p
        exact fun z α1 v H1 x s1 rr => Lnd.val x s1 rr z
    obtain ⟨α, σD, hd, s, l, z⟩ := z'
    refine tX_bind (Rel := rDs G) s l z fun xs h1 α1 vs H1 e x1 s1 l1 r z => ?_
    obtain ⟨c, z⟩ := if_no z
    exact ⟨by rw [r.length, ← sizeL_eq]; exact c, fun p hp => z.tmpN s1 r hp⟩
theorem dsk_set {i : Nat} {x : Str} {p2 : Pos} (ok : Ok G X W) (nm : Nm X i x) (he : PAK X es (tEs G W fs)) {lp : Pos} : PSK X (.Assign [.Name x p2] (.List es lp) pos) (tS G W fun σ h => thenF σ (vl (fs σ h >>= fun p => if p.1.length ≤ sizeL then .ok (.l p.1, p.2) else .no)) (asgF (.nm i) σ)) :=
  PSK.imp (psk_set (i := i) ok.nd nm (dek_lst he) (swaps_of rfl)) fun D σ H ⟨α, σD, hd, s, l, z⟩ => tX_then (Rel := rD G) s l z fun x h1 α1 v H1 e x1 s1 l1 r z => by
    dsimp only [asgF, asgT] at z
    by_cases c : i < σD.length
    · rw [if_pos c] at z; exact LndS.nx z s1 (l1.set r)
    · rw [if_neg c] at z; exact z.elim
theorem dsk_bad (st : Stmt) : PSK X st (tS G W fun _ _ => .no) := fun pins s σ H D I ⟨α, σD, hd, st, l, z⟩ => (show False from z).elim
theorem tok_ok {n : Nat} (o : OkX M G C Γ X W) {st : Stmt} {s : S} (ht : tokS st = true) (h : trS M n Γ st = some s) : PSK X st (tS G W (evS C s)) := by
  unfold tokS at ht
  split at ht
  · rename_i x p2 e0 e1 c j pc es lp sp
    match n, h with
    | n + 1, h =>
      unfold trS at h
      obtain ⟨_, h⟩ := gd_some h
      obtain ⟨i, hi, h⟩ := bd h
      obtain ⟨e', he, rfl⟩ := mpp h
      match n, he with
      | n + 1, he =>
        unfold trE at he
        obtain ⟨es', hes, rfl⟩ := mpp he
        match n, hes with
        | n + 1, hes =>
          unfold trEs at hes
          obtain ⟨hs0, hes⟩ := gd_some hes
          obtain ⟨e0', h0, hes⟩ := bd hes
          obtain ⟨es1, hes1, rfl⟩ := mpp hes
          match n, hes1 with
          | n + 1, hes1 =>
            unfold trEs at hes1
            obtain ⟨hs1, hes1⟩ := gd_some hes1
            obtain ⟨e1', h1, hes1⟩ := bd hes1
            obtain ⟨es2, hes2, rfl⟩ := mpp hes1
            match n, hes2 with
            | n + 1, hes2 =>
              unfold trEs at hes2
              obtain ⟨_, hes2⟩ := gd_some hes2
              obtain ⟨e2', h2, hes2⟩ := bd hes2
              obtain ⟨es3, hes3, rfl⟩ := mpp hes2
              match n, h2, hes3 with
              | n + 1, h2, hes3 =>
                unfold trE at h2
                cases h2
                exact dsk_set o.ok (nm_ok o hi) (dak_cons (star_f hs0) ((sndE _).e o h0).v (dak_cons (star_f hs1) ((sndE _).e o h1).v (dak_here ((sndE _).es o hes3).1)))
  · cases ht
theorem sndB {n : Nat} (o : OkX M G C Γ X W) (fx : FnX X) (hp : PassesOwn (model X.prog X.w) X.A X.env X.xe) (hk : X.env.scope.kind = .function) : ∀ ss : List Stmt, PSs X ss (tS G W (evSs C (trB M n Γ ss)))
  | [] => dss_nil
  | s :: ss => by
    have ih := sndB (n := n) o fx hp hk ss
    unfold trB
    cases ht : tokS s with
    | true =>
      rw [if_pos rfl]
      have ih2 := sndBT (n := n) o fx hp hk ss
      cases hs : trS M n Γ s with
      | none => exact dssK_cons (dsk_bad s) ih2
      | some s' => exact dssK_cons (tok_ok o ht hs) ih2
    | false =>
      rw [if_neg (by decide)]
      cases hs : trS M n Γ s with
      | none => exact dss_cons (ds_bad s) ih
      | some s' => exact dss_cons ((sndS n).s o fx hp hk hs) ih
end
end Mp
set_option maxHeartbeats 8000000
/-! MiniPy, part 18: defs, soundly. -/
namespace Mp
open PySem PySem.Spec PyProof.Rows L2
/-! ### the end of a call -/
section
variable {G : Gx} {n n' : Nat} {α : Al} {H : Hp}
mutual
theorem lo_of {H : Hp} : ∀ {d : D} {v : V}, RD G n α H d v → D.lo n d = true
  | .non, _, _ => rfl
  | .bl _, _, _ => rfl
  | .int _, _, _ => rfl
  | .str _, _, _ => rfl
  | .fn _, _, _ => rfl
  | .ex _, _, _ => rfl
  | .ob k, v, h => by
    unfold RD at h
    simp [D.lo, h.1]
  | .tup xs, v, h => by
    unfold RD at h
    obtain ⟨a, vs, _, _, r⟩ := h
    simp only [D.lo]
    exact los_of r
  | .clo l vs, v, h => by
    unfold RD at h
    obtain ⟨f, cl, ws, _, _, r⟩ := h
    simp only [D.lo]
    exact los_of r
  | .junk, _, _ => rfl
theorem los_of {H : Hp} : ∀ {xs : List D} {vs : List V}, RDs G n α H xs vs → D.los n xs = true
  | [], _, _ => rfl
  | x :: xs, vs, h => by
    unfold RDs at h
    obtain ⟨v, ws, _, r1, r2⟩ := h
    simp only [D.los, lo_of r1, los_of r2, Bool.and_self]
end
mutual
theorem RD.low {H : Hp} {m : Nat} : ∀ {d : D} {v : V}, RD G n α H d v → D.lo m d = true → RD G m α H d v
  | .non, _, h, _ => by unfold RD at h ⊢; exact h
  | .bl _, _, h, _ => by unfold RD at h ⊢; exact h
  | .int _, _, h, _ => by unfold RD at h ⊢; exact h
  | .str _, _, h, _ => by unfold RD at h ⊢; exact h
  | .fn _, _, h, _ => by unfold RD at h ⊢; exact h
  | .ex _, _, h, _ => by unfold RD at h ⊢; exact h
  | .ob k, v, h, l => by
    unfold RD at h ⊢
    simp only [D.lo, decide_eq_true_eq] at l
    exact ⟨l, h.2⟩
  | .tup xs, v, h, l => by
    unfold RD at h ⊢
    obtain ⟨a, vs, e, t, r⟩ := h
    exact ⟨a, vs, e, t, RDs.low r l⟩
  | .clo c vs, v, h, l => by
    unfold RD at h ⊢
    obtain ⟨f, cl, ws, e, t, r⟩ := h
    exact ⟨f, cl, ws, e, t, RDs.low r l⟩
  | .junk, _, h, _ => by unfold RD at h ⊢; exact h
theorem RDs.low {H : Hp} {m : Nat} : ∀ {xs : List D} {vs : List V}, RDs G n α H xs vs → D.los m xs = true → RDs G m α H xs vs
  | [], _, h, _ => by unfold RDs at h ⊢; exact h
  | x :: xs, vs, h, l => by
    unfold RDs at h ⊢
    obtain ⟨v, ws, e, r1, r2⟩ := h
    simp only [D.los, Bool.and_eq_true] at l
    exact ⟨v, ws, e, RD.low r1 l.1, RDs.low r2 l.2⟩
end
theorem RFs.low {m : Nat} : ∀ {fs : List (Nat × D)} {gs : List (Str × V)}, RFs G n α H fs gs → D.los m (fs.map (·.2)) = true → RFs G m α H fs gs
  | [], _, h, _ => h
  | (f, d) :: r, gs, h, l => by
    obtain ⟨v, ws, e, r1, r2⟩ := h
    simp only [List.map_cons, D.los, Bool.and_eq_true] at l
    exact ⟨v, ws, e, r1.low l.1, RFs.low r2 l.2⟩
theorem rfs_lo : ∀ {fs : List (Nat × D)} {gs : List (Str × V)}, RFs G n α H fs gs → D.los n (fs.map (·.2)) = true
  | [], _, _ => rfl
  | (f, d) :: r, gs, h => by
    obtain ⟨v, ws, e, r1, r2⟩ := h
    simp only [List.map_cons, D.los, lo_of r1, rfs_lo r2, Bool.and_self]
theorem RKs.low {m : Nat} : ∀ {fs : List (D × D)} {gs : List (NestedKey × V × V)}, RKs G n α H fs gs → D.los m (fs.map (·.1)) = true → D.los m (fs.map (·.2)) = true → RKs G m α H fs gs
  | [], gs, h, _, _ => h
  | (f, d) :: r, gs, h, l, l2 => by
    obtain ⟨nk, kv, v, ws, e, e1, r1, r2, r3⟩ := h
    simp only [List.map_cons, D.los, Bool.and_eq_true] at l l2
    exact ⟨nk, kv, v, ws, e, e1, r1.low l.1, r2.low l2.1, RKs.low r3 l.2 l2.2⟩
theorem rks_lo : ∀ {fs : List (D × D)} {gs : List (NestedKey × V × V)}, RKs G n α H fs gs → D.los n (fs.map (·.1)) = true ∧ D.los n (fs.map (·.2)) = true
  | [], _, _ => ⟨rfl, rfl⟩
  | (f, d) :: r, gs, h => by
    obtain ⟨nk, kv, v, ws, e, e1, r1, r2, r3⟩ := h
    obtain ⟨i1, i2⟩ := rks_lo r3
    simp only [List.map_cons, D.los, lo_of r1, lo_of r2, i1, i2, Bool.and_self, and_self]
theorem ObR.low {m : Nat} {a : Addr} {o : Ob} (h : ObR G n α H a o) (l : Ob.lo m o = true) : ObR G m α H a o := by
  cases o with
  | lst xs => obtain ⟨vs, e, r⟩ := h; exact ⟨vs, e, r.low l⟩
  | scr xs => obtain ⟨vs, e, r⟩ := h; exact ⟨vs, e, r.low l⟩
  | dct lk kvs =>
    obtain ⟨es, e, r, nd⟩ := h
    simp only [Ob.lo, Bool.and_eq_true] at l
    exact ⟨es, e, r.low l.1 l.2, nd⟩
  | ins c fs => obtain ⟨dx, gs, e, r⟩ := h; exact ⟨dx, gs, e, r.low l⟩
theorem ObR.lo {a : Addr} {o : Ob} (h : ObR G n α H a o) : Ob.lo n o = true := by
  cases o with
  | lst xs => obtain ⟨vs, e, r⟩ := h; exact los_of r
  | scr xs => obtain ⟨vs, e, r⟩ := h; exact los_of r
  | dct lk kvs =>
    obtain ⟨es, e, r, nd⟩ := h
    obtain ⟨i1, i2⟩ := rks_lo r
    simp only [Ob.lo, i1, i2, Bool.and_self]
  | ins c fs => obtain ⟨dx, gs, e, r⟩ := h; exact rfs_lo r
end
theorem oldOk_get {m : Nat} : ∀ {h0 h : Hd} {i : Nat} {o : Ob}, oldOk m h0 h = true → i < h0.length → h[i]? = some o → h0[i]? = some o ∨ Ob.lo m o = true
  | [], _, _, _, _, hi, _ => absurd hi (Nat.not_lt_zero _)
  | a :: r, [], _, _, h, _, _ => by cases h
  | a :: r, b :: s, 0, o, h, _, e => by
    simp only [oldOk, Bool.and_eq_true, Bool.or_eq_true, decide_eq_true_eq] at h
    simp only [List.getElem?_cons_zero, Option.some.injEq] at e ⊢
    subst e
    exact h.1
  | a :: r, b :: s, i + 1, o, h, hi, e => by
    simp only [oldOk, Bool.and_eq_true] at h
    simp only [List.getElem?_cons_succ] at e ⊢
    exact oldOk_get h.2 (Nat.lt_of_succ_lt_succ hi) e
theorem oldOk_len {m : Nat} : ∀ {h0 h : Hd}, oldOk m h0 h = true → h0.length ≤ h.length
  | [], _, _ => Nat.zero_le _
  | a :: r, [], h => by cases h
  | a :: r, b :: s, h => by
    simp only [oldOk, Bool.and_eq_true] at h
    exact Nat.succ_le_succ (oldOk_len h.2)
section
variable {G : Gx} {α α1 : Al} {H H1 : Hp} {h0 h1 : Hd}
/-- the younger objects are dropped -/
theorem drop_ok (s0 : StR G α h0 H) (x : Ex h0.length α H h1.length α1 H1) (s1 : StR G α1 h1 H1) (ok : oldOk h0.length h0 h1 = true) : StR G α1 (h1.take h0.length) H1 ∧ (h1.take h0.length).length = h0.length ∧ Ex h0.length α H h0.length α1 H1 := by
  have hl : (h1.take h0.length).length = h0.length := by
    rw [List.length_take]
    have := oldOk_len ok
    omega
  refine ⟨⟨fun i j hi hj e => s1.inj i j ?_ ?_ e, fun i o e => ?_⟩, hl, ⟨⟨Nat.le_refl _, x.al, x.keep, x.frz⟩, fun i a b => absurd a (Nat.not_le.mpr b)⟩⟩
  · rw [hl] at hi; exact Nat.lt_of_lt_of_le hi (oldOk_len ok)
  · rw [hl] at hj; exact Nat.lt_of_lt_of_le hj (oldOk_len ok)
  · have hi : i < h0.length := by
      by_cases c : i < h0.length
      · exact c
      · rw [List.getElem?_eq_none (by rw [hl]; omega)] at e; cases e
    rw [List.getElem?_take_of_lt hi] at e
    rw [hl]
    have r := s1.ob i o e
    rcases oldOk_get ok hi e with q | q
    · exact r.low (s0.ob i o q).lo
    · exact r.low q
theorem gc_ok (s0 : StR G α h0 H) (x : Ex h0.length α H h1.length α1 H1) (s1 : StR G α1 h1 H1) {d : D} {v : V} (r : RD G h1.length α1 H1 d v) :
    ∃ α2, Ex h0.length α H (gc h0 d h1).2.length α2 H1 ∧ StR G α2 (gc h0 d h1).2 H1 ∧ RD G (gc h0 d h1).2.length α2 H1 (gc h0 d h1).1 v := by
  unfold gc
  cases ok : oldOk h0.length h0 h1 with
  | false => exact ⟨α1, x, s1, r⟩
  | true =>
    obtain ⟨s2, hl, x2⟩ := drop_ok s0 x s1 ok
    rw [if_pos rfl]
    cases lo : D.lo h0.length d with
    | true => rw [if_pos rfl]; exact ⟨α1, by rw [hl]; exact x2, s2, by rw [hl]; exact r.low lo⟩
    | false =>
      rw [if_neg (by decide)]
      cases d with
      | ob k =>
        dsimp only
        have hk : h0.length ≤ k := by
          have : ¬ k < h0.length := by simpa [D.lo] using lo
          omega
        unfold RD at r
        cases e : h1[k]? with
        | none => exact ⟨α1, x, s1, by unfold RD; exact r⟩
        | some o =>
          cases o with
          | lst xs =>
            dsimp only
            cases ls : D.los h0.length xs with
            | false => rw [if_neg (by decide)]; exact ⟨α1, x, s1, by unfold RD; exact r⟩
            | true =>
              rw [if_pos rfl]
              have ro : ObR G h0.length α1 H1 (α1 k) (.lst xs) := (s1.ob k _ e).low (m := h0.length) (by simpa [Ob.lo] using ls)
              have na : ∀ i, i < (h1.take h0.length).length → α1 i ≠ α1 k := fun i hi c => by
                rw [hl] at hi
                have := s1.inj i k (Nat.lt_of_lt_of_le hi (oldOk_len ok)) r.1 c
                omega
              have ad := StR.adopt s2 na (o := .lst xs) (by rw [hl]; exact ro)
              rw [hl] at ad
              refine ⟨alUp α1 h0.length (α1 k), ?_, ad.1, ?_⟩
              · show Ex h0.length α H (h1.take h0.length ++ [Ob.lst xs]).length _ H1
                rw [List.length_append, hl]
                exact x2.adopt (x.fresh k hk r.1)
              · show RD G (h1.take h0.length ++ [Ob.lst xs]).length _ H1 (.ob h0.length) v
                rw [List.length_append, hl]
                unfold RD
                exact ⟨Nat.lt_succ_self _, by rw [alUp_eq]; exact r.2⟩
          | dct lk kvs =>
            cases lk with
            | true => exact ⟨α1, x, s1, by unfold RD; exact r⟩
            | false =>
              dsimp only
              cases ls : Ob.lo h0.length (.dct false kvs) with
              | false => rw [if_neg (by decide)]; exact ⟨α1, x, s1, by unfold RD; exact r⟩
              | true =>
                rw [if_pos rfl]
                have ro : ObR G h0.length α1 H1 (α1 k) (.dct false kvs) := (s1.ob k _ e).low (m := h0.length) ls
                have na : ∀ i, i < (h1.take h0.length).length → α1 i ≠ α1 k := fun i hi c => by
                  rw [hl] at hi
                  have := s1.inj i k (Nat.lt_of_lt_of_le hi (oldOk_len ok)) r.1 c
                  omega
                have ad := StR.adopt s2 na (o := .dct false kvs) (by rw [hl]; exact ro)
                rw [hl] at ad
                refine ⟨alUp α1 h0.length (α1 k), ?_, ad.1, ?_⟩
                · show Ex h0.length α H (h1.take h0.length ++ [Ob.dct false kvs]).length _ H1
                  rw [List.length_append, hl]
                  exact x2.adopt (x.fresh k hk r.1)
                · show RD G (h1.take h0.length ++ [Ob.dct false kvs]).length _ H1 (.ob h0.length) v
                  rw [List.length_append, hl]
                  unfold RD
                  exact ⟨Nat.lt_succ_self _, by rw [alUp_eq]; exact r.2⟩
          | scr xs => exact ⟨α1, x, s1, by unfold RD; exact r⟩
          | ins c fs => exact ⟨α1, x, s1, by unfold RD; exact r⟩
      | _ => exact ⟨α1, x, s1, r⟩
theorem gcX_ok (s0 : StR G α h0 H) (x : Ex h0.length α H h1.length α1 H1) (s1 : StR G α1 h1 H1) : ∃ α2, Ex h0.length α H (gcX h0 h1).length α2 H1 ∧ StR G α2 (gcX h0 h1) H1 := by
  unfold gcX
  cases ok : oldOk h0.length h0 h1 with
  | false => exact ⟨α1, x, s1⟩
  | true =>
    obtain ⟨s2, hl, x2⟩ := drop_ok s0 x s1 ok
    rw [if_pos rfl]
    exact ⟨α1, by rw [hl]; exact x2, s2⟩
/-- a body's end as a call's -/
theorem end_ok {Q : VK} {E : XK} {f : F} (s0 : StR G α h0 H) (z : Lnd G (rD G) (fun c d H1 => E c d H1) h0.length α H Q (endF h0 f)) : LndS G (fun c d _ H1 => E c d H1) h0.length α H { nx := fun _ H' => Q .non H', rt := Q } f := by
  cases f with
  | nx σ h1 =>
    intro α1 σ' H1 x s l
    obtain ⟨α2, x2, s2, r2⟩ := gc_ok s0 x s (d := .non) (v := .non) (by unfold RD; rfl)
    exact z α2 _ H1 x2 s2 r2
  | rt d h1 =>
    intro α1 v H1 x s r
    obtain ⟨α2, x2, s2, r2⟩ := gc_ok s0 x s r
    exact z α2 _ H1 x2 s2 r2
  | ex c σ h1 =>
    intro α1 σ' H1 x s l
    obtain ⟨α2, x2, s2⟩ := gcX_ok s0 x s
    exact z α2 H1 x2 s2
  | bk σ h1 => exact z.elim
  | ct σ h1 => exact z.elim
  | no => exact z.elim
end
/-! ### defs -/
/-- one def of the text: its parameters, its names (the parameters first) -/
structure Dt where
  name : Str
  st : Stmt
  ps : List Str
  N : List Str
  qual : Str
  own : Option Str
/-- where the def stands: the module's, or a class's -/
def Dt.at_ (d : Dt) : Str × Option Str := match d.own with
  | none => (d.name, none)
  | some c => (c, some d.name)
def trD (M : Mg) (n : Nat) (d : Dt) : Option Df := (some (trB M n ⟨d.N, defScope d.st, fun _ => true⟩ (defBody d.st))).map fun b => ⟨d.ps.length, d.N.length, b⟩
def scB (d : Dt) : Bool := decide ((defScope d.st).kind = .function) && (!(defScope d.st).isCoroutine && (!(defScope d.st).isGenerator && (decide d.N.Nodup && (decide (d.N.take d.ps.length = d.ps) &&
  (d.ps.all (fun x => decide ((defScope d.st).names.lookup x = some .local) || decide ((defScope d.st).names.lookup x = some .cell)) && (defScope d.st).names.all fun y => decide (y.2 ≠ .free))))))
theorem scB_ok {d : Dt} (h : scB d = true) : FnScope d.N d.ps (defScope d.st) := by
  unfold scB at h
  simp only [Bool.and_eq_true, decide_eq_true_eq, Bool.not_eq_true', List.all_eq_true, Bool.or_eq_true] at h
  obtain ⟨h1, h2, h3, h4, h5, h6, h7⟩ := h
  exact ⟨h1, h2, h3, h4, h5, h6, h7⟩
/-- what the module stands for -/
structure Wd (M : Mg) (G : Gx) (P : Pg) (mg : Str → Option Value) (ds : List Dt) : Prop where
  fns : ∀ x f, look x M.fns = some f → mg x = some (.ref (G.fa f)) ∧ (x == ("__debug__" : Str)) = false ∧ f < ds.length
  fd : ∀ (f : Nat) (d : Dt), ds[f]? = some d → ∃ fd, FunD G.K d.name d.qual (defArgs d.st) (defBody d.st) (defScope d.st) [] [] (G.fa f) fd ∧ Binds G.K fd d.ps []
  sc : ∀ (f : Nat) (d : Dt), ds[f]? = some d → scB d = true
  df : ∀ (f : Nat) (df : Df), P.df f = some df → ∃ (d : Dt) (n : Nat), ds[f]? = some d ∧ trD M n d = some df
  free : ∀ x, M.free.contains x = true → mg x = none
  exs : ∀ x c, look x M.exs = some c → mg x = some (.ref (G.ca c)) ∧ (PySem.W.excIn G.K (G.ca c) He.veBase "ValueError.__new__" = true ∧ PySem.W.keepIn G.K (.ref (G.ca c)) = true ∧ PySem.W.subIn G.K (.ref (G.ca c)) (.type "BaseException") = some true ∧
    PySem.W.typeIn G.K (.ref (G.ca c)) = some (.type "type")) ∧ (x == ("__debug__" : Str)) = false
  intc : ∀ x i, look x M.intc = some i → ∃ t, mg x = some (.int i t)
  strc : ∀ x i, look x M.strc = some i → ∃ t, mg x = some (.str i t)
  sub : SubH G ⟨fun _ _ _ => .no, P.meth, P.noat, P.sub, 0⟩
  ik : InsK G G.K P.meth P.noat
  ml : ∀ c m f, P.meth c m = some f → f < ds.length
  an : ∀ i f, M.an[i]? = some f → G.fnm i = f
  cls : ∀ x c, look x M.cls = some c → mg x = some (.ref (G.cc c)) ∧ (x == ("__debug__" : Str)) = false ∧ ∃ f, P.meth c 0 = some f ∧ Mk G.K (G.cc c) (G.fa f)
section
variable {M : Mg} {G : Gx} {P : Pg} {mg : Str → Option Value} {ds : List Dt} {Pr : Program} {w : World} {base : Heap}
theorem start_rel {n : Nat} {α : Al} {H : Hp} {xs : List D} {vs : List V} {df : Df} {N : List Str} (r : RDs G n α H xs vs) (h1 : xs.length = df.np) (h2 : df.ns = N.length) : SlR G n α H (Mp.start df xs) (L2.start N vs) := by
  unfold Mp.start L2.start
  have hl := r.length
  refine ⟨by simp [hl, h1, h2], fun i d e => ?_⟩
  by_cases c : i < xs.length
  · rw [List.getElem?_append_left (by simpa using c), List.getElem?_map] at e
    cases q : xs[i]? with
    | none => rw [q] at e; cases e
    | some x =>
      rw [q] at e
      cases e
      obtain ⟨v, e1, r1⟩ := r.get q
      refine ⟨v, ?_, r1⟩
      rw [List.getElem?_append_left (by simpa [hl] using c), List.getElem?_map, e1]
      rfl
  · rw [List.getElem?_append_right (by simpa using c), List.getElem?_replicate] at e
    split at e <;> cases e
theorem sp_len {n f : Nat} {d : Dt} (W : Wd M G P mg ds) (hd : ds[f]? = some d) : ∀ vs H Q E, spF G (callF P n f) vs H Q E → vs.length = d.ps.length := fun vs H Q E ⟨α, hd1, xs, s, r, z⟩ => by
  cases n with
  | zero => exact z.elim
  | succ n =>
    unfold callF at z
    cases e : P.df f with
    | none => rw [e] at z; exact z.elim
    | some df =>
      rw [e] at z
      dsimp only at z
      by_cases c : xs.length = df.np
      · obtain ⟨d', m, h1, h2⟩ := W.df f df e
        rw [hd] at h1
        cases h1
        unfold trD at h2
        obtain ⟨b, _, rfl⟩ := mpp h2
        rw [r.length, c]
      · rw [if_neg c] at z; exact z.elim
theorem fn_all (W : Wd M G P mg ds) : ∀ (n f : Nat) (d : Dt) (fd : FuncData), ds[f]? = some d → FunD G.K d.name d.qual (defArgs d.st) (defBody d.st) (defScope d.st) [] [] (G.fa f) fd →
    FnOk Pr G.w G.K mg base (L2.CX Pr G.w) (2 * n) (G.fa f) fd d.ps (spF G (callF P n f))
  | 0, f, d, fd, hd, F => ⟨sp_len W hd, fun A outer s H args us vs Q E _ _ _ _ ⟨α, hd1, xs, s, r, z⟩ => z.elim⟩
  | n + 1, f, d, fd, hd, F => by
    have S := scB_ok (W.sc f d hd)
    refine F.ok (CX := L2.CX Pr G.w) (k := 2 * n + 1) S (sp_len W hd) fun cdv A outer s H vs Q E hr h => ?_
    obtain ⟨α, h0, xs, st, r, z⟩ := h
    unfold callF at z
    cases e : P.df f with
    | none => rw [e] at z; exact z.elim
    | some df =>
      rw [e] at z
      dsimp only at z
      by_cases c : xs.length = df.np
      · rw [if_pos c] at z
        obtain ⟨d', m, h1, h2⟩ := W.df f df e
        rw [hd] at h1
        cases h1
        unfold trD at h2
        obtain ⟨b, hb, rfl⟩ := mpp h2
        have tk : Takes (cxOf (L2.CX Pr G.w) Pr G.w G.K mg base d.N d.qual (defScope d.st) (G.fa f) cdv A outer s H E) (fun cls d _ H => E cls d H) := takes_of rfl rfl rfl rfl
        have ps : PassesOwn (model Pr G.w) (A.deeper (envOfC d.qual (defScope d.st) s.heap.objs.size (G.fa f) cdv)) (envOfC d.qual (defScope d.st) s.heap.objs.size (G.fa f) cdv) (cxOf (L2.CX Pr G.w) Pr G.w G.K mg base d.N d.qual (defScope d.st) (G.fa f) cdv A outer s H E).xe := passes_of (X := cxOf (L2.CX Pr G.w) Pr G.w G.K mg base d.N d.qual (defScope d.st) (G.fa f) cdv A outer s H E) rfl
        have ox : OkX M G ⟨callF P n, P.meth, P.noat, P.sub, P.fuel⟩ ⟨d.N, defScope d.st, fun _ => true⟩ (cxOf (L2.CX Pr G.w) Pr G.w G.K mg base d.N d.qual (defScope d.st) (G.fa f) cdv A outer s H E) (fun cls d _ H => E cls d H) := by
          refine ⟨⟨rfl, rfl, rfl, tk, ?_, S.nd⟩, rfl, rfl, rfl, W.free, fun x g hg => ?_, fun x c hc => ?_, W.intc, W.strc, ⟨W.sub.exm, W.sub.kit, W.sub.ver, W.sub.exc⟩, InsH.of W.ik (fun c m g hg => ?_), W.an, W.cls⟩
          · have := hr.un
            show (A.deeper (envOfC d.qual (defScope d.st) s.heap.objs.size (G.fa f) cdv)).units + 65 < cLine
            omega
          · obtain ⟨hm, nd, lt⟩ := W.fns x g hg
            have hdg : ds[g]? = some ds[g] := List.getElem?_eq_getElem lt
            obtain ⟨fd2, F2, b2⟩ := W.fd g _ hdg
            exact ⟨⟨2 * n, fd2, _, fn_all W n g _ fd2 hdg F2, hr.mono (Nat.le_succ _), b2⟩, hm, F2.kp, nd⟩
          · obtain ⟨hm, ⟨q1, q2, q3, q4⟩, nd⟩ := W.exs x c hc
            exact ⟨hm, q1, q2, q3, q4, nd⟩
          · have lt := W.ml c m g hg
            have hdg : ds[g]? = some ds[g] := List.getElem?_eq_getElem lt
            obtain ⟨fd2, F2, b2⟩ := W.fd g _ hdg
            exact ⟨2 * n, fd2, _, fn_all W n g _ fd2 hdg F2, hr, b2⟩
        cases hb
        exact ⟨_, sndB ox ⟨rfl, rfl, rfl⟩ ps S.kind _, α, Mp.start ⟨d.ps.length, d.N.length, trB M m ⟨d.N, defScope d.st, fun _ => true⟩ (defBody d.st)⟩ xs, h0, st, start_rel r c rfl, end_ok st z⟩
      · rw [if_neg c] at z; exact z.elim
end
end Mp
set_option maxHeartbeats 8000000
/-! MiniPy, part 19: a law's text and its head. -/
namespace Mp
open PySem PySem.Spec PyProof.Rows L2
/-! ### binding -/
theorem look_zip : ∀ {ns : List Str} {us : List Value} {n : Str}, us.length = ns.length → n ∈ ns → ((ns.zip us).lookup n).isNone = false
  | [], _, _, _, h => by cases h
  | m :: ns, [], _, h, _ => by cases h
  | m :: ns, u :: us, n, hl, h => by
    simp only [List.zip_cons_cons, List.lookup_cons]
    by_cases e : n = m
    · subst e; simp
    · have : (n == m) = false := by simpa using e
      rw [this]
      exact look_zip (by simpa using hl) ((List.mem_cons.mp h).resolve_left e)
theorem fm_congr {α β : Type} {f g : α → Option β} : ∀ {l : List α}, (∀ x ∈ l, f x = g x) → l.filterMap f = l.filterMap g
  | [], _ => rfl
  | a :: l, h => by
    rw [List.filterMap_cons, List.filterMap_cons, h a List.mem_cons_self, fm_congr (l := l) fun x hx => h x (List.mem_cons_of_mem _ hx)]
theorem nas : notAStandIn Value.none = pure () := rfl
theorem fm_zip : ∀ {ns : List Str} {us : List Value}, us.length = ns.length → ns.Nodup → (ns.filterMap fun n => ((ns.zip us).lookup n).map (n, ·)) = ns.zip us
  | [], us, _, _ => by simp
  | m :: ns, [], h, _ => by cases h
  | m :: ns, u :: us, hl, nd => by
    have nd := List.nodup_cons.mp nd
    rw [List.filterMap_cons]
    simp only [List.zip_cons_cons, List.lookup_cons_self, Option.map_some]
    congr 1
    refine Eq.trans ?_ (fm_zip (ns := ns) (us := us) (by simpa using hl) nd.2)
    refine fm_congr fun x hx => ?_
    have e : (x == m) = false := by
      have : x ≠ m := fun e => nd.1 (e ▸ hx)
      simpa using this
    rw [List.lookup_cons, e]
theorem bind_gen {x qual : Str} {args : List Arg} {kd : List (Option Expr)} {df : List Expr} {body : List Stmt} {scope : Scope} {kV doc pm cdv ct : Value} {an : Option Addr} {us : List Value} (hl : us.length = (args.map (·.arg)).length) (nd : (args.map (·.arg)).Nodup) :
    bindArgs (PySem.W.fnOf x qual ⟨[], args, none, [], kd, none, df⟩ body scope .none kV doc pm an cdv ct) ⟨us, []⟩ = pure ((args.map (·.arg)).zip us) := by
  have hf := fm_zip hl nd
  have hm : ((args.map (·.arg)).filter fun n => (((args.map (·.arg)).zip us).lookup n).isNone) = [] := by
    rw [List.filter_eq_nil_iff]
    intro n hn
    rw [look_zip hl hn]; decide
  unfold bindArgs
  simp only [PySem.W.fnOf]
  generalize args.map (·.arg) = ns at *
  simp only [List.map_nil, List.nil_append, List.append_nil, List.forIn_nil, pure_bind, seqItems?, bind_pure_comp, nas]
  simp [hm, hf, hl, nas]
/-! ### a law's text -/
structure Tx where
  M : Mg
  ds : List Dt
  exn : List Str
  cl : List Str
  ms : List (Nat × Nat × Nat)
  na : List (Nat × Nat)
def nodeb (x : Str) : Bool := !(x == ("__debug__" : Str))
/-- a def that stands in a class -/
def inCls (s : Stmt) (j : Nat) : Stmt := match s with
  | .ClassDef _ _ _ body _ _ _ _ _ _ _ => body.getD j s
  | _ => s
def Tx.cn (t : Tx) (c : Nat) : Str := t.cl.getD c "?"
def Tx.aN (t : Tx) (f : Nat) : Str := if f < t.M.an.length then t.M.an.getD f "?" else ⟨(List.replicate (f + 1) 63).toArray⟩
def Tx.meth (t : Tx) (c m : Nat) : Option Nat := (t.ms.find? fun p => p.1 == c && p.2.1 == m).map (·.2.2)
def Tx.noat (t : Tx) (c f : Nat) : Bool := t.na.contains (c, f)
def Tx.fa0 (t : Tx) : List He.Fa := t.M.fns.map (fun p => .glo p.1) ++ (t.M.free.map .free ++ (t.M.exs.map (fun p => .glo p.1) ++ (t.M.exs.map (fun p => .exc p.1) ++ (t.M.intc.map (fun p => .int p.1 p.2) ++ t.M.strc.map (fun p => .str p.1 p.2)))))
def Tx.fa1 (t : Tx) : List He.Fa := t.cl.map .glo ++ (t.cl.map .cls ++ (t.cl.map .mkr ++ (t.ms.map (fun p => .meth (t.cn p.1) (t.aN p.2.1)) ++ t.na.map (fun p => .noat (t.cn p.1) (t.aN p.2)))))
def Tx.fa (t : Tx) : List He.Fa := t.fa0 ++ t.fa1
def Tx.fn (t : Tx) : List He.DefD := t.ds.map fun d => ⟨d.at_, d.name, d.qual, defArgs d.st, defBody d.st, defScope d.st, [], []⟩
/-- the parameters are plain -/
def bindB (d : Dt) : Bool := match defArgs d.st with
  | ⟨[], args, none, [], _, none, _⟩ => decide (args.map (·.arg) = d.ps)
  | _ => false
def Tx.anB (t : Tx) : Bool := decide (t.M.an.Nodup) && (t.M.an.all (fun s => !(s.cps.toList.all (· == 63))) && decide (t.M.an.take 4 = (["__init__", "__len__", "__eq__", "__str__"] : List Str)))
def Tx.msB (t : Tx) : Bool := t.ms.all (fun p => decide (p.1 < t.cl.length) && (decide (p.2.1 < t.M.an.length) && decide ((t.ds[p.2.2]?).map Dt.at_ = some (t.cn p.1, some (t.aN p.2.1))))) && (t.na.all (fun p => decide (p.1 < t.cl.length)) &&
  t.M.cls.all (fun p => decide (t.cl[p.2]? = some p.1) && (nodeb p.1 && (t.meth p.2 0).isSome)))
def Tx.ok0 (t : Tx) : Bool := t.M.fns.all (fun p => decide ((t.ds[p.2]?).map Dt.at_ = some (p.1, none)) && nodeb p.1) && (t.M.exs.all (fun p => decide (t.exn[p.2]? = some p.1) && nodeb p.1) && (t.ds.all scB && t.ds.all bindB))
def Tx.ok (t : Tx) : Bool := t.ok0 && (t.anB && t.msB)
def noL : LamI := ⟨"?", ⟨[], [], none, [], [], none, []⟩, .Constant .none 0 ⟨0, 0, 0, 0⟩, ⟨.function, [], false, false, []⟩, []⟩
def Tx.gx (t : Tx) (K : PySem.W.Frag) (w : World) : Gx := ⟨K, w, fun f => He.fAd K ((t.ds.map Dt.at_).getD f ("?", none)), fun c => He.ga K (t.exn.getD c (t.exn.headD "?")), fun c => He.ga K (t.cn c), t.aN, fun _ => noL⟩
/-- the number as it is known; the others stand for the first -/
def Tx.nm (t : Tx) (k : Nat) : Nat := if k < t.exn.length then k else 0
/-- the first class is the others' base -/
def Tx.sub (t : Tx) (k c : Nat) : Bool := (t.nm k == t.nm c) || (t.nm c == 0)
def excB (K : PySem.W.Frag) (D : Addr) : Bool := He.eqO (PySem.W.findIn K (.ref D) "__getattribute__") (some (some (.builtin "BaseException.__getattribute__"))) && (He.eqO (PySem.W.findIn K (.ref D) "__getattr__") (some none) && (decide (PySem.W.subIn K (.ref D) (.type "BaseException") = some true) && (PySem.W.hasDictIn K D &&
  (He.eqO (PySem.W.findIn K (.ref D) "__class__") (some (some (.builtin "object.__class__"))) && (He.eqO (PySem.W.specialIn K (.builtin "object.__class__") "__get__") (some (some (.builtin "getset_descriptor.__get__"))) && (decide (PySem.W.takesIn K (.builtin "object.__class__") = some true) && decide (PySem.W.mroIn K D (.type "object") = some true)))))))
theorem excB_ok {K : PySem.W.Frag} {D : Addr} (h : excB K D = true) : ExcC K D := by
  unfold excB at h
  simp only [Bool.and_eq_true, decide_eq_true_eq] at h
  obtain ⟨h1, h2, h3, h4, h5, h6, h7, h8⟩ := h
  exact ⟨He.eqO_ok h1, He.eqO_ok h2, h3, h4, He.eqO_ok h5, He.eqO_ok h6, h7, h8⟩
/-- what the exception classes say of one another, looked at -/
def Tx.exB (t : Tx) (K : PySem.W.Frag) : Bool := (List.range t.exn.length).all fun k => excB K (He.ga K (t.exn.getD k "?")) && (decide (PySem.W.kitOne K (.ref (He.ga K (t.exn.getD k "?"))) (.type "ValueError") = some true) &&
  (List.range t.exn.length).all fun c => decide (PySem.W.kitOne K (.ref (He.ga K (t.exn.getD k "?"))) (.ref (He.ga K (t.exn.getD c "?"))) = some ((k == c) || (c == 0))) && decide (PySem.W.exmOne K (.ref (He.ga K (t.exn.getD k "?"))) (.ref (He.ga K (t.exn.getD c "?"))) = some ((k == c) || (c == 0))))
/-- what the classes say, looked at -/
def Tx.insB (t : Tx) (K : PySem.W.Frag) : Bool := (List.range t.cl.length).all fun c =>
  (He.eqO (PySem.W.findIn K (.ref (He.ga K (t.cn c))) "__class__") (some (some (.builtin "object.__class__"))) && (He.eqO (PySem.W.specialIn K (.builtin "object.__class__") "__get__") (some (some (.builtin "getset_descriptor.__get__"))) && (decide (PySem.W.takesIn K (.builtin "object.__class__") = some true) && (decide (PySem.W.mroIn K (He.ga K (t.cn c)) (.type "object") = some true) &&
    ((["NoneType", "bool", "int", "str", "list", "tuple"] : List String).all (fun T => decide (PySem.W.kitOne K (.type T) (.ref (He.ga K (t.cn c))) = some false)) && ((List.range t.cl.length).all (fun c2 => decide (PySem.W.kitOne K (.ref (He.ga K (t.cn c))) (.ref (He.ga K (t.cn c2))) = some (decide (c = c2)))) &&
      (if (t.meth c 2).isSome then He.eqO (PySem.W.findIn K (.ref (He.ga K (t.cn c))) "__ne__") (some (some (.builtin "object.__ne__"))) else true)))))))
theorem meth_mem {t : Tx} {c m f : Nat} (h : t.meth c m = some f) : (c, m, f) ∈ t.ms := by
  unfold Tx.meth at h
  obtain ⟨p, hp, e⟩ := mpp h
  have hm := List.mem_of_find?_eq_some hp
  have hq := List.find?_some hp
  simp only [Bool.and_eq_true, beq_iff_eq] at hq
  obtain ⟨c', m', f'⟩ := p
  obtain ⟨rfl, rfl⟩ := hq
  cases e
  exact hm
theorem aN_lt {t : Tx} {f : Nat} {s : Str} (h : t.M.an[f]? = some s) : t.aN f = s := by
  obtain ⟨hl, e⟩ := List.getElem?_eq_some_iff.mp h
  unfold Tx.aN
  rw [if_pos hl, List.getD_eq_getElem?_getD, h]; rfl
theorem aN_inj {t : Tx} (h : t.anB = true) : ∀ f g, t.aN f = t.aN g → f = g := by
  unfold Tx.anB at h
  simp only [Bool.and_eq_true, decide_eq_true_eq, List.all_eq_true, Bool.not_eq_true'] at h
  obtain ⟨nd, al, _⟩ := h
  have lt : ∀ f, f < t.M.an.length → ∃ s, t.M.an[f]? = some s ∧ t.aN f = s ∧ s ∈ t.M.an := fun f hf => ⟨_, List.getElem?_eq_getElem hf, aN_lt (List.getElem?_eq_getElem hf), List.getElem_mem hf⟩
  have ge : ∀ f, ¬ f < t.M.an.length → t.aN f = ⟨(List.replicate (f + 1) 63).toArray⟩ := fun f hf => by unfold Tx.aN; rw [if_neg hf]
  have q : ∀ f, (⟨(List.replicate (f + 1) 63).toArray⟩ : Str).cps.toList.all (· == 63) = true := fun f => by simp
  intro f g e
  by_cases hf : f < t.M.an.length
  · obtain ⟨s, e1, e2, e3⟩ := lt f hf
    by_cases hg : g < t.M.an.length
    · obtain ⟨s', e1', e2', e3'⟩ := lt g hg
      have : s = s' := by rw [← e2, ← e2', e]
      subst this
      exact (List.getElem?_inj hf nd).mp (e1.trans e1'.symm)
    · rw [ge g hg, e2] at e
      have := al s e3
      rw [e, q g] at this; cases this
  · by_cases hg : g < t.M.an.length
    · obtain ⟨s', e1', e2', e3'⟩ := lt g hg
      rw [ge f hf, e2'] at e
      have := al s' e3'
      rw [← e, q f] at this; cases this
    · rw [ge f hf, ge g hg] at e
      have := congrArg (fun s : Str => s.cps.size) e
      simp at this
      omega
theorem cn_some {t : Tx} {c : Nat} (h : c < t.cl.length) : t.cn c ∈ t.cl := by
  unfold Tx.cn
  rw [List.getD_eq_getElem?_getD, List.getElem?_eq_getElem h]
  exact List.getElem_mem h
theorem ik_of {t : Tx} {K : PySem.W.Frag} {w : World} (c : ∀ f ∈ t.fa, He.Fa.ok K f = true) (hi : t.insB K = true) (ha : t.anB = true) (hm : t.msB = true) : InsK (t.gx K w) K t.meth t.noat := by
  have fi := aN_inj ha
  unfold Tx.anB at ha
  simp only [Bool.and_eq_true, decide_eq_true_eq] at ha
  unfold Tx.msB at hm
  simp only [Bool.and_eq_true, List.all_eq_true, decide_eq_true_eq] at hm
  obtain ⟨m1, m2, m3⟩ := hm
  have kc : ∀ k, k < t.cl.length → Cls K (He.ga K (t.cn k)) := fun k hk => He.cls_ok (c _ (List.mem_append_right _ (List.mem_append_right _ (List.mem_append_left _ (List.mem_map_of_mem (cn_some hk))))))
  have km : ∀ p ∈ t.ms, Meth K (He.ga K (t.cn p.1)) (t.aN p.2.1) (He.ma K (He.ga K (t.cn p.1)) (t.aN p.2.1)) := fun p hp => He.meth_ok (c _ (List.mem_append_right _ (List.mem_append_right _ (List.mem_append_right _ (List.mem_append_right _ (List.mem_append_left _ (List.mem_map_of_mem (f := fun p : Nat × Nat × Nat => He.Fa.meth (t.cn p.1) (t.aN p.2.1)) hp)))))))
  have kn : ∀ p ∈ t.na, NoAttr K (He.ga K (t.cn p.1)) (t.aN p.2) := fun p hp => He.noat_ok (c _ (List.mem_append_right _ (List.mem_append_right _ (List.mem_append_right _ (List.mem_append_right _ (List.mem_append_right _ (List.mem_map_of_mem (f := fun p : Nat × Nat => He.Fa.noat (t.cn p.1) (t.aN p.2)) hp)))))))
  have an4 : ∀ k s, (["__init__", "__len__", "__eq__", "__str__"] : List Str)[k]? = some s → t.aN k = s := fun k s e => by
    refine aN_lt ?_
    rw [← ha.2.2] at e
    have hk : k < 4 := by
      by_cases z : k < 4
      · exact z
      · rw [List.getElem?_eq_none (by simp; omega)] at e; cases e
    rwa [List.getElem?_take_of_lt hk] at e
  unfold Tx.insB at hi
  have ci := fun k (hk : k < t.cl.length) => List.all_eq_true.mp hi k (List.mem_range.mpr hk)
  simp only [Bool.and_eq_true, decide_eq_true_eq, List.all_eq_true] at ci
  have lt0 : ∀ k, (t.meth k 0).isSome = true → k < t.cl.length := fun k hk => by
    obtain ⟨f, hf⟩ := Option.isSome_iff_exists.mp hk
    exact (m1 _ (meth_mem hf)).1
  refine ⟨fi, fun k m f hf => ?_, fun k f hf => ?_, fun k' k h' h => ?_, fun k T h hT => ?_, an4 1 _ rfl, an4 2 _ rfl, an4 3 _ rfl, fun k f hf => ?_⟩
  · have hp := meth_mem hf
    obtain ⟨l1, l2, l3⟩ := m1 _ hp
    refine ⟨kc k l1, ?_⟩
    have : (t.gx K w).fa f = He.ma K (He.ga K (t.cn k)) (t.aN m) := by
      show He.fAd K ((t.ds.map Dt.at_).getD f ("?", none)) = _
      rw [List.getD_eq_getElem?_getD, List.getElem?_map, l3]; rfl
    rw [this]
    exact km _ hp
  · have hp : (k, f) ∈ t.na := by unfold Tx.noat at hf; simpa using hf
    exact ⟨kc k (m2 _ hp), kn _ hp⟩
  · obtain ⟨c1, c2, c3, c4, c5, c6, c7⟩ := ci k' (lt0 k' h')
    exact ⟨kc k' (lt0 k' h'), He.eqO_ok c1, He.eqO_ok c2, c3, c4, c6 k (List.mem_range.mpr (lt0 k h))⟩
  · obtain ⟨c1, c2, c3, c4, c5, c6, c7⟩ := ci k (lt0 k h)
    exact c5 T hT
  · obtain ⟨l1, l2, l3⟩ := m1 _ (meth_mem hf)
    obtain ⟨c1, c2, c3, c4, c5, c6, c7⟩ := ci k l1
    rw [hf] at c7
    exact ⟨He.eqO_ok c7, c4⟩
def noList (K : PySem.W.Frag) : Bool := K.all fun q => match q.2.cls with
  | .type c => !(c == "list")
  | _ => true
def Tx.ex (t : Tx) (K : PySem.W.Frag) : Bool := noList K && (t.exB K && t.insB K)
theorem noList_no {K : PySem.W.Frag} (h : noList K = true) {a : Addr} {o : Obj} (l : K.lookup a = some o) : o.cls ≠ .type "list" := fun e => by
  have m := He.lookup_mem l
  have := List.all_eq_true.mp h _ m
  simp only [e] at this
  simp at this
theorem bindB_ok {d : Dt} {K : PySem.W.Frag} {f : Addr} {fd : FuncData} (F : FunD K d.name d.qual (defArgs d.st) (defBody d.st) (defScope d.st) [] [] f fd) (h : bindB d = true) (nd : d.ps.Nodup) : Binds K fd d.ps [] := by
  unfold bindB at h
  split at h
  · rename_i args kd df e
    have hp : args.map (·.arg) = d.ps := of_decide_eq_true h
    refine F.bindsN fun kV doc pm an cdv ct us hl => ?_
    rw [e, ← hp]
    rw [← hp] at hl nd
    exact bind_gen hl nd
  · cases h
theorem ps_nd {d : Dt} (h : scB d = true) : d.ps.Nodup := by
  have S := scB_ok h
  rw [← S.pre]
  exact S.nd.sublist (List.take_sublist _ _)
theorem ca_nm {t : Tx} {K : PySem.W.Frag} {w : World} (hne : 0 < t.exn.length) (k : Nat) : (t.gx K w).ca k = He.ga K (t.exn.getD (t.nm k) "?") ∧ t.nm k < t.exn.length := by
  show He.ga K (t.exn.getD k (t.exn.headD "?")) = _ ∧ _
  unfold Tx.nm
  by_cases c : k < t.exn.length
  · rw [if_pos c]
    refine ⟨?_, c⟩
    simp [List.getD_eq_getElem?_getD, c]
  · rw [if_neg c]
    refine ⟨?_, hne⟩
    cases h : t.exn with
    | nil => rw [h] at hne; cases hne
    | cons a b => rw [h] at c; simp [List.getD_eq_getElem?_getD, List.getElem?_eq_none (Nat.not_lt.mp c)]
theorem sub_of {t : Tx} {P : Pg} {K : PySem.W.Frag} {w : World} (hx : t.exB K = true) (hne : 0 < t.exn.length) (hs : P.sub = t.sub) : SubH (t.gx K w) ⟨fun _ _ _ => .no, P.meth, P.noat, P.sub, 0⟩ := by
  unfold Tx.exB at hx
  have f := List.all_eq_true.mp hx
  have g : ∀ k, excB K ((t.gx K w).ca k) = true ∧ PySem.W.kitOne K (.ref ((t.gx K w).ca k)) (.type "ValueError") = some true ∧ ∀ c, PySem.W.kitOne K (.ref ((t.gx K w).ca k)) (.ref ((t.gx K w).ca c)) = some (t.sub k c) ∧ PySem.W.exmOne K (.ref ((t.gx K w).ca k)) (.ref ((t.gx K w).ca c)) = some (t.sub k c) := by
    intro k
    obtain ⟨e1, l1⟩ := ca_nm (t := t) (K := K) hne k
    have h1 := f _ (List.mem_range.mpr l1)
    simp only [Bool.and_eq_true, decide_eq_true_eq, List.all_eq_true] at h1
    rw [e1]
    refine ⟨h1.1, h1.2.1, fun c => ?_⟩
    obtain ⟨e2, l2⟩ := ca_nm (t := t) (K := K) hne c
    rw [e2]
    exact h1.2.2 _ (List.mem_range.mpr l2)
  refine ⟨fun k c => ?_, fun k c => ?_, fun k => (g k).2.1, fun k => excB_ok (g k).1⟩
  · rw [show (Cl.sub ⟨fun _ _ _ => .no, P.meth, P.noat, P.sub, 0⟩ k c) = t.sub k c from congrFun (congrFun hs k) c]
    exact ((g k).2.2 c).2
  · rw [show (Cl.sub ⟨fun _ _ _ => .no, P.meth, P.noat, P.sub, 0⟩ k c) = t.sub k c from congrFun (congrFun hs k) c]
    exact ((g k).2.2 c).1
theorem wd_of {t : Tx} {P : Pg} {K : PySem.W.Frag} {w : World} {h : Heap} {mg : Str → Option Value} (X : K.In h) (Gm : h.Ns mainGlobals mg) (c : He.SaysD t.fa t.fn K) (hx : t.exB K = true) (hi : t.insB K = true) (hne : 0 < t.exn.length) (hsub : P.sub = t.sub) (hmeth : P.meth = t.meth) (hnoat : P.noat = t.noat) (ok : t.ok = true) (hp : ∀ (f : Nat) (df : Df), P.df f = some df → ∃ (d : Dt) (n : Nat), t.ds[f]? = some d ∧ trD t.M n d = some df) :
    Wd t.M (t.gx K w) P mg t.ds := by
  unfold Tx.ok at ok
  rw [Bool.and_eq_true, Bool.and_eq_true] at ok
  obtain ⟨ok, oa, om⟩ := ok
  unfold Tx.ok0 at ok
  simp only [Bool.and_eq_true, List.all_eq_true] at ok
  obtain ⟨o1, o2, o3, o4⟩ := ok
  have ik := ik_of (w := w) (K := K) (fun f hf => c.facts hf) hi oa om
  have m1 : ∀ p ∈ t.M.fns, He.Fa.glo p.1 ∈ t.fa := fun p hp => List.mem_append_left _ (List.mem_append_left _ (List.mem_map_of_mem hp))
  have m2 : ∀ x ∈ t.M.free, He.Fa.free x ∈ t.fa := fun x hx => List.mem_append_left _ (List.mem_append_right _ (List.mem_append_left _ (List.mem_map_of_mem hx)))
  have m3 : ∀ p ∈ t.M.exs, He.Fa.glo p.1 ∈ t.fa := fun p hp => List.mem_append_left _ (List.mem_append_right _ (List.mem_append_right _ (List.mem_append_left _ (List.mem_map_of_mem (f := fun p => He.Fa.glo p.1) hp))))
  have m4 : ∀ p ∈ t.M.exs, He.Fa.exc p.1 ∈ t.fa := fun p hp => List.mem_append_left _ (List.mem_append_right _ (List.mem_append_right _ (List.mem_append_right _ (List.mem_append_left _ (List.mem_map_of_mem (f := fun p => He.Fa.exc p.1) hp)))))
  have m5 : ∀ p ∈ t.M.intc, He.Fa.int p.1 p.2 ∈ t.fa := fun p hp => List.mem_append_left _ (List.mem_append_right _ (List.mem_append_right _ (List.mem_append_right _ (List.mem_append_right _ (List.mem_append_left _ (List.mem_map_of_mem (f := fun p => He.Fa.int p.1 p.2) hp))))))
  have m6 : ∀ p ∈ t.M.strc, He.Fa.str p.1 p.2 ∈ t.fa := fun p hp => List.mem_append_left _ (List.mem_append_right _ (List.mem_append_right _ (List.mem_append_right _ (List.mem_append_right _ (List.mem_append_right _ (List.mem_map_of_mem (f := fun p => He.Fa.str p.1 p.2) hp))))))
  have nb : ∀ {x : Str}, nodeb x = true → (x == ("__debug__" : Str)) = false := fun {x} h => bnot_f h
  refine ⟨fun x f hx => ?_, fun f d hd => ?_, fun f d hd => o3 d (List.mem_of_getElem? hd), hp, fun x hx => ?_, fun x c' hx => ?_, fun x i hx => ?_, fun x i hx => ?_, sub_of hx hne hsub, by rw [hmeth, hnoat]; exact ik, fun k m f hf => ?_, fun i f hf => aN_lt hf, fun x k hx => ?_⟩
  · refine look_mem (P := fun x f => mg x = some (.ref ((t.gx K w).fa f)) ∧ (x == ("__debug__" : Str)) = false ∧ f < t.ds.length) hx fun p hp => ?_
    have q := o1 p hp
    have e : (t.ds[p.2]?).map Dt.at_ = some (p.1, none) := of_decide_eq_true q.1
    have lt : p.2 < t.ds.length := by
      by_cases z : p.2 < t.ds.length
      · exact z
      · rw [List.getElem?_eq_none (by omega)] at e; cases e
    refine ⟨?_, nb q.2, lt⟩
    have g := He.glo_ok X Gm (c.facts (m1 p hp))
    show mg p.1 = some (.ref (He.fAd K ((t.ds.map Dt.at_).getD p.2 ("?", none))))
    rw [List.getD_eq_getElem?_getD, List.getElem?_map, e]
    exact g
  · have hm := List.mem_of_getElem? hd
    obtain ⟨fd, F⟩ := c.defs (d := ⟨d.at_, d.name, d.qual, defArgs d.st, defBody d.st, defScope d.st, [], []⟩) (List.mem_map_of_mem (f := fun d : Dt => (⟨d.at_, d.name, d.qual, defArgs d.st, defBody d.st, defScope d.st, [], []⟩ : He.DefD)) hm)
    have e : (t.gx K w).fa f = He.fAd K d.at_ := by
      show He.fAd K ((t.ds.map Dt.at_).getD f ("?", none)) = _
      rw [List.getD_eq_getElem?_getD, List.getElem?_map, hd]
      rfl
    rw [e]
    exact ⟨fd, F, bindB_ok F (o4 d hm) (ps_nd (o3 d hm))⟩
  · have hx' : x ∈ t.M.free := by simpa using hx
    exact He.free_ok X Gm (c.facts (m2 x hx'))
  · refine look_mem (P := fun x c' => mg x = some (.ref ((t.gx K w).ca c')) ∧ (PySem.W.excIn (t.gx K w).K ((t.gx K w).ca c') He.veBase "ValueError.__new__" = true ∧ PySem.W.keepIn (t.gx K w).K (.ref ((t.gx K w).ca c')) = true ∧ PySem.W.subIn (t.gx K w).K (.ref ((t.gx K w).ca c')) (.type "BaseException") = some true ∧
        PySem.W.typeIn (t.gx K w).K (.ref ((t.gx K w).ca c')) = some (.type "type")) ∧ (x == ("__debug__" : Str)) = false) hx fun p hp => ?_
    have q := o2 p hp
    have e : t.exn[p.2]? = some p.1 := of_decide_eq_true q.1
    have e2 : (t.gx K w).ca p.2 = He.ga K p.1 := by
      show He.ga K (t.exn.getD p.2 (t.exn.headD "?")) = _
      rw [List.getD_eq_getElem?_getD, e]
      rfl
    rw [e2]
    exact ⟨He.glo_ok X Gm (c.facts (m3 p hp)), He.exc_ok (c.facts (m4 p hp)), nb q.2⟩
  · exact look_mem (P := fun x i => ∃ t, mg x = some (.int i t)) hx fun p hp => He.int_ok X Gm (c.facts (m5 p hp))
  · exact look_mem (P := fun x i => ∃ t, mg x = some (.str i t)) hx fun p hp => He.str_ok X Gm (c.facts (m6 p hp))
  · rw [hmeth] at hf
    unfold Tx.msB at om
    simp only [Bool.and_eq_true, List.all_eq_true, decide_eq_true_eq] at om
    have e : (t.ds[f]?).map Dt.at_ = some (t.cn k, some (t.aN m)) := (om.1 _ (meth_mem hf)).2.2
    by_cases z : f < t.ds.length
    · exact z
    · rw [List.getElem?_eq_none (by omega)] at e; cases e
  · refine look_mem (P := fun x k => mg x = some (.ref ((t.gx K w).cc k)) ∧ (x == ("__debug__" : Str)) = false ∧ ∃ f, P.meth k 0 = some f ∧ Mk K (He.ga K (t.cn k)) ((t.gx K w).fa f)) hx fun p hp => ?_
    have om' := om
    unfold Tx.msB at om'
    simp only [Bool.and_eq_true, List.all_eq_true, decide_eq_true_eq] at om'
    obtain ⟨c1, c2, c3⟩ := om'.2.2 p hp
    have hm : p.1 ∈ t.cl := List.mem_of_getElem? c1
    have ec : t.cn p.2 = p.1 := by unfold Tx.cn; rw [List.getD_eq_getElem?_getD, c1]; rfl
    obtain ⟨f, hf⟩ := Option.isSome_iff_exists.mp c3
    refine ⟨?_, nb c2, f, by rw [hmeth]; exact hf, ?_⟩
    · show mg p.1 = some (.ref (He.ga K (t.cn p.2)))
      rw [ec]
      exact He.glo_ok X Gm (c.facts (List.mem_append_right _ (List.mem_append_left _ (List.mem_map_of_mem hm))))
    · have mk := He.mkr_ok (c.facts (List.mem_append_right _ (List.mem_append_right _ (List.mem_append_right _ (List.mem_append_left _ (List.mem_map_of_mem (f := He.Fa.mkr) hm))))))
      obtain ⟨l1, l2, l3⟩ := om'.1 _ (meth_mem hf)
      have ea : t.aN 0 = "__init__" := by
        unfold Tx.anB at oa
        simp only [Bool.and_eq_true, decide_eq_true_eq] at oa
        refine aN_lt ?_
        have : (t.M.an.take 4)[0]? = some ("__init__" : Str) := by rw [oa.2.2]; rfl
        rwa [List.getElem?_take_of_lt (by decide)] at this
      have : (t.gx K w).fa f = He.ma K (He.ga K p.1) "__init__" := by
        show He.fAd K ((t.ds.map Dt.at_).getD f ("?", none)) = _
        rw [List.getD_eq_getElem?_getD, List.getElem?_map, l3, ← ea, ← ec]; rfl
      rw [this, ec]
      exact mk
/-- the law's promise, from the run of its text -/
theorem law_sp {t : Tx} {P : Pg} {n f : Nat} {K : PySem.W.Frag} {w : World} (hK : noList K = true) (hl : ∀ ns : List Int, ns.length ≤ 63 → ∃ h', callF P n f [.ob 0] [.scr (ns.map .int)] = .ok (.bl true, h')) (H : Hp) (a : Addr) (ns : List Int) (hn : ns.length ≤ 63) (hO : Only H) (hS : SqL K H a (ns.map V.int)) :
    spF (t.gx K w) (callF P n f) [.ref a] H (fun v _ => v = .bl true) fun _ _ _ => False := by
  have hf : ∃ o, H a = some (.frz o (.lst (ns.map V.int))) := by
    rcases hS with (h | h) | ⟨o, its, m, l, c, _⟩
    · rcases hO a with z | ⟨o, xs, z⟩
      · rw [z] at h; cases h
      · rw [z] at h; cases h
    · exact h
    · exact absurd c (noList_no hK l)
  obtain ⟨h', e⟩ := hl ns hn
  have ri : ∀ ns : List Int, RDs (t.gx K w) 1 (fun _ => a) H (ns.map D.int) (ns.map V.int) := fun ns => by
    induction ns with
    | nil => exact RDs.nil
    | cons x xs ih => exact RDs.cons dInt ih
  refine ⟨fun _ => a, [.scr (ns.map .int)], [.ob 0], ⟨fun i j hi hj _ => ?_, fun i o ho => ?_⟩, ?_, ?_⟩
  · have : i < 1 := hi
    have : j < 1 := hj
    omega
  · match i, ho with
    | 0, ho =>
      cases ho
      exact ⟨_, hf, ri ns⟩
  · exact RDs.one (by unfold RD; exact ⟨Nat.zero_lt_one, rfl⟩)
  · rw [e]
    intro α1 v H1 _ _ r
    have r' : RD (t.gx K w) h'.length α1 H1 (.bl true) v := r
    unfold RD at r'
    exact r'
/-- all that walk_ofE asks -/
theorem law_facts {t : Tx} {P : Pg} {n f : Nat} {d : Dt} {Pr : Program} {w : World} {K : PySem.W.Frag} {h : Heap} {mg : Str → Option Value} {fa : Addr} {x : Str} (X : K.In h) (Gm : h.Ns mainGlobals mg) (hfa : mg d.name = some (.ref fa)) (c : He.SaysX t.fa t.fn [] [] t.ex w h K) (hne : 0 < t.exn.length) (hsub : P.sub = t.sub) (hmeth : P.meth = t.meth) (hnoat : P.noat = t.noat) (ok : t.ok = true)
    (hp : ∀ (f : Nat) (df : Df), P.df f = some df → ∃ (d : Dt) (n : Nat), t.ds[f]? = some d ∧ trD t.M n d = some df) (hd : t.ds[f]? = some d) (hx : d.ps = [x]) (hfn : look d.name t.M.fns = some f) (hl : ∀ ns : List Int, ns.length ≤ 63 → ∃ h', callF P n f [.ob 0] [.scr (ns.map .int)] = .ok (.bl true, h')) :
    ∃ (K : PySem.W.Frag) (fd : FuncData) (sp : Sp), K.In h ∧ (∀ (s : Shared) (u : Value), BindsTo s fd ⟨[u], []⟩ [(x, u)]) ∧
        (∀ (H : Hp) (a : Addr) (ns : List Int), ns.length ≤ 63 → Only H → SqL K H a (ns.map V.int) → sp [.ref a] H (fun v _ => v = .bl true) fun _ _ _ => False) ∧
        ∀ base : Heap, K.In base → base.Ns mainGlobals mg → FnOk Pr w K mg base (L2.CX Pr w) (2 * n) fa fd [x] sp := by
  have cm : (noList K && (t.exB K && t.insB K)) = true := c.more
  rw [Bool.and_eq_true, Bool.and_eq_true] at cm
  have W := wd_of (w := w) X Gm c.t.d cm.2.1 cm.2.2 hne hsub hmeth hnoat ok hp
  have e1 := (W.fns d.name f hfn).1
  rw [hfa] at e1
  cases e1
  obtain ⟨fd, F, b⟩ := W.fd f d hd
  refine ⟨K, fd, spF (t.gx K w) (callF P n f), X, fun s u => ?_, law_sp cm.1 hl, fun base _ _ => ?_⟩
  · have hb : bindB d = true := by
      unfold Tx.ok Tx.ok0 at ok
      simp only [Bool.and_eq_true, List.all_eq_true] at ok
      exact ok.1.2.2.2 d (List.mem_of_getElem? hd)
    have nd := ps_nd (W.sc f d hd)
    unfold bindB at hb
    split at hb
    · rename_i args kd df e
      have hpz : args.map (·.arg) = d.ps := of_decide_eq_true hb
      have q := F.bindsA (ps := [x]) (fun kV doc pm an cdv ct us hl => by
        rw [e, ← hx, ← hpz]
        rw [← hpz] at hx nd
        exact bind_gen (by rw [hx]; exact hl) nd) s [u] rfl
      exact q
    · cases hb
  · have := fn_all (Pr := Pr) (base := base) W n f d fd hd F
    rw [hx] at this
    exact this
theorem walk_ofW {l : PySem.W.OpenLaw} {n k : Nat} {q : Program} {loose : List Str} {XP : (Str → Option Value) → Heap → Prop} {YP : World → Heap → Prop} {d : DefRec} {CX : World → CXT} {x : Str}
    (hn : l.most = some n) (hn2 : n ≤ sizeLine) (hdf : d.params.defaults = []) (hr : Room k callerA)
    (F : ∀ (w : World) (mg : Str → Option Value) (fa : Addr) (h : Heap), YP w h → h.Ns mainGlobals mg → mg d.name = some (.ref fa) →
      ∃ (K : PySem.W.Frag) (fd : FuncData) (sp : Sp), K.In h ∧ (∀ (s : Shared) (u : Value), BindsTo s fd ⟨[u], []⟩ [(x, u)]) ∧
        (∀ (H : Hp) (a : Addr) (ns : List Int), ns.length ≤ n → Only H → SqL K H a (ns.map V.int) → sp [.ref a] H (fun v _ => v = .bl true) fun _ _ _ => False) ∧
        ∀ base : Heap, K.In base → base.Ns mainGlobals mg → FnOk l.prog w K mg base (CX w) k fa fd [x] sp)
    (hCX : ∀ (w : World) (H : Hp) (s : Shared) (e : Value) (s' : Shared), CX w [] H s (fun _ _ _ => False) e s' → False) :
    PySem.W.WalkO q loose XP YP l.row.toRowW d [] (fun f vs => PySem.call f vs) := by
  refine Att.attach_call hn hdf fun w s₀ s₁ mg mb fa o pm cd doc a vs ns G Y ho hd hcd hmg hobj hints hlen hg => ?_
  obtain ⟨K, fd, sp, KX, hb, hsp, hF⟩ := F w mg fa _ Y G.T.g hmg
  exact law_call KX G.T.g G.T.b G.T.builtins G.T.nolimit hg hobj hints (Nat.le_trans hlen hn2) hr hF hb (fun H hO hS => hsp H a ns hlen hO hS) fun H e s' => hCX w H s₁ e s'
theorem noCX {P : Program} {w : World} {H : Hp} {s : Shared} {e : Value} {s' : Shared} (h : L2.CX P w [] H s (fun _ _ _ => False) e s') : False := by
  obtain ⟨_, _, _, _, _, _, _, _, _, _, _, _, z⟩ := h
  exact z
end Mp
set_option maxHeartbeats 4000000
namespace Mp
/-! running -/
noncomputable def Pg.cl (P : Pg) (n : Nat) : Cl := ⟨callF P n, P.meth, P.noat, P.sub, P.fuel⟩
@[simp] theorem Pg.cl_call (P : Pg) (n : Nat) : (P.cl n).call = callF P n := rfl
@[simp] theorem Pg.cl_fuel (P : Pg) (n : Nat) : (P.cl n).fuel = P.fuel := rfl
theorem callF_at {P : Pg} {n f : Nat} {d : Df} {ds : List D} {h : Hd} (hd : P.df f = some d) (hl : ds.length = d.np) : callF P (n + 1) f ds h = endF h (evSs (P.cl n) d.body (start d ds) h) := by
  show (match P.df f with
    | some d => if ds.length = d.np then endF h (evSs ⟨callF P n, P.meth, P.noat, P.sub, P.fuel⟩ d.body (start d ds) h) else .no
    | none => .no) = _
  rw [hd]
  exact if_pos hl
@[simp] theorem oldOk_app (m : Nat) : ∀ h g : Hd, oldOk m h (h ++ g) = true
  | [], _ => rfl
  | a :: r, g => by simp [oldOk, oldOk_app m r g]
@[simp] theorem oldOk_self (m : Nat) (h : Hd) : oldOk m h h = true := by have := oldOk_app m h []; simpa using this
theorem gc_app {h g : Hd} {d : D} (hd : D.lo h.length d = true) : gc h d (h ++ g) = (d, h) := by
  simp [gc, oldOk_app, hd]
theorem gc_self {h : Hd} {d : D} (hd : D.lo h.length d = true) : gc h d h = (d, h) := by
  simp [gc, oldOk_self, hd]
@[simp] theorem gcX_app {h g : Hd} : gcX h (h ++ g) = h := by simp [gcX, oldOk_app]
@[simp] theorem gcX_self {h : Hd} : gcX h h = h := by simp [gcX, oldOk_self]
/-- a new list of old things is what remains -/
theorem gc_lst {h g : Hd} {k : Nat} {xs : List D} (hk : h.length ≤ k) (e : (h ++ g)[k]? = some (.lst xs)) (hx : D.los h.length xs = true) : gc h (.ob k) (h ++ g) = (.ob h.length, h ++ [.lst xs]) := by
  have : D.lo h.length (.ob k) = false := by simp [D.lo]; omega
  simp [gc, oldOk_app, this, e, hx]
@[simp] theorem lo_non {m} : D.lo m .non = true := rfl
@[simp] theorem lo_bl {m b} : D.lo m (.bl b) = true := rfl
@[simp] theorem lo_int {m b} : D.lo m (.int b) = true := rfl
@[simp] theorem lo_str {m b} : D.lo m (.str b) = true := rfl
@[simp] theorem lo_ob {m b} : D.lo m (.ob b) = decide (b < m) := rfl
@[simp] theorem lo_tup {m b} : D.lo m (.tup b) = D.los m b := rfl
@[simp] theorem los_nil {m} : D.los m [] = true := rfl
@[simp] theorem los_cons {m x xs} : D.los m (x :: xs) = (D.lo m x && D.los m xs) := rfl
@[simp] theorem gc_bl {h b} : gc h (.bl b) h = (.bl b, h) := gc_self rfl
@[simp] theorem gc_int {h b} : gc h (.int b) h = (.int b, h) := gc_self rfl
@[simp] theorem gc_non {h} : gc h .non h = (.non, h) := gc_self rfl
@[simp] theorem gc_str {h b} : gc h (.str b) h = (.str b, h) := gc_self rfl
@[simp] theorem gc_bl2 {h g b} : gc h (.bl b) (h ++ g) = (.bl b, h) := gc_app rfl
@[simp] theorem gc_int2 {h g b} : gc h (.int b) (h ++ g) = (.int b, h) := gc_app rfl
@[simp] theorem gc_non2 {h g} : gc h .non (h ++ g) = (.non, h) := gc_app rfl
@[simp] theorem gc_str2 {h g b} : gc h (.str b) (h ++ g) = (.str b, h) := gc_app rfl
def b_is_between : Df := ⟨3, 3, [
  (.ret (.and_ (.isi (.v 0) [.int]) (.and_ (.nt (.isi (.v 0) [.bool])) (.chn .le .le (.v 1) (.v 0) (.v 2)))))]⟩
section
variable (C : Cl)
@[simp] theorem evR_v {i σ h} : evR C (.v i) σ h = (getV σ i >>= fun d => .ok (.v d, h)) := rfl
@[simp] theorem evR_c {d σ h} : evR C (.c d) σ h = .ok (.v d, h) := rfl
@[simp] theorem evR_gc {x d σ h} : evR C (.gc x d) σ h = .ok (.v d, h) := rfl
@[simp] theorem evR_gf {f σ h} : evR C (.gf f) σ h = .ok (.v (.fn f), h) := rfl
@[simp] theorem evR_bin {op a b σ h} : evR C (.bin op a b) σ h = (vl (evR C a σ h) >>= fun p => vl (evR C b σ p.2) >>= fun q => rv (binD op p.1 q.1 q.2)) := rfl
@[simp] theorem evR_neg {a σ h} : evR C (.neg a) σ h = (vl (evR C a σ h) >>= fun p => negD p.1 >>= fun d => .ok (.v d, p.2)) := rfl
@[simp] theorem evR_nt {a σ h} : evR C (.nt a) σ h = (ts (evR C a σ h) >>= fun p => .ok (.v (.bl (!p.1)), p.2)) := rfl
@[simp] theorem evR_cmp {op a b σ h} : evR C (.cmp op a b) σ h = (vl (evR C a σ h) >>= fun p => vl (evR C b σ p.2) >>= fun q => rv (cmpC C op p.1 q.1 q.2)) := rfl
@[simp] theorem evR_chn {o o2 a b c σ h} : evR C (.chn o o2 a b c) σ h = (vl (evR C a σ h) >>= fun p => vl (evR C b σ p.2) >>= fun q => cmpD o p.1 q.1 q.2 >>= fun r =>
    if r then vl (evR C c σ q.2) >>= fun z => cmpD o2 q.1 z.1 z.2 >>= fun r2 => .ok (.v (.bl r2), z.2) else .ok (.v (.bl false), q.2)) := rfl
@[simp] theorem evR_and {a b σ h} : evR C (.and_ a b) σ h = (vl (evR C a σ h) >>= andR fun h => evR C b σ h) := rfl
@[simp] theorem evR_or {a b σ h} : evR C (.or_ a b) σ h = (vl (evR C a σ h) >>= orR fun h => evR C b σ h) := rfl
@[simp] theorem evR_ite {t a b σ h} : evR C (.ite t a b) σ h = (ts (evR C t σ h) >>= fun p => if p.1 then rv (vl (evR C a σ p.2)) else rv (vl (evR C b σ p.2))) := rfl
@[simp] theorem evR_tup {es σ h} : evR C (.tup es) σ h = (evEs C es σ h >>= fun p => if p.1.length ≤ sizeL then .ok (.v (.tup p.1), p.2) else .no) := rfl
@[simp] theorem evR_lst {es σ h} : evR C (.lst es) σ h = (evEs C es σ h >>= fun p => if p.1.length ≤ sizeL then .ok (.l p.1, p.2) else .no) := rfl
@[simp] theorem evR_ix {a i σ h} : evR C (.ix a i) σ h = (vl (evR C a σ h) >>= fun p => vl (evR C i σ p.2) >>= fun q => ixC p.1 q.1 q.2 >>= fun r => .ok (.v r, q.2)) := rfl
@[simp] theorem evR_sl {a lo hi σ h} : evR C (.sl a lo hi) σ h = (vl (evR C a σ h) >>= fun p => prtR lo (vl (evR C lo σ p.2)) >>= fun l => prtR hi (vl (evR C hi σ l.2)) >>= fun u => rv (slD p.1 l.1 u.1 u.2)) := rfl
@[simp] theorem evR_rv {a σ h} : evR C (.rv a) σ h = (vl (evR C a σ h) >>= fun p => rvD p.1 p.2) := rfl
@[simp] theorem evR_call {f es σ h} : evR C (.call f es) σ h = (evEs C es σ h >>= fun p => rv (callD C f es p.1 p.2)) := rfl
@[simp] theorem evR_b1int {a σ h} : evR C (.b1 .int_ a) σ h = (vl (evR C a σ h) >>= fun p => rv (b1V .int_ p.1 p.2)) := rfl
@[simp] theorem evR_b1str {a σ h} : evR C (.b1 .str_ a) σ h = (vl (evR C a σ h) >>= fun p => rv (b1V .str_ p.1 p.2)) := rfl
@[simp] theorem evR_b1list {a σ h} : evR C (.b1 .list a) σ h = (qs (evR C a σ h) >>= fun p => (match p.1 with
      | .s x => if x.length ≤ sizeL then .ok (.l (Sq.items (.s x)), p.2) else .no
      | .d _ _ _ => .no
      | q => .ok (.l q.items, p.2))) := rfl
@[simp] theorem evR_b1len {a σ h} : evR C (.b1 .len a) σ h = (qs (evR C a σ h) >>= fun p => rv (b1D .len p.1 p.2)) := rfl
@[simp] theorem evR_b1tuple {a σ h} : evR C (.b1 .tuple a) σ h = (qs (evR C a σ h) >>= fun p => rv (b1D .tuple p.1 p.2)) := rfl
@[simp] theorem evR_b1all {a σ h} : evR C (.b1 .all a) σ h = (qs (evR C a σ h) >>= fun p => rv (b1D .all p.1 p.2)) := rfl
@[simp] theorem evR_b1any {a σ h} : evR C (.b1 .any a) σ h = (qs (evR C a σ h) >>= fun p => rv (b1D .any p.1 p.2)) := rfl
@[simp] theorem evR_b1sum {a σ h} : evR C (.b1 .sum a) σ h = (qs (evR C a σ h) >>= fun p => rv (b1D .sum p.1 p.2)) := rfl
@[simp] theorem evR_b1max {a σ h} : evR C (.b1 .max a) σ h = (qs (evR C a σ h) >>= fun p => rv (b1D .max p.1 p.2)) := rfl
@[simp] theorem evR_b1min {a σ h} : evR C (.b1 .min a) σ h = (qs (evR C a σ h) >>= fun p => rv (b1D .min p.1 p.2)) := rfl
@[simp] theorem evR_b2 {f a b σ h} : evR C (.b2 f a b) σ h = (vl (evR C a σ h) >>= fun p => vl (evR C b σ p.2) >>= fun q => rv (b2D f p.1 q.1 q.2)) := rfl
@[simp] theorem evR_join {o a σ h} : evR C (.m1 .join o a) σ h = (vl (evR C o σ h) >>= fun p => rcv .join p.1 p.2 >>= fun _ => qs (evR C a σ p.2) >>= fun q => joinD p.1 q.1 >>= fun d => .ok (.v d, q.2)) := rfl
@[simp] theorem evR_append {o a σ h} : evR C (.m1 .append o a) σ h = (vl (evR C o σ h) >>= fun p => rcv .append p.1 p.2 >>= fun _ => vl (evR C a σ p.2) >>= fun q => rv (m1D .append p.1 q.1 q.2)) := rfl
@[simp] theorem evR_index {o a σ h} : evR C (.m1 .index o a) σ h = (vl (evR C o σ h) >>= fun p => rcv .index p.1 p.2 >>= fun _ => vl (evR C a σ p.2) >>= fun q => rv (m1D .index p.1 q.1 q.2)) := rfl
@[simp] theorem evR_split {o a σ h} : evR C (.m1 .split o a) σ h = (vl (evR C o σ h) >>= fun p => rcv .split p.1 p.2 >>= fun _ => vl (evR C a σ p.2) >>= fun q => rv (m1D .split p.1 q.1 q.2)) := rfl
@[simp] theorem evR_count {o a σ h} : evR C (.m1 .count o a) σ h = (vl (evR C o σ h) >>= fun p => rcv .count p.1 p.2 >>= fun _ => vl (evR C a σ p.2) >>= fun q => rv (m1D .count p.1 q.1 q.2)) := rfl
@[simp] theorem evR_pop1 {o a σ h} : evR C (.m1 .pop o a) σ h = (vl (evR C o σ h) >>= fun p => rcv .pop p.1 p.2 >>= fun _ => vl (evR C a σ p.2) >>= fun q => rv (m1D .pop p.1 q.1 q.2)) := rfl
@[simp] theorem evR_extend {o a σ h} : evR C (.m1 .extend o a) σ h = (vl (evR C o σ h) >>= fun p => rcv .extend p.1 p.2 >>= fun _ => qs (evR C a σ p.2) >>= fun q => rv (extD p.1 q.1 q.2)) := rfl
@[simp] theorem evR_m0 {m : M0} {o σ h} : evR C (.m0 m o) σ h = (vl (evR C o σ h) >>= fun p => rv (m0D m p.1 p.2)) := rfl
@[simp] theorem evR_fs {es σ h} : evR C (.fs es) σ h = (evFs C es σ h [] >>= fun p => .ok (.v (.str p.1), p.2)) := rfl
@[simp] theorem evFs_nil {σ h acc} : evFs C [] σ h acc = .ok (acc, h) := rfl
@[simp] theorem evFs_cons {e es σ h acc} : evFs C (e :: es) σ h acc = (vl (evR C e σ h) >>= fun p => fmtD p.1 >>= fun s => if acc.length + s.length ≤ sizeL then evFs C es σ p.2 (acc ++ s) else .no) := rfl
@[simp] theorem evI_zp {a b σ h} : evI C (.zp a b) σ h = (qs (evR C a σ h) >>= fun p => qs (evR C b σ p.2) >>= fun q => match p.1, q.1 with
    | .t xs, .t ys => .ok ((.t [], zipD xs ys), q.2)
    | _, _ => .no) := rfl
@[simp] theorem evR_mk {c es σ h} : evR C (.mk c es) σ h = (evEs C es σ h >>= fun p => rv (mkD C c p.1 p.2)) := rfl
@[simp] theorem evR_um {m o es σ h} : evR C (.um m o es) σ h = (vl (evR C o σ h) >>= fun p => umQ C m p.1 p.2 >>= fun g => evEs C es σ p.2 >>= fun q => rv (C.call g (p.1 :: q.1) q.2)) := rfl
@[simp] theorem evR_fld {o f σ h} : evR C (.fld o f) σ h = (vl (evR C o σ h) >>= fun p => fldD C p.1 f p.2 >>= fun d => .ok (.v d, p.2)) := rfl
@[simp] theorem evS_setFld {o f e σ h} : evS C (.setFld o f e) σ h = (thenF σ (vl (evR C e σ h)) fun p => thenF σ (vl (evR C o σ p.2)) fun q => setFldF C σ q.1 f p.1 q.2) := rfl
theorem umQ_at {m k c f fs} {h : Hd} (e : h[k]? = some (.ins c fs)) (hm : C.meth c m = some f) (hl : fs.lookup m = none) : umQ C m (.ob k) h = .ok f := by simp only [umQ, e, hm, hl]
theorem fldD_at {m k c fs d} {h : Hd} (e : h[k]? = some (.ins c fs)) (hn : C.noat c m = true) (hl : fs.lookup m = some d) : fldD C (.ob k) m h = .ok d := by simp only [fldD, e, hn, hl]; rfl
theorem setFldF_at {σ : Sl} {m k c fs d} {h : Hd} (e : h[k]? = some (.ins c fs)) (hn : C.noat c m = true) (hl : fs.length < 1000) : setFldF C σ (.ob k) m d h = .nx σ (h.set k (.ins c (fPut fs m d))) := by simp only [setFldF, e, hn, decide_eq_true hl]; rfl
@[simp] theorem evS_try {b c i j σ h} : evS C (.try_ b c i j) σ h = tryF C c i j (evSs C b σ h) := rfl
@[simp] theorem evR_isi {a t σ h} : evR C (.isi a t) σ h = (vl (evR C a σ h) >>= fun p => isiD C t p.1 p.2 >>= fun d => .ok (.v d, p.2)) := rfl
@[simp] theorem evEs_nil {σ h} : evEs C [] σ h = .ok ([], h) := rfl
@[simp] theorem evEs_cons {e es σ h} : evEs C (e :: es) σ h = (vl (evR C e σ h) >>= fun p => evEs C es σ p.2 >>= fun q => .ok (p.1 :: q.1, q.2)) := rfl
@[simp] theorem evI_sq {e σ h} : evI C (.sq e) σ h = (qs (evR C e σ h) >>= fun p => .ok ((p.1, p.1.items), lockH p.2 p.1)) := rfl
@[simp] theorem evI_rng {a b σ h} : evI C (.rng a b) σ h = (vl (evR C a σ h) >>= fun p => vl (evR C b σ p.2) >>= fun q => rngD p.1 q.1 >>= fun xs => .ok ((.t [], xs), q.2)) := rfl
@[simp] theorem evI_en {e σ h} : evI C (.en e) σ h = (qs (evR C e σ h) >>= fun p => match p.1 with
    | .l id xs => .ok ((.l id xs, enumD 0 xs), p.2)
    | .t xs => .ok ((.t [], enumD 0 xs), p.2)
    | _ => .no) := rfl
@[simp] theorem evS_ex {e σ h} : evS C (.ex e) σ h = (thenF σ (vl (evR C e σ h)) fun p => .nx σ p.2) := rfl
@[simp] theorem evS_asg {t e σ h} : evS C (.asg t e) σ h = (thenF σ (vl (evR C e σ h)) (asgF t σ)) := rfl
@[simp] theorem evS_setIx {o i e σ h} : evS C (.setIx o i e) σ h = (thenF σ (vl (evR C e σ h)) fun p => thenF σ (vl (evR C o σ p.2)) fun q => thenF σ (vl (evR C i σ q.2)) fun r => setIxF σ q.1 r.1 p.1 r.2) := rfl
@[simp] theorem evS_par {i e σ h} : evS C (.par i e) σ h = (thenF σ (evEs C e σ h) (parF i σ)) := rfl
@[simp] theorem evS_ite {t a b σ h} : evS C (.ite t a b) σ h = (thenF σ (ts (evR C t σ h)) fun p => if p.1 then evSs C a σ p.2 else evSs C b σ p.2) := rfl
@[simp] theorem evS_ret {e σ h} : evS C (.ret e) σ h = (thenF σ (vl (evR C e σ h)) fun p => .rt p.1 p.2) := rfl
@[simp] theorem evS_retN {σ h} : evS C .retN σ h = .rt .non h := rfl
@[simp] theorem evS_raise {c σ h} : evS C (.raise c) σ h = .ex c σ h := rfl
@[simp] theorem evS_pas {σ h} : evS C .pas σ h = .nx σ h := rfl
@[simp] theorem evS_brk {σ h} : evS C .brk σ h = .bk σ h := rfl
@[simp] theorem evS_cnt {σ h} : evS C .cnt σ h = .ct σ h := rfl
@[simp] theorem evSs_nil {σ h} : evSs C [] σ h = .nx σ h := rfl
/-- a statement's run, then the others' -/
def F.seq (x : F) (k : Sl → Hd → F) : F := match x with
  | .nx σ h => k σ h
  | f => f
@[simp] theorem F.seq_nx {σ h k} : F.seq (.nx σ h) k = k σ h := rfl
@[simp] theorem F.seq_rt {d h k} : F.seq (.rt d h) k = .rt d h := rfl
@[simp] theorem F.seq_bk {d h k} : F.seq (.bk d h) k = .bk d h := rfl
@[simp] theorem F.seq_ct {d h k} : F.seq (.ct d h) k = .ct d h := rfl
@[simp] theorem F.seq_ex {c d h k} : F.seq (.ex c d h) k = .ex c d h := rfl
@[simp] theorem evSs_cons {s ss σ h} : evSs C (s :: ss) σ h = F.seq (evS C s σ h) fun σ' h' => evSs C ss σ' h' := rfl
end
@[simp] theorem lockH_l {h id xs} : lockH h (.l id xs) = h := rfl
@[simp] theorem lockH_t {h xs} : lockH h (.t xs) = h := rfl
@[simp] theorem lockH_s {h xs} : lockH h (.s xs) = h := rfl
@[simp] theorem openH_l {h id xs} : openH h (.l id xs) = h := rfl
@[simp] theorem openH_t {h xs} : openH h (.t xs) = h := rfl
@[simp] theorem openH_s {h xs} : openH h (.s xs) = h := rfl
@[simp] theorem openF_l {f id xs} : openF (.l id xs) f = f := rfl
@[simp] theorem openF_t {f xs} : openF (.t xs) f = f := rfl
@[simp] theorem openF_s {f xs} : openF (.s xs) f = f := rfl
/-- a comparison's end -/
def cmpE (r : R Bool) (h : Hd) : R (D × Hd) := r >>= fun b => .ok (.bl b, h)
@[simp] theorem cmpE_ok {b h} : cmpE (.ok b) h = .ok (.bl b, h) := rfl
section
variable {C : Cl} {a b : D} {h : Hd}
@[simp] theorem cmpC_lt : cmpC C .lt a b h = cmpE (cmpD .lt a b h) h := rfl
@[simp] theorem cmpC_le : cmpC C .le a b h = cmpE (cmpD .le a b h) h := rfl
@[simp] theorem cmpC_gt : cmpC C .gt a b h = cmpE (cmpD .gt a b h) h := rfl
@[simp] theorem cmpC_ge : cmpC C .ge a b h = cmpE (cmpD .ge a b h) h := rfl
@[simp] theorem cmpC_is : cmpC C .is_ a b h = cmpE (cmpD .is_ a b h) h := rfl
@[simp] theorem cmpC_isnot : cmpC C .isnot a b h = cmpE (cmpD .isnot a b h) h := rfl
@[simp] theorem cmpC_eq_non : cmpC C .eq .non b h = cmpE (cmpD .eq .non b h) h := rfl
@[simp] theorem cmpC_eq_bl {x} : cmpC C .eq (.bl x) b h = cmpE (cmpD .eq (.bl x) b h) h := rfl
@[simp] theorem cmpC_eq_int {x} : cmpC C .eq (.int x) b h = cmpE (cmpD .eq (.int x) b h) h := rfl
@[simp] theorem cmpC_eq_str {x} : cmpC C .eq (.str x) b h = cmpE (cmpD .eq (.str x) b h) h := rfl
@[simp] theorem cmpC_eq_tup {x} : cmpC C .eq (.tup x) b h = cmpE (cmpD .eq (.tup x) b h) h := rfl
theorem cmpC_eq_lst {k xs} (e : h[k]? = some (.lst xs)) : cmpC C .eq (.ob k) b h = cmpE (cmpD .eq (.ob k) b h) h := by simp only [cmpC, eqO, e]; rfl
theorem cmpC_eq_scr {k xs} (e : h[k]? = some (.scr xs)) : cmpC C .eq (.ob k) b h = cmpE (cmpD .eq (.ob k) b h) h := by simp only [cmpC, eqO, e]; rfl
@[simp] theorem cmpC_ne_non : cmpC C .ne .non b h = cmpE (cmpD .ne .non b h) h := rfl
@[simp] theorem cmpC_ne_bl {x} : cmpC C .ne (.bl x) b h = cmpE (cmpD .ne (.bl x) b h) h := rfl
@[simp] theorem cmpC_ne_int {x} : cmpC C .ne (.int x) b h = cmpE (cmpD .ne (.int x) b h) h := rfl
@[simp] theorem cmpC_ne_str {x} : cmpC C .ne (.str x) b h = cmpE (cmpD .ne (.str x) b h) h := rfl
@[simp] theorem cmpC_ne_tup {x} : cmpC C .ne (.tup x) b h = cmpE (cmpD .ne (.tup x) b h) h := rfl
theorem cmpC_ne_lst {k xs} (e : h[k]? = some (.lst xs)) : cmpC C .ne (.ob k) b h = cmpE (cmpD .ne (.ob k) b h) h := by simp only [cmpC, eqO, e]; rfl
theorem cmpC_ne_scr {k xs} (e : h[k]? = some (.scr xs)) : cmpC C .ne (.ob k) b h = cmpE (cmpD .ne (.ob k) b h) h := by simp only [cmpC, eqO, e]; rfl
@[simp] theorem cmpC_in_tup {x} : cmpC C .in_ a (.tup x) h = cmpE (cmpD .in_ a (.tup x) h) h := rfl
@[simp] theorem cmpC_in_str {x} : cmpC C .in_ a (.str x) h = cmpE (cmpD .in_ a (.str x) h) h := rfl
theorem cmpC_in_lst {k xs} (e : h[k]? = some (.lst xs)) : cmpC C .in_ a (.ob k) h = cmpE (cmpD .in_ a (.ob k) h) h := by simp only [cmpC, dctOf, e]; rfl
@[simp] theorem cmpC_nin_tup {x} : cmpC C .notin a (.tup x) h = cmpE (cmpD .notin a (.tup x) h) h := rfl
@[simp] theorem cmpC_nin_str {x} : cmpC C .notin a (.str x) h = cmpE (cmpD .notin a (.str x) h) h := rfl
theorem cmpC_nin_lst {k xs} (e : h[k]? = some (.lst xs)) : cmpC C .notin a (.ob k) h = cmpE (cmpD .notin a (.ob k) h) h := by simp only [cmpC, dctOf, e]; rfl
@[simp] theorem ixC_str {x i} : ixC (.str x) i h = ixD (.str x) i h := rfl
end
@[simp] theorem R.of_some {α : Type} {a : α} : R.of (some a) = .ok a := rfl
@[simp] theorem R.of_none {α : Type} : R.of (none : Option α) = .no := rfl
@[simp] theorem vl_v {d h} : vl (.ok (.v d, h)) = .ok (d, h) := rfl
@[simp] theorem vl_l {xs h} : vl (.ok (.l xs, h)) = .ok (.ob h.length, h ++ [.lst xs]) := rfl
@[simp] theorem vl_ex {c h} : vl (.ex c h) = .ex c h := rfl
@[simp] theorem qs_l {xs h} : qs (.ok (.l xs, h)) = .ok (.l none xs, h) := rfl
@[simp] theorem qs_t {xs h} : qs (.ok (.v (.tup xs), h)) = .ok (.t xs, h) := rfl
@[simp] theorem qs_s {xs h} : qs (.ok (.v (.str xs), h)) = .ok (.s xs, h) := rfl
theorem qs_ob {k xs} {h : Hd} (e : h[k]? = some (.lst xs)) : qs (.ok (.v (.ob k), h)) = .ok (.l (some k) xs, h) := by simp [qs, sqOf, e]
theorem qs_scr {k xs} {h : Hd} (e : h[k]? = some (.scr xs)) : qs (.ok (.v (.ob k), h)) = .ok (.l (some k) xs, h) := by simp [qs, sqOf, e]
@[simp] theorem items_l {id xs} : Sq.items (.l id xs) = xs := rfl
@[simp] theorem items_t {xs} : Sq.items (.t xs) = xs := rfl
@[simp] theorem items_s {x} : Sq.items (.s x) = x.map fun c => .str [c] := rfl
@[simp] theorem ts_bl {b h} : ts (.ok (.v (.bl b), h)) = .ok (b, h) := rfl
@[simp] theorem ts_ex {c h} : ts (.ex c h) = .ex c h := rfl
@[simp] theorem rv_ok {d h} : rv (.ok (d, h)) = .ok (.v d, h) := rfl
@[simp] theorem rv_ex {c h} : rv (.ex c h) = .ex c h := rfl
@[simp] theorem getV_z {d l} : getV (some d :: l) 0 = .ok d := rfl
@[simp] theorem getV_s {x l n} : getV (x :: l) (n + 1) = getV l n := rfl
@[simp] theorem thenF_ok {β : Type} {σ} {p : β × Hd} {k} : thenF σ (.ok p) k = k p := rfl
@[simp] theorem thenF_ex {β : Type} {σ c h} {k : β × Hd → F} : thenF σ (.ex c h) k = .ex c σ h := rfl
@[simp] theorem asgT_nm {i d σ} : asgT (.nm i) d σ = if i < σ.length then some (σ.set i (some d)) else none := rfl
@[simp] theorem asgT_tp {ts xs σ} : asgT (.tp ts) (.tup xs) σ = asgTs ts xs σ := rfl
@[simp] theorem asgTs_nil {σ} : asgTs [] [] σ = some σ := rfl
@[simp] theorem asgTs_cons {t ts x xs σ} : asgTs (t :: ts) (x :: xs) σ = (asgT t x σ).bind fun σ' => asgTs ts xs σ' := rfl
/-- a store's end -/
def nxO (o : Option Sl) (h : Hd) : F := match o with
  | some σ' => .nx σ' h
  | none => .no
@[simp] theorem nxO_some {σ h} : nxO (some σ) h = .nx σ h := rfl
@[simp] theorem asgF_eq {t σ d h} : asgF t σ (d, h) = nxO (asgT t d σ) h := rfl
@[simp] theorem parF_eq {is σ ds h} : parF is σ (ds, h) = nxO (asgTs (is.map .nm) ds σ) h := rfl
@[simp] theorem endF_rt {h0 d h} : endF h0 (.rt d h) = .ok (gc h0 d h) := rfl
@[simp] theorem endF_nx {h0 σ h} : endF h0 (.nx σ h) = .ok (gc h0 .non h) := rfl
@[simp] theorem endF_ex {h0 c σ h} : endF h0 (.ex c σ h) = .ex c (gcX h0 h) := rfl
@[simp] theorem truD_bl {b} : truD (.bl b) = .ok b := rfl
@[simp] theorem callD_cons {C f e es ds h} : callD C f (e :: es) ds h = C.call f ds h := rfl
@[simp] theorem callD_nil {C f ds h} : callD C f [] ds h = noex (C.call f ds h) := rfl
@[simp] theorem noex_ok {p} : noex (.ok p) = .ok p := rfl
@[simp] theorem negD_int {i} : negD (.int i) = .ok (.int (-i)) := rfl
@[simp] theorem andR_t {k h} : andR k (.bl true, h) = k h := rfl
@[simp] theorem andR_f {k h} : andR k (.bl false, h) = .ok (.v (.bl false), h) := rfl
@[simp] theorem orR_t {k h} : orR k (.bl true, h) = .ok (.v (.bl true), h) := rfl
@[simp] theorem orR_f {k h} : orR k (.bl false, h) = k h := rfl
@[simp] theorem numR_int {i h} : numR (.ok (.int i, h)) = .ok (.int i, h) := rfl
@[simp] theorem prtR_non {r} : prtR (.c .non) r = r := rfl
@[simp] theorem prtR_int {i r} : prtR (.c (.int i)) r = numR r := rfl
@[simp] theorem prtR_v {i r} : prtR (.v i) r = numR r := rfl
@[simp] theorem prtR_bin {o a b r} : prtR (.bin o a b) r = numR r := rfl
@[simp] theorem prtR_ix {a b r} : prtR (.ix a b) r = numR r := rfl
@[simp] theorem prtR_b1 {a b r} : prtR (.b1 a b) r = numR r := rfl
@[simp] theorem prtR_neg {a r} : prtR (.neg a) r = numR r := rfl
@[simp] theorem prtR_call {a b r} : prtR (.call a b) r = numR r := rfl
@[simp] theorem len_l {id xs h} : b1D .len (.l id xs) h = .ok (.int (xs.length : Nat), h) := rfl
@[simp] theorem len_t {xs h} : b1D .len (.t xs) h = .ok (.int (xs.length : Nat), h) := rfl
@[simp] theorem tuple_l {id xs h} : b1D .tuple (.l id xs) h = .ok (.tup xs, h) := rfl
@[simp] theorem tuple_t {xs h} : b1D .tuple (.t xs) h = .ok (.tup xs, h) := rfl
@[simp] theorem sum_l {id xs h} : b1D .sum (.l id xs) h = R.of ((intL xs).map fun ns => (.int ns.sum, h)) := rfl
@[simp] theorem all_l {id xs h} : b1D .all (.l id xs) h = R.of ((blL xs).map fun bs => (.bl (bs.all _root_.id), h)) := rfl
@[simp] theorem any_l {id xs h} : b1D .any (.l id xs) h = R.of ((blL xs).map fun bs => (.bl (bs.any _root_.id), h)) := rfl
@[simp] theorem rcv_join {s h} : rcv .join (.str s) h = .ok () := rfl
@[simp] theorem rcv_index {s h} : rcv .index (.str s) h = .ok () := rfl
theorem rcv_append {k xs} {h : Hd} (e : h[k]? = some (.lst xs)) : rcv .append (.ob k) h = .ok () := by simp [rcv, lstOf, e]
theorem append_ob {k xs d} {h : Hd} (e : h[k]? = some (.lst xs)) (l : xs.length < sizeL) : m1D .append (.ob k) d h = .ok (.non, h.set k (.lst (xs ++ [d]))) := by simp [m1D, e, l]
theorem rvD_ob {k xs} {h : Hd} (e : h[k]? = some (.lst xs)) : rvD (.ob k) h = .ok (.l xs.reverse, h) := by simp [rvD, lstOf, e]
theorem setIx_ob {σ k xs d} {i : Nat} {h : Hd} (e : h[k]? = some (.lst xs)) (l : i < xs.length) : setIxF σ (.ob k) (.int (i : Int)) d h = .nx σ (h.set k (.lst (xs.set i d))) := by
  have : L2.ixN xs.length (i : Int) = some i := by unfold L2.ixN; simp; omega
  simp [setIxF, setIxC, dctOf, setIxD, e, this]
theorem pyEq_int (h : Hd) (a b : Int) : pyEq h (.int a) (.int b) = some (decide (a = b)) := by
  unfold pyEq
  simp only [toP]
  congr 1
@[simp] theorem cmp_eqI {h : Hd} {a b : Int} : cmpD .eq (.int a) (.int b) h = .ok (decide (a = b)) := by simp [cmpD, pyEq_int]
@[simp] theorem cmp_neI {h : Hd} {a b : Int} : cmpD .ne (.int a) (.int b) h = .ok (!decide (a = b)) := by simp [cmpD, pyEq_int]
@[simp] theorem cmp_ltI {h : Hd} {a b : Int} : cmpD .lt (.int a) (.int b) h = .ok (decide (a < b)) := rfl
@[simp] theorem cmp_leI {h : Hd} {a b : Int} : cmpD .le (.int a) (.int b) h = .ok (decide (a ≤ b)) := rfl
@[simp] theorem cmp_gtI {h : Hd} {a b : Int} : cmpD .gt (.int a) (.int b) h = .ok (decide (b < a)) := rfl
@[simp] theorem cmp_geI {h : Hd} {a b : Int} : cmpD .ge (.int a) (.int b) h = .ok (decide (b ≤ a)) := rfl
@[simp] theorem obeq_some {α β : Type} {a : α} {f : α → Option β} : Option.bind (some a) f = f a := rfl
@[simp] theorem isi_int_non {C : Cl} {b : Bool} {i : Int} {s : List Nat} {xs : List D} {h : Hd} : isiD C [.int] .non h = .ok (.bl false) := rfl
@[simp] theorem isi_int_bl {C : Cl} {b : Bool} {i : Int} {s : List Nat} {xs : List D} {h : Hd} : isiD C [.int] (.bl b) h = .ok (.bl true) := rfl
@[simp] theorem isi_int_int {C : Cl} {b : Bool} {i : Int} {s : List Nat} {xs : List D} {h : Hd} : isiD C [.int] (.int i) h = .ok (.bl true) := rfl
@[simp] theorem isi_int_str {C : Cl} {b : Bool} {i : Int} {s : List Nat} {xs : List D} {h : Hd} : isiD C [.int] (.str s) h = .ok (.bl false) := rfl
@[simp] theorem isi_int_tup {C : Cl} {b : Bool} {i : Int} {s : List Nat} {xs : List D} {h : Hd} : isiD C [.int] (.tup xs) h = .ok (.bl false) := rfl
theorem isi_int_ob {C : Cl} {k : Nat} {xs : List D} {h : Hd} (e : h[k]? = some (.lst xs)) : isiD C [.int] (.ob k) h = .ok (.bl false) := by simp [isiD, isTy, kindD, e, kdTy, R.of]
@[simp] theorem isi_bool_non {C : Cl} {b : Bool} {i : Int} {s : List Nat} {xs : List D} {h : Hd} : isiD C [.bool] .non h = .ok (.bl false) := rfl
@[simp] theorem isi_bool_bl {C : Cl} {b : Bool} {i : Int} {s : List Nat} {xs : List D} {h : Hd} : isiD C [.bool] (.bl b) h = .ok (.bl true) := rfl
@[simp] theorem isi_bool_int {C : Cl} {b : Bool} {i : Int} {s : List Nat} {xs : List D} {h : Hd} : isiD C [.bool] (.int i) h = .ok (.bl false) := rfl
@[simp] theorem isi_bool_str {C : Cl} {b : Bool} {i : Int} {s : List Nat} {xs : List D} {h : Hd} : isiD C [.bool] (.str s) h = .ok (.bl false) := rfl
@[simp] theorem isi_bool_tup {C : Cl} {b : Bool} {i : Int} {s : List Nat} {xs : List D} {h : Hd} : isiD C [.bool] (.tup xs) h = .ok (.bl false) := rfl
theorem isi_bool_ob {C : Cl} {k : Nat} {xs : List D} {h : Hd} (e : h[k]? = some (.lst xs)) : isiD C [.bool] (.ob k) h = .ok (.bl false) := by simp [isiD, isTy, kindD, e, kdTy, R.of]
@[simp] theorem isi_str_non {C : Cl} {b : Bool} {i : Int} {s : List Nat} {xs : List D} {h : Hd} : isiD C [.str] .non h = .ok (.bl false) := rfl
@[simp] theorem isi_str_bl {C : Cl} {b : Bool} {i : Int} {s : List Nat} {xs : List D} {h : Hd} : isiD C [.str] (.bl b) h = .ok (.bl false) := rfl
@[simp] theorem isi_str_int {C : Cl} {b : Bool} {i : Int} {s : List Nat} {xs : List D} {h : Hd} : isiD C [.str] (.int i) h = .ok (.bl false) := rfl
@[simp] theorem isi_str_str {C : Cl} {b : Bool} {i : Int} {s : List Nat} {xs : List D} {h : Hd} : isiD C [.str] (.str s) h = .ok (.bl true) := rfl
@[simp] theorem isi_str_tup {C : Cl} {b : Bool} {i : Int} {s : List Nat} {xs : List D} {h : Hd} : isiD C [.str] (.tup xs) h = .ok (.bl false) := rfl
theorem isi_str_ob {C : Cl} {k : Nat} {xs : List D} {h : Hd} (e : h[k]? = some (.lst xs)) : isiD C [.str] (.ob k) h = .ok (.bl false) := by simp [isiD, isTy, kindD, e, kdTy, R.of]
@[simp] theorem isi_tuple_non {C : Cl} {b : Bool} {i : Int} {s : List Nat} {xs : List D} {h : Hd} : isiD C [.tuple] .non h = .ok (.bl false) := rfl
@[simp] theorem isi_tuple_bl {C : Cl} {b : Bool} {i : Int} {s : List Nat} {xs : List D} {h : Hd} : isiD C [.tuple] (.bl b) h = .ok (.bl false) := rfl
@[simp] theorem isi_tuple_int {C : Cl} {b : Bool} {i : Int} {s : List Nat} {xs : List D} {h : Hd} : isiD C [.tuple] (.int i) h = .ok (.bl false) := rfl
@[simp] theorem isi_tuple_str {C : Cl} {b : Bool} {i : Int} {s : List Nat} {xs : List D} {h : Hd} : isiD C [.tuple] (.str s) h = .ok (.bl false) := rfl
@[simp] theorem isi_tuple_tup {C : Cl} {b : Bool} {i : Int} {s : List Nat} {xs : List D} {h : Hd} : isiD C [.tuple] (.tup xs) h = .ok (.bl true) := rfl
theorem isi_tuple_ob {C : Cl} {k : Nat} {xs : List D} {h : Hd} (e : h[k]? = some (.lst xs)) : isiD C [.tuple] (.ob k) h = .ok (.bl false) := by simp [isiD, isTy, kindD, e, kdTy, R.of]
@[simp] theorem isi_list_non {C : Cl} {b : Bool} {i : Int} {s : List Nat} {xs : List D} {h : Hd} : isiD C [.list] .non h = .ok (.bl false) := rfl
@[simp] theorem isi_list_bl {C : Cl} {b : Bool} {i : Int} {s : List Nat} {xs : List D} {h : Hd} : isiD C [.list] (.bl b) h = .ok (.bl false) := rfl
@[simp] theorem isi_list_int {C : Cl} {b : Bool} {i : Int} {s : List Nat} {xs : List D} {h : Hd} : isiD C [.list] (.int i) h = .ok (.bl false) := rfl
@[simp] theorem isi_list_str {C : Cl} {b : Bool} {i : Int} {s : List Nat} {xs : List D} {h : Hd} : isiD C [.list] (.str s) h = .ok (.bl false) := rfl
@[simp] theorem isi_list_tup {C : Cl} {b : Bool} {i : Int} {s : List Nat} {xs : List D} {h : Hd} : isiD C [.list] (.tup xs) h = .ok (.bl false) := rfl
theorem isi_list_ob {C : Cl} {k : Nat} {xs : List D} {h : Hd} (e : h[k]? = some (.lst xs)) : isiD C [.list] (.ob k) h = .ok (.bl true) := by simp [isiD, isTy, kindD, e, kdTy, R.of]
@[simp] theorem isi_dict_non {C : Cl} {b : Bool} {i : Int} {s : List Nat} {xs : List D} {h : Hd} : isiD C [.dict] .non h = .ok (.bl false) := rfl
@[simp] theorem isi_dict_bl {C : Cl} {b : Bool} {i : Int} {s : List Nat} {xs : List D} {h : Hd} : isiD C [.dict] (.bl b) h = .ok (.bl false) := rfl
@[simp] theorem isi_dict_int {C : Cl} {b : Bool} {i : Int} {s : List Nat} {xs : List D} {h : Hd} : isiD C [.dict] (.int i) h = .ok (.bl false) := rfl
@[simp] theorem isi_dict_str {C : Cl} {b : Bool} {i : Int} {s : List Nat} {xs : List D} {h : Hd} : isiD C [.dict] (.str s) h = .ok (.bl false) := rfl
@[simp] theorem isi_dict_tup {C : Cl} {b : Bool} {i : Int} {s : List Nat} {xs : List D} {h : Hd} : isiD C [.dict] (.tup xs) h = .ok (.bl false) := rfl
theorem isi_dict_ob {C : Cl} {k : Nat} {xs : List D} {h : Hd} (e : h[k]? = some (.lst xs)) : isiD C [.dict] (.ob k) h = .ok (.bl false) := by simp [isiD, isTy, kindD, e, kdTy, R.of]
@[simp] theorem start_eq {d : Df} {ds : List D} : start d ds = ds.map some ++ List.replicate (d.ns - d.np) none := rfl
@[simp] theorem bin_add {i j h} : binD .add (.int i) (.int j) h = .ok (.int (i + j), h) := rfl
@[simp] theorem bin_sub {i j h} : binD .sub (.int i) (.int j) h = .ok (.int (i - j), h) := rfl
theorem bin_mul {i j : Int} {h} (c : (small i || small j) = true) : binD .mul (.int i) (.int j) h = .ok (.int (i * j), h) := if_pos c
theorem bin_mod {i j : Int} {h} (c : 0 < j) : binD .mod (.int i) (.int j) h = .ok (.int (i % j), h) := if_pos c
theorem bin_fdiv {i j : Int} {h} (c : 0 < j) (c2 : j.natAbs < 2 ^ 9000) : binD .fdiv (.int i) (.int j) h = .ok (.int (i / j), h) := if_pos (by rw [Bool.and_eq_true]; exact ⟨decide_eq_true c, pr_of c2⟩)
theorem bin_pow {i j : Int} {h} (c : 0 ≤ j) (c2 : j ≤ 1000000) (c3 : i.natAbs < 2 ^ 64) : binD .pow (.int i) (.int j) h = .ok (.int (i ^ j.toNat), h) := if_pos (by rw [Bool.and_eq_true, Bool.and_eq_true]; exact ⟨decide_eq_true c, pr_of c2, pr_of c3⟩)
theorem bin_str {s t : List Nat} {h} (c : s.length + t.length ≤ sizeL) : binD .add (.str s) (.str t) h = .ok (.str (s ++ t), h) := if_pos c
theorem bin_tup {s t : List D} {h} (c : s.length + t.length ≤ sizeL) : binD .add (.tup s) (.tup t) h = .ok (.tup (s ++ t), h) := if_pos c
theorem bin_lst {a b : Nat} {s t : List D} {h : Hd} (e1 : h[a]? = some (.lst s)) (e2 : h[b]? = some (.lst t)) (c : s.length + t.length ≤ sizeL) : binD .add (.ob a) (.ob b) h = .ok (.ob h.length, h ++ [.lst (s ++ t)]) := by
  show (match lstOf h (.ob a), lstOf h (.ob b) with
    | some xs, some ys => if xs.length + ys.length ≤ sizeL then new (.lst (xs ++ ys)) h else .no
    | _, _ => .no) = _
  rw [show lstOf h (.ob a) = some s by simp only [lstOf, e1], show lstOf h (.ob b) = some t by simp only [lstOf, e2]]
  exact if_pos c
theorem b2_divmod {i j : Int} {h} (c : 0 < j) (c2 : j < 1073741824) : b2D .divmod (.int i) (.int j) h = .ok (.tup [.int (i / j), .int (i % j)], h) := if_pos (by rw [Bool.and_eq_true]; exact ⟨decide_eq_true c, pr_of c2⟩)
@[simp] theorem b1V_int {i h} : b1V .int_ (.int i) h = .ok (.int i, h) := rfl
@[simp] theorem b1V_bl {b h} : b1V .int_ (.bl b) h = .ok (.int (if b then 1 else 0), h) := rfl
theorem small_of {i : Int} (h1 : -1000000000000 ≤ i) (h2 : i ≤ 1000000000000) : small i = true := by
  unfold small
  rw [Bool.and_eq_true, pr_eq, pr_eq]
  exact ⟨Int.lt_of_lt_of_le (by decide) h1, Int.lt_of_le_of_lt h2 (by decide)⟩
theorem small62_of {i : Int} (h1 : -1000000000000 ≤ i) (h2 : i ≤ 1000000000000) : small62 i = true :=
  small62_iff.mpr ⟨Int.le_trans (by decide) h1, Int.lt_of_le_of_lt h2 (by decide)⟩
theorem rng_of {i j : Int} (h1 : -1000000000000 ≤ i) (h2 : i ≤ 1000000000000) (h3 : -1000000000000 ≤ j) (h4 : j ≤ 1000000000000) : rngD (.int i) (.int j) = .ok (rangeD i j) := if_pos (by rw [small62_of h1 h2, small62_of h3 h4]; rfl)
theorem rng0 {n : Nat} (h : n ≤ 1000000) : rngD (.int 0) (.int (n : Int)) = .ok ((List.range n).map fun (k : Nat) => .int (k : Int)) := by
  rw [rng_of (by decide) (by decide) (Int.le_trans (by decide) (Int.natCast_nonneg n)) (Int.le_trans (Int.ofNat_le.mpr h) (by decide))]
  simp [rangeD]
theorem le_sizeL {n : Nat} (h : n ≤ 1000000) : n ≤ sizeL := Nat.le_trans h (by decide)
theorem lt_sizeL {n : Nat} (h : n < 1000000) : n < sizeL := Nat.lt_of_lt_of_le h (by decide)
@[simp] theorem sz0 : 0 ≤ sizeL := le_sizeL (by decide)
@[simp] theorem sz1 : 1 ≤ sizeL := le_sizeL (by decide)
@[simp] theorem sz2 : 2 ≤ sizeL := le_sizeL (by decide)
@[simp] theorem sz3 : 3 ≤ sizeL := le_sizeL (by decide)
@[simp] theorem sz4 : 4 ≤ sizeL := le_sizeL (by decide)
@[simp] theorem sz5 : 5 ≤ sizeL := le_sizeL (by decide)
@[simp] theorem sz6 : 6 ≤ sizeL := le_sizeL (by decide)
section
variable {α : Type} {C : Cl}
theorem ev_comp {own : List Nat} {t : T} {it : I} {c elt : E} {σ : Sl} {h h1 h2 : Hd} {q : Sq} {xs ys : List D} (hi : evI C it σ h = .ok ((q, xs), h1)) (hc : compF (fun h => still h q) t own (fun σ h => ts (evR C c σ h)) (fun σ h => vl (evR C elt σ h)) σ xs h1 = .ok (ys, h2)) (hl : ys.length ≤ sizeL) :
    evR C (.comp own t it c elt) σ h = .ok (.l ys, openH h2 q) := by
  show (evI C it σ h >>= fun w => compF (fun h => still h w.1.1) t own (fun σ h => ts (evR C c σ h)) (fun σ h => vl (evR C elt σ h)) σ w.1.2 w.2 >>= fun p => if p.1.length ≤ sizeL then R.ok (Rv.l p.1, openH p.2 w.1.1) else R.no) = _
  rw [hi]
  show (compF (fun h => still h q) t own (fun σ h => ts (evR C c σ h)) (fun σ h => vl (evR C elt σ h)) σ xs h1 >>= fun p => if p.1.length ≤ sizeL then R.ok (Rv.l p.1, openH p.2 q) else R.no) = _
  rw [hc]
  exact if_pos hl
/-- [f(x) for x in ..], the heap as it is -/
theorem ev_map {i : Nat} {it : I} {elt : E} {σ : Sl} {h h1 : Hd} {q : Sq} {l : List α} {φ ψ : α → D} (hi : evI C it σ h = .ok ((q, l.map φ), h1)) (ho : still h1 q = true) (hn : i < σ.length) (hl : l.length ≤ sizeL)
    (f : ∀ a ∈ l, vl (evR C elt (σ.set i (some (φ a))) h1) = .ok (ψ a, h1)) (hq : ∀ h, openH h q = h := by intro; rfl) : evR C (.comp [i] (.nm i) it (.c (.bl true)) elt) σ h = .ok (.l (l.map ψ), h1) := by
  have q1 := hq h1
  have e0 : ∀ ys, compF (fun h => still h q) (.nm i) [i] (fun σ h => ts (evR C (.c (.bl true)) σ h)) (fun σ h => vl (evR C elt σ h)) σ (l.map φ) h1 = .ok (ys, h1) → ys.length ≤ sizeL → evR C (.comp [i] (.nm i) it (.c (.bl true)) elt) σ h = .ok (.l ys, h1) := fun ys a b => by have := ev_comp hi a b; rwa [q1] at this
  refine e0 _ ?_ (by simpa using hl)
  clear e0
  clear hi hl
  induction l with
  | nil => rfl
  | cons a l ih =>
    have e := f a List.mem_cons_self
    have r := ih fun b hb => f b (List.mem_cons_of_mem _ hb)
    have e1 : asgT (.nm i) (φ a) (wipe σ [i]) = some (σ.set i (some (φ a))) := by simp [wipe, hn]
    have e2 : ts (evR C (.c (.bl true)) (σ.set i (some (φ a))) h1) = .ok (true, h1) := rfl
    rw [List.map_cons, List.map_cons, compF, e1]
    simp only [e2, e, ho, if_true, r]
/-- .. that changes the heap -/
theorem ev_thread {i : Nat} {it : I} {elt : E} {σ : Sl} {h h1 : Hd} {q : Sq} {l : List α} {φ : α → D} (I : List α → List D → Hd → Prop) (hi : evI C it σ h = .ok ((q, l.map φ), h1)) (hn : i < σ.length) (hl : l.length ≤ sizeL)
    (f : ∀ a l ds h, I (a :: l) ds h → ∃ d h2, vl (evR C elt (σ.set i (some (φ a))) h) = .ok (d, h2) ∧ still h2 q = true ∧ I l (ds ++ [d]) h2) (i0 : I l [] h1) (hq : ∀ h, openH h q = h := by intro; rfl) : ∃ ds h2, evR C (.comp [i] (.nm i) it (.c (.bl true)) elt) σ h = .ok (.l ds, h2) ∧ I [] ds h2 ∧ ds.length = l.length := by
  have key : ∀ (l : List α) (ds : List D) (h1 : Hd), I l ds h1 → ∃ es h2, compF (fun h => still h q) (.nm i) [i] (fun σ h => ts (evR C (.c (.bl true)) σ h)) (fun σ h => vl (evR C elt σ h)) σ (l.map φ) h1 = .ok (es, h2) ∧ I [] (ds ++ es) h2 ∧ es.length = l.length := by
    intro l
    induction l with
    | nil => exact fun ds h1 i => ⟨[], h1, rfl, by simpa using i, rfl⟩
    | cons a l ih =>
      intro ds h1 i1
      obtain ⟨d, h2, e, o2, i2⟩ := f a l ds h1 i1
      obtain ⟨es, h3, r, i3, l3⟩ := ih _ h2 i2
      have e1 : asgT (.nm i) (φ a) (wipe σ [i]) = some (σ.set i (some (φ a))) := by simp [wipe, hn]
      have e2 : ts (evR C (.c (.bl true)) (σ.set i (some (φ a))) h1) = .ok (true, h1) := rfl
      refine ⟨d :: es, h3, ?_, by simpa using i3, by simp [l3]⟩
      rw [List.map_cons, compF, e1]
      simp only [e2, e, o2, if_true, r]
  obtain ⟨es, h2, e, i2, l2⟩ := key l [] h1 i0
  exact ⟨es, h2, by have := ev_comp hi e (by rw [l2]; exact hl); rwa [hq] at this, by simpa using i2, l2⟩
theorem ev_for {t : T} {it : I} {b : List S} {σ : Sl} {h h1 : Hd} {q : Sq} {l : List α} {φ : α → D} (I : List α → Sl → Hd → Prop) (hi : evI C it σ h = .ok ((q, l.map φ), h1))
    (f : ∀ a l σ h, I (a :: l) σ h → ∃ σ1 σ2 h2, asgT t (φ a) σ = some σ1 ∧ (evSs C b σ1 h = .nx σ2 h2 ∨ evSs C b σ1 h = .ct σ2 h2) ∧ still h2 q = true ∧ I l σ2 h2) (i0 : I l σ h1) (hq : ∀ f, openF q f = f := by intro; rfl) : ∃ σ' h', evS C (.for_ t it b) σ h = .nx σ' h' ∧ I [] σ' h' := by
  have key : ∀ (l : List α) (σ : Sl) (h1 : Hd), I l σ h1 → ∃ σ' h', forF (fun h => still h q) t (fun σ h => evSs C b σ h) (l.map φ) σ h1 = .nx σ' h' ∧ I [] σ' h' := by
    intro l
    induction l with
    | nil => exact fun σ h1 i => ⟨σ, h1, rfl, i⟩
    | cons a l ih =>
      intro σ h1 i1
      obtain ⟨σ1, σ2, h2, e1, e2, o2, i2⟩ := f a l σ h1 i1
      obtain ⟨σ', h', e, i3⟩ := ih σ2 h2 i2
      refine ⟨σ', h', ?_, i3⟩
      rw [List.map_cons, forF, e1]
      rcases e2 with e2 | e2 <;> simp only [e2, o2, if_true, e]
  obtain ⟨σ', h', e, i⟩ := key l σ h1 i0
  refine ⟨σ', h', ?_, i⟩
  show thenF σ (evI C it σ h) (fun w => openF w.1.1 (forF (fun h => still h w.1.1) t (fun σ h => evSs C b σ h) w.1.2 σ w.2)) = _
  rw [hi]
  show openF q _ = _
  rw [hq]
  exact e
theorem ev_whl {c : E} {b : List S} {σ : Sl} {h : Hd} (I : Nat → Sl → Hd → Prop) (f : ∀ n σ h, I n σ h → (∃ h1, ts (evR C c σ h) = .ok (false, h1) ∧ I 0 σ h1) ∨ ∃ m h1 σ2 h2, n = m + 1 ∧ ts (evR C c σ h) = .ok (true, h1) ∧ (evSs C b σ h1 = .nx σ2 h2 ∨ evSs C b σ h1 = .ct σ2 h2) ∧ I m σ2 h2)
    {n : Nat} (i0 : I n σ h) (hn : n < C.fuel) : ∃ σ' h', evS C (.whl c b) σ h = .nx σ' h' ∧ I 0 σ' h' := by
  have key : ∀ (k n : Nat) (σ : Sl) (h : Hd), I n σ h → n < k → ∃ σ' h', whlF (fun σ h => ts (evR C c σ h)) (fun σ h => evSs C b σ h) k σ h = .nx σ' h' ∧ I 0 σ' h' := by
    intro k
    induction k with
    | zero => exact fun n σ h i hk => absurd hk (Nat.not_lt_zero _)
    | succ k ih =>
      intro n σ h i hk
      rcases f n σ h i with ⟨h1, e, i1⟩ | ⟨m, h1, σ2, h2, rfl, e1, e2, i2⟩
      · exact ⟨σ, h1, by simp only [whlF, e], i1⟩
      · obtain ⟨σ', h', e4, i4⟩ := ih m σ2 h2 i2 (by omega)
        refine ⟨σ', h', ?_, i4⟩
        rcases e2 with e2 | e2 <;> simp only [whlF, e1, e2, e4]
  exact key C.fuel n σ h i0 hn
end
theorem is_between_ok {P : Pg} {f : Nat} (hf : P.df f = some b_is_between) (n : Nat) (v lo hi : Int) (h : Hd) : callF P (n + 1) f [.int v, .int lo, .int hi] h = .ok (.bl (decide (lo ≤ v) && decide (v ≤ hi)), h) := by
  rw [callF_at hf rfl]
  simp [b_is_between]
  by_cases c : lo ≤ v <;> by_cases c2 : v ≤ hi <;> simp [c, c2]
end Mp
set_option maxHeartbeats 4000000
namespace Mp
/-- a machine -/
structure Mc where
  b : Nat
  rows : List (List Nat)
  lets : List Nat
def nI (xs : List Nat) : List D := xs.map fun (x : Nat) => .int (x : Int)
def rD' (rows : List (List Nat)) : List D := rows.map fun r => .tup (nI r)
def Mc.d (m : Mc) : D := .tup [.int (m.b : Int), .tup (rD' m.rows), .tup (nI m.lets)]
structure Mc.ok (m : Mc) : Prop where
  b2 : 2 ≤ m.b
  b3 : m.b ≤ 3
  r1 : 1 ≤ m.rows.length
  r4 : m.rows.length ≤ 4
  rl : ∀ r ∈ m.rows, r.length = m.b
  rt : ∀ r ∈ m.rows, ∀ t ∈ r, t < m.rows.length
  ll : m.lets.length = m.rows.length
  l3 : ∀ l ∈ m.lets, l < 3
  z : ∃ r rs, m.rows = (0 :: r) :: rs
/-- the step of a state by a digit -/
def gn (xs : List Nat) (i : Nat) : Nat := xs.getD i 0
def Mc.rw (m : Mc) (s : Nat) : List Nat := m.rows.getD s []
def Mc.st (m : Mc) (s d : Nat) : Nat := gn (m.rw s) d
theorem Mc.ok.row {m : Mc} (o : m.ok) {s : Nat} (hs : s < m.rows.length) : (m.rw s).length = m.b ∧ ∀ t ∈ m.rw s, t < m.rows.length := by
  have : m.rw s = m.rows[s] := by simp [Mc.rw, List.getD, hs]
  rw [this]
  exact ⟨o.rl _ (List.getElem_mem _), o.rt _ (List.getElem_mem _)⟩
theorem Mc.ok.st {m : Mc} (o : m.ok) {s d : Nat} (hs : s < m.rows.length) (hd : d < m.b) : m.st s d < m.rows.length := by
  obtain ⟨h1, h2⟩ := o.row hs
  unfold Mc.st
  have : d < (m.rw s).length := by omega
  rw [gn, List.getD_eq_getElem?_getD, List.getElem?_eq_getElem this]
  exact h2 _ (List.getElem_mem _)
/-- a table of steps, of any size -/
structure Mc.okw (m : Mc) : Prop where
  b3 : m.b ≤ 3
  r1 : 1 ≤ m.rows.length
  r4 : m.rows.length ≤ 1000
  rl : ∀ r ∈ m.rows, r.length = m.b
  rt : ∀ r ∈ m.rows, ∀ t ∈ r, t < m.rows.length
theorem Mc.ok.w {m : Mc} (o : m.ok) : m.okw := ⟨o.b3, o.r1, by have := o.r4; omega, o.rl, o.rt⟩
theorem Mc.okw.row {m : Mc} (o : m.okw) {s : Nat} (hs : s < m.rows.length) : (m.rw s).length = m.b ∧ ∀ t ∈ m.rw s, t < m.rows.length := by
  have : m.rw s = m.rows[s] := by simp [Mc.rw, List.getD, hs]
  rw [this]
  exact ⟨o.rl _ (List.getElem_mem _), o.rt _ (List.getElem_mem _)⟩
theorem Mc.okw.st {m : Mc} (o : m.okw) {s d : Nat} (hs : s < m.rows.length) (hd : d < m.b) : m.st s d < m.rows.length := by
  obtain ⟨h1, h2⟩ := o.row hs
  unfold Mc.st
  have : d < (m.rw s).length := by omega
  rw [gn, List.getD_eq_getElem?_getD, List.getElem?_eq_getElem this]
  exact h2 _ (List.getElem_mem _)
theorem ixN_nat {n k : Nat} (h : k < n) : L2.ixN n (k : Int) = some k := by
  unfold L2.ixN
  simp
  omega
theorem ixD_nat {xs : List D} {k : Nat} {d : D} (h : Hd) (e : xs[k]? = some d) : ixC (.tup xs) (.int (k : Int)) h = .ok d := by
  have hk : k < xs.length := by
    by_cases c : k < xs.length
    · exact c
    · rw [List.getElem?_eq_none (by omega)] at e; cases e
  simp [ixC, dctOf, ixD, sqOf, Sq.items, ixN_nat hk, e]
theorem ixD_ob {xs : List D} {k j : Nat} {d : D} {h : Hd} (hj : h[j]? = some (.lst xs)) (e : xs[k]? = some d) : ixC (.ob j) (.int (k : Int)) h = .ok d := by
  have hk : k < xs.length := by
    by_cases c : k < xs.length
    · exact c
    · rw [List.getElem?_eq_none (by omega)] at e; cases e
  simp [ixC, dctOf, ixD, sqOf, hj, Sq.items, ixN_nat hk, e]
theorem Mc.ix1 (m : Mc) (h : Hd) : ixC m.d (.int 1) h = .ok (.tup (rD' m.rows)) := ixD_nat (k := 1) h rfl
theorem Mc.ix0 (m : Mc) (h : Hd) : ixC m.d (.int 0) h = .ok (.int (m.b : Int)) := ixD_nat (k := 0) h rfl
theorem Mc.ix2 (m : Mc) (h : Hd) : ixC m.d (.int 2) h = .ok (.tup (nI m.lets)) := ixD_nat (k := 2) h rfl
theorem row_ix {m : Mc} {s : Nat} (hs : s < m.rows.length) (h : Hd) : ixC (.tup (rD' m.rows)) (.int (s : Int)) h = .ok (.tup (nI (m.rw s))) := ixD_nat h (by simp [rD', Mc.rw, List.getD, hs])
theorem nI_ix {xs : List Nat} {d : Nat} (hd : d < xs.length) (h : Hd) : ixC (.tup (nI xs)) (.int (d : Int)) h = .ok (.int ((gn xs d : Nat) : Int)) := ixD_nat h (by simp [nI, gn, List.getD, hd])
/-! ### walk -/
def b_walk : Df := ⟨3, 4, [
  (.for_ (.nm 3) (.sq (.v 2)) [(.asg (.nm 1) (.ix (.ix (.ix (.v 0) (.c (.int (1)))) (.v 1)) (.v 3)))]),
  (.ret (.v 1))]⟩
def Mc.go (m : Mc) : Nat → List Nat → Nat
  | s, [] => s
  | s, d :: ds => m.go (m.st s d) ds
theorem Mc.ok.go {m : Mc} (o : m.ok) : ∀ {ds : List Nat} {s : Nat}, s < m.rows.length → (∀ d ∈ ds, d < m.b) → m.go s ds < m.rows.length
  | [], _, h, _ => h
  | d :: ds, s, h, hd => Mc.ok.go o (ds := ds) (o.st h (hd d List.mem_cons_self)) fun e he => hd e (List.mem_cons_of_mem _ he)
theorem walk_ok {P : Pg} {f : Nat} (hf : P.df f = some b_walk) (n : Nat) {m : Mc} (o : m.ok) {s k : Nat} {ds : List Nat} (hs : s < m.rows.length) (hd : ∀ d ∈ ds, d < m.b) (h : Hd) (hk : h[k]? = some (.lst (nI ds))) :
    callF P (n + 1) f [m.d, .int (s : Int), .ob k] h = .ok (.int ((m.go s ds : Nat) : Int), h) := by
  rw [callF_at hf rfl]
  obtain ⟨σ', h', e, rfl, s', x, rfl, eg⟩ := ev_for (C := P.cl n) (t := .nm 3) (it := .sq (.v 2)) (b := [(.asg (.nm 1) (.ix (.ix (.ix (.v 0) (.c (.int (1)))) (.v 1)) (.v 3)))]) (σ := [some m.d, some (.int (s : Int)), some (.ob k), none]) (h := h) (h1 := h) (q := .l (some k) (nI ds)) (l := ds) (φ := fun (x : Nat) => .int (x : Int))
    (fun ds' σ h' => h' = h ∧ ∃ s' x, σ = [some m.d, some (.int ((s' : Nat) : Int)), some (.ob k), x] ∧ s' < m.rows.length ∧ (∀ d ∈ ds', d < m.b) ∧ m.go s' ds' = m.go s ds) (by simp [qs_ob hk, nI])
    (fun d ds' σ h' ⟨eh, s', y, es, hs', hd', eg⟩ => by
      subst eh
      subst es
      have hd0 := hd' d List.mem_cons_self
      refine ⟨[some m.d, some (.int (s' : Int)), some (.ob k), some (.int (d : Int))], [some m.d, some (.int ((m.st s' d : Nat) : Int)), some (.ob k), some (.int (d : Int))], h', by simp, .inl ?_, by simp [still, hk], rfl, m.st s' d, _, rfl, o.st hs' hd0, fun e he => hd' e (List.mem_cons_of_mem _ he), eg⟩
      simp [Mc.ix1, row_ix hs', nI_ix (by rw [(o.row hs').1]; exact hd0), Mc.st])
    ⟨rfl, s, none, rfl, hs, hd, rfl⟩
  simp [b_walk, e]
  exact congrArg _ eg.2.2
end Mp
set_option maxHeartbeats 4000000
namespace Mp
/-- the older heap is the beginning -/
def Pre (h0 h : Hd) : Prop := ∃ g, h = h0 ++ g
theorem Pre.refl {h : Hd} : Pre h h := ⟨[], by simp⟩
theorem Pre.len {h0 h : Hd} (p : Pre h0 h) : h0.length ≤ h.length := by obtain ⟨g, rfl⟩ := p; simp
theorem Pre.app {h0 h : Hd} (p : Pre h0 h) (g : Hd) : Pre h0 (h ++ g) := by obtain ⟨g0, rfl⟩ := p; exact ⟨g0 ++ g, by simp⟩
theorem Pre.set {h0 h : Hd} (p : Pre h0 h) {j : Nat} (hj : h0.length ≤ j) (o : Ob) : Pre h0 (h.set j o) := by
  obtain ⟨g, rfl⟩ := p
  exact ⟨g.set (j - h0.length) o, by rw [List.set_append_right _ _ hj]⟩
theorem Pre.get {h0 h : Hd} (p : Pre h0 h) {i : Nat} {o : Ob} (e : h0[i]? = some o) : h[i]? = some o := by
  obtain ⟨g, rfl⟩ := p
  have : i < h0.length := by
    by_cases c : i < h0.length
    · exact c
    · rw [List.getElem?_eq_none (by omega)] at e; cases e
  rw [List.getElem?_append_left this]; exact e
theorem Pre.trans {a b c : Hd} (p : Pre a b) (q : Pre b c) : Pre a c := by obtain ⟨g, rfl⟩ := p; obtain ⟨g2, rfl⟩ := q; exact ⟨g ++ g2, by simp⟩
theorem Pre.gc {h0 h : Hd} (p : Pre h0 h) {d : D} (hd : D.lo h0.length d = true) : Mp.gc h0 d h = (d, h0) := by obtain ⟨g, rfl⟩ := p; exact gc_app hd
theorem get_lt {h : Hd} {i : Nat} {o : Ob} (e : h[i]? = some o) : i < h.length := by
  by_cases c : i < h.length
  · exact c
  · rw [List.getElem?_eq_none (by omega)] at e; cases e
theorem intL_map {α : Type} (f : α → Int) : ∀ xs : List α, intL (xs.map fun x => .int (f x)) = some (xs.map f)
  | [] => rfl
  | x :: xs => by simp [intL, intL_map f xs]
theorem blL_map {α : Type} (f : α → Bool) : ∀ xs : List α, blL (xs.map fun x => .bl (f x)) = some (xs.map f)
  | [] => rfl
  | x :: xs => by simp [blL, blL_map f xs]
/-- the sum of a block of level e -/
def Mc.T (m : Mc) (wt : Nat → Int) : Nat → Nat → Int
  | 0, s => wt s
  | e + 1, s => ((m.rw s).map (m.T wt e)).sum
def iL (n : Nat) (f : Nat → Int) : List D := (List.range n).map fun s => .int (f s)
theorem iL_get {n : Nat} {f : Nat → Int} {s : Nat} (h : s < n) : (iL n f)[s]? = some (.int (f s)) := by simp [iL, h]
/-- the table of the levels up to E -/
structure Tb (m : Mc) (wt : Nat → Int) (h0 h : Hd) (j E : Nat) : Prop where
  pre : Pre h0 h
  lo : h0.length ≤ j
  ids : ∃ ids : List Nat, h[j]? = some (.lst (ids.map .ob)) ∧ ids.length = E + 1 ∧ (∀ i ∈ ids, h0.length ≤ i ∧ i ≠ j) ∧ ∀ e, e ≤ E → ∃ i, ids[e]? = some i ∧ h[i]? = some (.lst (iL m.rows.length (m.T wt e)))
theorem Tb.ix {m : Mc} {wt : Nat → Int} {h0 h : Hd} {j E : Nat} (t : Tb m wt h0 h j E) {e : Nat} (he : e ≤ E) : ∃ i, h0.length ≤ i ∧ i ≠ j ∧ ixC (.ob j) (.int (e : Int)) h = .ok (.ob i) ∧ h[i]? = some (.lst (iL m.rows.length (m.T wt e))) := by
  obtain ⟨ids, h1, h2, h3, h4⟩ := t.ids
  obtain ⟨i, e1, e2⟩ := h4 e he
  have hm := h3 i (List.mem_of_getElem? e1)
  exact ⟨i, hm.1, hm.2, ixD_ob h1 (by rw [List.getElem?_map, e1]; rfl), e2⟩
theorem Tb.last {m : Mc} {wt : Nat → Int} {h0 h : Hd} {j E : Nat} (t : Tb m wt h0 h j E) : ∃ i, h0.length ≤ i ∧ i ≠ j ∧ ixC (.ob j) (.int (-1)) h = .ok (.ob i) ∧ h[i]? = some (.lst (iL m.rows.length (m.T wt E))) := by
  obtain ⟨ids, h1, h2, h3, h4⟩ := t.ids
  obtain ⟨i, e1, e2⟩ := h4 E (Nat.le_refl _)
  have hm := h3 i (List.mem_of_getElem? e1)
  refine ⟨i, hm.1, hm.2, ?_, e2⟩
  have : L2.ixN (ids.length) (-1) = some E := by unfold L2.ixN; rw [h2]; simp; omega
  simp [ixC, dctOf, ixD, sqOf, h1, Sq.items, this, e1]
theorem Tb.grow {m : Mc} {wt : Nat → Int} {h0 h : Hd} {j E : Nat} (t : Tb m wt h0 h j E) (hE : E + 1 < sizeL) : ∃ h', m1D .append (.ob j) (.ob h.length) (h ++ [.lst (iL m.rows.length (m.T wt (E + 1)))]) = .ok (.non, h') ∧ Tb m wt h0 h' j (E + 1) := by
  obtain ⟨ids, h1, h2, h3, h4⟩ := t.ids
  have hj := get_lt h1
  have e1 : (h ++ [Ob.lst (iL m.rows.length (m.T wt (E + 1)))])[j]? = some (.lst (ids.map .ob)) := by rw [List.getElem?_append_left hj]; exact h1
  refine ⟨(h ++ [Ob.lst (iL m.rows.length (m.T wt (E + 1)))]).set j (Ob.lst (ids.map D.ob ++ [D.ob h.length])), ?_, ⟨(t.pre.app _).set t.lo _, t.lo, ids ++ [h.length], ?_, by simp [h2], ?_, ?_⟩⟩
  · simp [m1D, e1, h2, hE]
  · rw [List.getElem?_set_self (by simp; omega)]; simp
  · intro i hi
    rcases List.mem_append.mp hi with hi | hi
    · exact h3 i hi
    · have : i = h.length := by simpa using hi
      subst this
      exact ⟨t.pre.len, by omega⟩
  · intro e he
    by_cases c : e ≤ E
    · obtain ⟨i, e1, e2⟩ := h4 e c
      have hm := h3 i (List.mem_of_getElem? e1)
      refine ⟨i, by rw [List.getElem?_append_left (by omega)]; exact e1, ?_⟩
      rw [List.getElem?_set_ne (Ne.symm hm.2), List.getElem?_append_left (get_lt e2)]
      exact e2
    · have : e = E + 1 := by omega
      subst this
      refine ⟨h.length, by rw [← h2]; simp, ?_⟩
      rw [List.getElem?_set_ne (by omega)]
      simp
def b_block_sums : Df := ⟨3, 8, [
  (.asg (.nm 3) (.lst [(.b1 .list (.v 1))])),
  (.for_ (.nm 4) (.rng (.c (.int (0))) (.v 2)) [(.asg (.nm 5) (.ix (.v 3) (.neg (.c (.int (1)))))), (.ex (.m1 .append (.v 3) (.comp [6] (.nm 6) (.sq (.v 0)) (.c (.bl true)) (.b1 .sum (.comp [7] (.nm 7) (.sq (.v 6)) (.c (.bl true)) (.ix (.v 5) (.v 7)))))))]),
  (.ret (.v 3))]⟩
theorem wipe_nil {σ : Sl} : wipe σ [] = σ := rfl
theorem rows_len {m : Mc} : (rD' m.rows).length = m.rows.length := by simp [rD']
theorem rw_get {m : Mc} {s : Nat} (hs : s < m.rows.length) : m.rows[s] = m.rw s := by simp [Mc.rw, List.getD, hs]
theorem rD_eq (m : Mc) : rD' m.rows = (List.range m.rows.length).map fun s => .tup (nI (m.rw s)) := by
  apply List.ext_getElem
  · simp [rD']
  · intro i h1 h2
    have : i < m.rows.length := by simpa [rD'] using h1
    simp [rD', rw_get this]
/-- the rows as a tuple or a list -/
structure Rw (h : Hd) (x : D) (q : Sq) (m : Mc) : Prop where
  qs : qs (.ok (.v x, h)) = .ok (q, h)
  it : q.items = rD' m.rows
  st : still h q = true
  lk : ∀ h, lockH h q = h
  op : ∀ h, openH h q = h
  of : ∀ f, openF q f = f
  ix : ∀ {s : Nat}, s < m.rows.length → ixC x (.int (s : Int)) h = .ok (.tup (nI (m.rw s)))
theorem Rw.tup (m : Mc) (h : Hd) : Rw h (.tup (rD' m.rows)) (.t (rD' m.rows)) m := ⟨rfl, rfl, rfl, fun _ => rfl, fun _ => rfl, fun _ => rfl, fun hs => row_ix hs h⟩
theorem Rw.lst {m : Mc} {h : Hd} {k : Nat} (e : h[k]? = some (.lst (rD' m.rows))) : Rw h (.ob k) (.l (some k) (rD' m.rows)) m := ⟨qs_ob e, rfl, by simp [still, e], fun _ => rfl, fun _ => rfl, fun _ => rfl, fun hs => ixD_ob e (by simp [rD', Mc.rw, List.getD, hs])⟩
/-- the rows, wherever the heap keeps them -/
def RwA (h0 : Hd) (x : D) (q : Sq) (m : Mc) : Prop := ∀ h, Pre h0 h → Rw h x q m
theorem RwA.tup (m : Mc) (h : Hd) : RwA h (.tup (rD' m.rows)) (.t (rD' m.rows)) m := fun h _ => Rw.tup m h
theorem RwA.lst {m : Mc} {h : Hd} {k : Nat} (e : h[k]? = some (.lst (rD' m.rows))) : RwA h (.ob k) (.l (some k) (rD' m.rows)) m := fun h p => Rw.lst (p.get e)
theorem block_sums_w {P : Pg} {f : Nat} (hf : P.df f = some b_block_sums) (n : Nat) {m : Mc} (o : m.okw) {x : D} {q : Sq} {wt : Nat → Int} {k E : Nat} (hE : E ≤ 1000) (h : Hd) (hx : RwA h x q m) (hk : h[k]? = some (.lst (iL m.rows.length wt))) :
    ∃ j h', callF P (n + 1) f [x, .ob k, .int (E : Int)] h = .ok (.ob j, h') ∧ Tb m wt h h' j E := by
  rw [callF_at hf rfl]
  have hkl := get_lt hk
  have t0 : Tb m wt h (h ++ [.lst (iL m.rows.length wt), .lst [.ob h.length]]) (h.length + 1) 0 := by
    refine ⟨⟨_, rfl⟩, by omega, [h.length], by simp, rfl, by simp, fun e he => ⟨h.length, ?_, ?_⟩⟩
    · have : e = 0 := by omega
      subst this; rfl
    · have : e = 0 := by omega
      subst this
      simp [Mc.T]
  obtain ⟨σ', h', e, y, z, rfl, _, t⟩ := ev_for (C := P.cl n) (t := .nm 4) (it := .rng (.c (.int (0))) (.v 2)) (b := [(.asg (.nm 5) (.ix (.v 3) (.neg (.c (.int (1)))))), (.ex (.m1 .append (.v 3) (.comp [6] (.nm 6) (.sq (.v 0)) (.c (.bl true)) (.b1 .sum (.comp [7] (.nm 7) (.sq (.v 6)) (.c (.bl true)) (.ix (.v 5) (.v 7)))))))])
    (σ := [some x, some (.ob k), some (.int (E : Int)), some (.ob (h.length + 1)), none, none, none, none]) (h := h ++ [.lst (iL m.rows.length wt), .lst [.ob h.length]]) (h1 := h ++ [.lst (iL m.rows.length wt), .lst [.ob h.length]]) (q := .t []) (l := List.range E) (φ := fun (x : Nat) => .int (x : Int))
    (fun l σ h' => ∃ y z, σ = [some x, some (.ob k), some (.int (E : Int)), some (.ob (h.length + 1)), y, z, none, none] ∧ l.length ≤ E ∧ Tb m wt h h' (h.length + 1) (E - l.length)) (by simp [rng0 (n := E) (Nat.le_trans hE (by decide))])
    (fun a l σ h' ⟨y, z, es, hl, t⟩ => by
      subst es
      simp only [List.length_cons] at hl t
      have hE' : E - l.length = (E - (l.length + 1)) + 1 := by omega
      obtain ⟨i, i1, i2, i3, i4⟩ := t.last
      obtain ⟨h2, a1, a2⟩ := t.grow (lt_sizeL (by omega))
      refine ⟨_, [some x, some (.ob k), some (.int (E : Int)), some (.ob (h.length + 1)), some (.int (a : Int)), some (.ob i), none, none], h2, rfl, .inl ?_, rfl, _, _, rfl, by omega, by rw [hE']; exact a2⟩
      have outer := ev_map (C := P.cl n) (i := 6) (it := .sq (.v 0)) (elt := (.b1 .sum (.comp [7] (.nm 7) (.sq (.v 6)) (.c (.bl true)) (.ix (.v 5) (.v 7))))) (σ := [some x, some (.ob k), some (.int (E : Int)), some (.ob (h.length + 1)), some (.int (a : Int)), some (.ob i), none, none])
        (h := h') (h1 := h') (q := q) (l := List.range m.rows.length) (φ := fun s => .tup (nI (m.rw s))) (ψ := fun s => .int (m.T wt (E - (l.length + 1) + 1) s)) (by simp [(hx h' t.pre).qs, (hx h' t.pre).it, (hx h' t.pre).lk, ← rD_eq]) (hx h' t.pre).st (by simp) (le_sizeL (by have := o.r4; simp; omega)) (hq := (hx h' t.pre).op) (f := fun s hs => by
          have hs := List.mem_range.mp hs
          have inner := ev_map (C := P.cl n) (i := 7) (it := .sq (.v 6)) (elt := (.ix (.v 5) (.v 7))) (σ := [some x, some (.ob k), some (.int (E : Int)), some (.ob (h.length + 1)), some (.int (a : Int)), some (.ob i), some (.tup (nI (m.rw s))), none])
            (h := h') (h1 := h') (q := .t (nI (m.rw s))) (l := m.rw s) (φ := fun (x : Nat) => .int (x : Int)) (ψ := fun t => .int (m.T wt (E - (l.length + 1)) t)) (by simp [nI]) rfl (by simp) (le_sizeL (by have := (o.row hs).1; have := o.b3; omega)) (fun t ht => by
              have htl := (o.row hs).2 t ht
              simp [ixD_ob i4 (iL_get htl)])
          simp [inner, intL_map, Mc.T])
      simp [i3, outer]
      have : (List.range m.rows.length).map (fun s => D.int (m.T wt (E - (l.length + 1) + 1) s)) = iL m.rows.length (m.T wt (E - (l.length + 1) + 1)) := rfl
      rw [this]
      obtain ⟨ids, q1, _⟩ := t.ids
      simp [rcv_append q1, a1])
    ⟨none, none, rfl, by simp, by simpa using t0⟩
  simp only [List.length_nil, Nat.sub_zero] at t
  obtain ⟨ids, q1, q2, q3, q4⟩ := t.ids
  refine ⟨h.length + 1, h', ?_, t⟩
  have gg : gc h (.ob (h.length + 1)) h' = (.ob (h.length + 1), h') := by
    obtain ⟨g, rfl⟩ := t.pre
    cases ids with
    | nil => simp at q2
    | cons i ids =>
      have := (q3 i List.mem_cons_self).1
      have lo : D.los h.length ((i :: ids).map D.ob) = false := by simp; intro c; omega
      unfold gc
      rw [oldOk_app]
      dsimp only
      rw [q1]
      dsimp only
      rw [lo]
      simp [Nat.not_lt.mpr (Nat.le_succ h.length)]
  simp [b_block_sums, qs_ob hk, e, gg]
theorem block_sums_ok {P : Pg} {f : Nat} (hf : P.df f = some b_block_sums) (n : Nat) {m : Mc} (o : m.ok) {wt : Nat → Int} {k E : Nat} (hE : E ≤ 1000) (h : Hd) (hk : h[k]? = some (.lst (iL m.rows.length wt))) :
    ∃ j h', callF P (n + 1) f [.tup (rD' m.rows), .ob k, .int (E : Int)] h = .ok (.ob j, h') ∧ Tb m wt h h' j E := block_sums_w hf n o.w hE h (RwA.tup m h) hk
end Mp
set_option maxHeartbeats 4000000
namespace Mp
def b_is_machine (x_is_between : Nat) : Df := ⟨1, 7, [
  (.ite (.or_ (.nt (.isi (.v 0) [.tuple])) (.or_ (.cmp .ne (.b1 .len (.v 0)) (.c (.int (3)))) (.nt (.call x_is_between [(.ix (.v 0) (.c (.int (0)))), (.c (.int (2))), (.c (.int (3)))])))) [(.ret (.c (.bl false)))] []),
  (.asg (.tp [(.nm 2), (.nm 3), (.nm 4)]) (.v 0)),
  (.ite (.or_ (.nt (.isi (.v 3) [.tuple])) (.nt (.chn .le .le (.c (.int (1))) (.b1 .len (.v 3)) (.gc "" (.int (4)))))) [(.ret (.c (.bl false)))] []),
  (.for_ (.nm 1) (.sq (.v 3)) [(.ite (.or_ (.nt (.isi (.v 1) [.tuple])) (.cmp .ne (.b1 .len (.v 1)) (.v 2))) [(.ret (.c (.bl false)))] []), (.ite (.nt (.b1 .all (.comp [6] (.nm 6) (.sq (.v 1)) (.c (.bl true)) (.call x_is_between [(.v 6), (.c (.int (0))), (.bin .sub (.b1 .len (.v 3)) (.c (.int (1))))])))) [(.ret (.c (.bl false)))] [])]),
  (.ite (.or_ (.nt (.isi (.v 4) [.tuple])) (.cmp .ne (.b1 .len (.v 4)) (.b1 .len (.v 3)))) [(.ret (.c (.bl false)))] []),
  (.ret (.and_ (.cmp .eq (.ix (.ix (.v 3) (.c (.int (0)))) (.c (.int (0)))) (.c (.int (0)))) (.b1 .all (.comp [5] (.nm 5) (.sq (.v 4)) (.c (.bl true)) (.call x_is_between [(.v 5), (.c (.int (0))), (.c (.int (2)))])))))]⟩
theorem nI_len {xs : List Nat} : (nI xs).length = xs.length := by simp [nI]
theorem is_machine_ok {P : Pg} {f f0 : Nat} (hf : P.df f = some (b_is_machine f0)) (hf0 : P.df f0 = some b_is_between) (n : Nat) {m : Mc} (o : m.ok) (h : Hd) : callF P (n + 2) f [m.d] h = .ok (.bl true, h) := by
  rw [callF_at hf rfl]
  have B := is_between_ok hf0 n
  obtain ⟨σ', h', e, rfl, x, rfl, _⟩ := ev_for (C := P.cl (n + 1)) (t := .nm 1) (it := .sq (.v 3)) (b := [(.ite (.or_ (.nt (.isi (.v 1) [.tuple])) (.cmp .ne (.b1 .len (.v 1)) (.v 2))) [(.ret (.c (.bl false)))] []), (.ite (.nt (.b1 .all (.comp [6] (.nm 6) (.sq (.v 1)) (.c (.bl true)) (.call f0 [(.v 6), (.c (.int (0))), (.bin .sub (.b1 .len (.v 3)) (.c (.int (1))))])))) [(.ret (.c (.bl false)))] [])])
    (σ := [some m.d, none, some (.int (m.b : Int)), some (.tup (rD' m.rows)), some (.tup (nI m.lets)), none, none]) (h := h) (h1 := h) (q := .t (rD' m.rows)) (l := m.rows) (φ := fun r => .tup (nI r))
    (fun l σ h' => h' = h ∧ ∃ x, σ = [some m.d, x, some (.int (m.b : Int)), some (.tup (rD' m.rows)), some (.tup (nI m.lets)), none, none] ∧ ∀ r ∈ l, r ∈ m.rows) (by simp [rD'])
    (fun r l σ h' ⟨eh, x, es, hl⟩ => by
      subst eh; subst es
      have hr := hl r List.mem_cons_self
      refine ⟨_, [some m.d, some (.tup (nI r)), some (.int (m.b : Int)), some (.tup (rD' m.rows)), some (.tup (nI m.lets)), none, none], h', rfl, .inl ?_, rfl, rfl, _, rfl, fun q hq => hl q (List.mem_cons_of_mem _ hq)⟩
      have inner := ev_map (C := P.cl (n + 1)) (i := 6) (it := .sq (.v 1)) (elt := (.call f0 [(.v 6), (.c (.int (0))), (.bin .sub (.b1 .len (.v 3)) (.c (.int (1))))])) (σ := [some m.d, some (.tup (nI r)), some (.int (m.b : Int)), some (.tup (rD' m.rows)), some (.tup (nI m.lets)), none, none])
        (h := h') (h1 := h') (q := .t (nI r)) (l := r) (φ := fun (x : Nat) => .int (x : Int)) (ψ := fun _ => .bl true) (by simp [nI]) rfl (by simp) (le_sizeL (by have := o.rl r hr; have := o.b3; omega)) (fun t ht => by
          have h1 := o.rt r hr t ht
          have h2 := o.r1
          simp [B, rows_len]
          omega)
      have hbl : blL (r.map fun _ => D.bl true) = some (r.map fun _ => true) := blL_map (fun _ => true) r
      simp [cmp_neI, nI_len, o.rl r hr, inner, hbl])
    ⟨rfl, none, rfl, fun r hr => hr⟩
  have lets := ev_map (C := P.cl (n + 1)) (i := 5) (it := .sq (.v 4)) (elt := (.call f0 [(.v 5), (.c (.int (0))), (.c (.int (2)))])) (σ := [some m.d, x, some (.int (m.b : Int)), some (.tup (rD' m.rows)), some (.tup (nI m.lets)), none, none])
        (h := h') (h1 := h') (q := .t (nI m.lets)) (l := m.lets) (φ := fun (x : Nat) => .int (x : Int)) (ψ := fun _ => .bl true) (by simp [nI]) rfl (by simp) (le_sizeL (by have := o.ll; have := o.r4; omega)) (fun t ht => by
          have h1 := o.l3 t ht
          simp [B]
          omega)
  have hbl : blL (m.lets.map fun _ => D.bl true) = some (m.lets.map fun _ => true) := blL_map (fun _ => true) _
  obtain ⟨r, rs, hz⟩ := o.z
  have z0 : m.rw 0 = 0 :: r := by simp [Mc.rw, hz]
  have e0 : ixC (.tup (rD' m.rows)) (.int 0) h' = .ok (.tup (nI (0 :: r))) := by
    have := row_ix (m := m) (s := 0) (by have := o.r1; omega) h'
    rw [z0] at this
    exact this
  have e1 : ixC (.tup (nI (0 :: r))) (.int 0) h' = .ok (.int 0) := nI_ix (xs := 0 :: r) (d := 0) (by simp) h'
  have hb2 := o.b2
  have hb3 := o.b3
  have hr1 := o.r1
  have hr4 := o.r4
  have k1 : (2 : Int) ≤ (m.b : Int) := by omega
  have k2 : (m.b : Int) ≤ 3 := by omega
  have k3 : (1 : Int) ≤ (m.rows.length : Int) := by omega
  have k4 : (m.rows.length : Int) ≤ 4 := by omega
  have q : ∀ {h}, qs (.ok (.v m.d, h)) = .ok (.t [.int (m.b : Int), .tup (rD' m.rows), .tup (nI m.lets)], h) := rfl
  have it : isiD (P.cl (n + 1)) [.tuple] m.d h' = .ok (.bl true) := rfl
  have at3 : ∀ a b c e f g, asgT (.tp [(.nm 2), (.nm 3), (.nm 4)]) m.d [a, b, c, e, f, g, none] = some [a, b, some (.int (m.b : Int)), some (.tup (rD' m.rows)), some (.tup (nI m.lets)), g, none] := fun _ _ _ _ _ _ => rfl
  simp [b_is_machine, it, q, Mc.ix0, B, k1, k2, at3, rows_len, k3, k4, e, nI_len, o.ll, e0, e1, lets, hbl]
end Mp
set_option maxHeartbeats 4000000
namespace Mp
def b_check_machine (x_is_machine e_InvalidMachine : Nat) : Df := ⟨1, 1, [
  (.ite (.nt (.call x_is_machine [(.v 0)])) [(.raise e_InvalidMachine)] [])]⟩
theorem check_machine_ok {P : Pg} {f f0 f1 c : Nat} (hf : P.df f = some (b_check_machine f1 c)) (hf1 : P.df f1 = some (b_is_machine f0)) (hf0 : P.df f0 = some b_is_between) (n : Nat) {m : Mc} (o : m.ok) (h : Hd) : callF P (n + 3) f [m.d] h = .ok (.non, h) := by
  rw [callF_at hf rfl]
  simp [b_check_machine, is_machine_ok hf1 hf0 n o h]
def b_check_number (x_is_between e_InvalidNumber : Nat) : Df := ⟨1, 1, [
  (.ite (.nt (.call x_is_between [(.v 0), (.c (.int (0))), (.gc "" (.int (1000000000000000000)))])) [(.raise e_InvalidNumber)] [])]⟩
theorem check_number_ok {P : Pg} {f f0 c : Nat} (hf : P.df f = some (b_check_number f0 c)) (hf0 : P.df f0 = some b_is_between) (n : Nat) {v : Int} (h1 : 0 ≤ v) (h2 : v ≤ 1000000000000000000) (h : Hd) : callF P (n + 2) f [.int v] h = .ok (.non, h) := by
  rw [callF_at hf rfl]
  simp [b_check_number, is_between_ok hf0 n, h1, h2]
/-! ### digits -/
/-- the digits of a number, the most significant one first -/
def digs (b : Nat) : Nat → Nat → List Nat
  | 0, _ => []
  | k + 1, n => if n = 0 then [] else digs b k (n / b) ++ [n % b]
theorem digs_zero {b k : Nat} : digs b k 0 = [] := by cases k <;> simp [digs]
theorem digs_more {b : Nat} (hb : 2 ≤ b) : ∀ {k j n : Nat}, n < 2 ^ k → n < 2 ^ j → digs b k n = digs b j n
  | 0, j, n, h, _ => by
    have : n = 0 := by simpa using h
    subst this; rw [digs_zero, digs_zero]
  | k + 1, 0, n, _, h => by
    have : n = 0 := by simpa using h
    subst this; rw [digs_zero, digs_zero]
  | k + 1, j + 1, n, h1, h2 => by
    by_cases c : n = 0
    · simp [digs, c]
    · simp only [digs, if_neg c]
      rw [digs_more hb (k := k) (j := j)]
      · exact Nat.div_lt_of_lt_mul (Nat.lt_of_lt_of_le h1 (by rw [Nat.pow_succ]; exact Nat.mul_comm b _ ▸ Nat.mul_le_mul_left _ hb))
      · exact Nat.div_lt_of_lt_mul (Nat.lt_of_lt_of_le h2 (by rw [Nat.pow_succ]; exact Nat.mul_comm b _ ▸ Nat.mul_le_mul_left _ hb))
def dgz (b n : Nat) : List Nat := digs b 70 n
theorem dgz_step {b n : Nat} (hb : 2 ≤ b) (h : n < 2 ^ 70) (hn : n ≠ 0) : dgz b n = dgz b (n / b) ++ [n % b] := by
  have h2 : n / b < 2 ^ 69 := Nat.div_lt_of_lt_mul (Nat.lt_of_lt_of_le h (by rw [show (2:Nat) ^ 70 = 2 ^ 69 * 2 from rfl]; exact Nat.mul_comm b _ ▸ Nat.mul_le_mul_left _ hb))
  have h3 : n / b < 2 ^ 70 := Nat.lt_of_lt_of_le h2 (Nat.pow_le_pow_right (by decide) (by decide))
  unfold dgz
  rw [show digs b 70 n = digs b 69 (n / b) ++ [n % b] by simp [digs, hn], digs_more hb h2 h3]
theorem dgz_lt {b n : Nat} (hb : 2 ≤ b) : ∀ d ∈ dgz b n, d < b := by
  have key : ∀ k n, ∀ d ∈ digs b k n, d < b := by
    intro k
    induction k with
    | zero => intro n d h; cases h
    | succ k ih =>
      intro n d h
      unfold digs at h
      split at h
      · cases h
      · rcases List.mem_append.mp h with h | h
        · exact ih _ d h
        · rw [List.mem_singleton] at h
          subst h
          exact Nat.mod_lt _ (by omega)
  exact key 70 n
theorem dgz_len {b n : Nat} : (dgz b n).length ≤ 70 := by
  have key : ∀ k n, (digs b k n).length ≤ k := by
    intro k
    induction k with
    | zero => intro n; simp [digs]
    | succ k ih =>
      intro n
      unfold digs
      split
      · simp
      · have := ih (n / b)
        simp; omega
  exact key 70 n
def b_digits_of : Df := ⟨2, 4, [
  (.asg (.nm 2) (.lst [])),
  (.whl (.cmp .gt (.v 1) (.c (.int (0)))) [(.asg (.tp [(.nm 1), (.nm 3)]) (.b2 .divmod (.v 1) (.v 0))), (.ex (.m1 .append (.v 2) (.v 3)))]),
  (.ret (.rv (.v 2)))]⟩
theorem nI_app {xs ys : List Nat} : nI (xs ++ ys) = nI xs ++ nI ys := by simp [nI]
theorem los_nI {k : Nat} : ∀ xs : List Nat, D.los k (nI xs) = true
  | [] => rfl
  | x :: xs => by
    have := los_nI (k := k) xs
    simp [nI] at this ⊢
    exact this
theorem los_ints {α : Type} {k : Nat} {f : α → Int} : ∀ xs : List α, D.los k (xs.map fun x => .int (f x)) = true
  | [] => rfl
  | x :: xs => by simp [los_ints xs]
theorem digits_of_ok {P : Pg} {f : Nat} (hf : P.df f = some b_digits_of) (hfu : 100 ≤ P.fuel) (n : Nat) {b N : Nat} (hb : 2 ≤ b) (hb3 : b ≤ 3) (hN : N < 2 ^ 70) (h : Hd) : callF P (n + 1) f [.int (b : Int), .int (N : Int)] h = .ok (.ob h.length, h ++ [.lst (nI (dgz b N))]) := by
  rw [callF_at hf rfl]
  obtain ⟨σ', h', e, x, N', fd, rfl, rfl, hl, hd, hv⟩ := ev_whl (C := P.cl n) (c := .cmp .gt (.v 1) (.c (.int (0)))) (b := [(.asg (.tp [(.nm 1), (.nm 3)]) (.b2 .divmod (.v 1) (.v 0))), (.ex (.m1 .append (.v 2) (.v 3)))])
    (σ := [some (.int (b : Int)), some (.int (N : Int)), some (.ob h.length), none]) (h := h ++ [.lst []])
    (fun k σ h' => ∃ x, ∃ (N' : Nat) (fd : List Nat), σ = [some (.int (b : Int)), some (.int (N' : Int)), some (.ob h.length), x] ∧ h' = h ++ [.lst (nI fd)] ∧ N' < 2 ^ k ∧ (fd.length + k = 70 ∨ (N' = 0 ∧ fd.length ≤ 70)) ∧ dgz b N = dgz b N' ++ fd.reverse)
    (fun k σ h' ⟨x, N', fd, es, eh, hl, hd, hv⟩ => by
      subst es; subst eh
      by_cases c : N' = 0
      · subst c
        exact .inl ⟨_, by simp, x, 0, fd, rfl, rfl, by simp, .inr ⟨rfl, by rcases hd with hd | hd <;> omega⟩, hv⟩
      · refine .inr ?_
        cases k with
        | zero => exact absurd (by simpa using hl) c
        | succ k =>
          have hpos : 0 < N' := Nat.pos_of_ne_zero c
          have hfl : fd.length + (k + 1) = 70 := by rcases hd with hd | hd <;> omega
          have e1 : (h ++ [Ob.lst (nI fd)])[h.length]? = some (.lst (nI fd)) := by simp
          refine ⟨k, _, [some (.int (b : Int)), some (.int ((N' / b : Nat) : Int)), some (.ob h.length), some (.int ((N' % b : Nat) : Int))], h ++ [.lst (nI (fd ++ [N' % b]))], rfl, by simp [hpos]; rfl, .inl ?_, _, N' / b, fd ++ [N' % b], rfl, rfl, ?_, .inl (by simp; omega), ?_⟩
          · have d1 := b2_divmod (i := (N' : Int)) (j := (b : Int)) (h := h ++ [Ob.lst (nI fd)]) (by omega) (by omega)
            rw [← Int.natCast_ediv, ← Int.natCast_emod] at d1
            simp only [evSs_cons, evS_asg, evR_b2, evR_v, getV_s, getV_z, R.ok_bind, vl_v, d1, rv_ok]
            simp [rcv_append e1, append_ob e1 (lt_sizeL (by rw [nI_len]; omega)), nI_app]
            rfl
          · exact Nat.div_lt_of_lt_mul (Nat.lt_of_lt_of_le hl (by rw [Nat.pow_succ]; exact Nat.mul_comm b _ ▸ Nat.mul_le_mul_left _ hb))
          · have hlt : N' < 2 ^ 70 := Nat.lt_of_lt_of_le hl (Nat.pow_le_pow_right (by decide) (by omega))
            rw [hv, dgz_step hb hlt c]
            simp)
    (n := 70) ⟨none, N, [], rfl, rfl, hN, .inl rfl, by simp⟩ (by show 70 < P.fuel; omega)
  have hN0 : N' = 0 := by simpa using hl
  subst hN0
  have e0 : dgz b 0 = [] := digs_zero
  rw [e0, List.nil_append] at hv
  have e1 : (h ++ [Ob.lst (nI fd)])[h.length]? = some (.lst (nI fd)) := by simp
  have er : (nI fd).reverse = nI (dgz b N) := by rw [hv]; simp [nI]
  have g := gc_lst (h := h) (g := [.lst (nI fd), .lst (nI (dgz b N))]) (k := h.length + 1) (xs := nI (dgz b N)) (by omega) (by simp) (los_nI _)
  simp [b_digits_of, e, rvD_ob e1, er, g]
end Mp
set_option maxHeartbeats 4000000
namespace Mp
/-! ### weights -/
def wtD (w : Nat → Int) : D := .tup (iL 3 w)
def Mc.wt (m : Mc) (w : Nat → Int) (s : Nat) : Int := w (gn m.lets s)
theorem wt_ix {w : Nat → Int} {l : Nat} (hl : l < 3) (h : Hd) : ixC (wtD w) (.int (l : Int)) h = .ok (.int (w l)) := ixD_nat h (iL_get hl)
def b_state_weights : Df := ⟨2, 3, [
  (.ret (.comp [2] (.nm 2) (.sq (.ix (.v 0) (.c (.int (2))))) (.c (.bl true)) (.ix (.v 1) (.v 2))))]⟩
theorem lets_eq {m : Mc} (o : m.ok) : m.lets = (List.range m.rows.length).map fun s => gn m.lets s := by
  apply List.ext_getElem
  · simp [o.ll]
  · intro i h1 h2
    simp [gn, h1]
theorem state_weights_ok {P : Pg} {f : Nat} (hf : P.df f = some b_state_weights) (n : Nat) {m : Mc} (o : m.ok) (w : Nat → Int) (h : Hd) : callF P (n + 1) f [m.d, wtD w] h = .ok (.ob h.length, h ++ [.lst (iL m.rows.length (m.wt w))]) := by
  rw [callF_at hf rfl]
  have e := ev_map (C := P.cl n) (i := 2) (it := .sq (.ix (.v 0) (.c (.int (2))))) (elt := (.ix (.v 1) (.v 2))) (σ := [some m.d, some (wtD w), none]) (h := h) (h1 := h) (q := .t (nI m.lets)) (l := List.range m.rows.length) (φ := fun s => .int ((gn m.lets s : Nat) : Int)) (ψ := fun s => .int (m.wt w s))
    (by have := lets_eq o
        have e : nI m.lets = (List.range m.rows.length).map (fun s => D.int ((gn m.lets s : Nat) : Int)) := by
          conv => lhs; rw [this]
          simp [nI]
        simp [Mc.ix2, ← e]) rfl (by simp) (le_sizeL (by have := o.r4; simp; omega)) (fun s hs => by
      have hs := List.mem_range.mp hs
      have hl : gn m.lets s < 3 := by
        have : s < m.lets.length := by rw [o.ll]; exact hs
        simp only [gn, List.getD_eq_getElem?_getD, List.getElem?_eq_getElem this]
        exact o.l3 _ (List.getElem_mem _)
      simp [wt_ix hl, Mc.wt])
  have g := gc_lst (h := h) (g := [.lst (iL m.rows.length (m.wt w))]) (k := h.length) (xs := iL m.rows.length (m.wt w)) (Nat.le_refl _) (by simp) (los_ints _)
  have e2 : (List.range m.rows.length).map (fun s => D.int (m.wt w s)) = iL m.rows.length (m.wt w) := rfl
  rw [e2] at e
  simp [b_state_weights, e, g]
/-! ### prefix sums -/
def Mc.ps (m : Mc) (wt : Nat → Int) : Nat → List Nat → Int
  | _, [] => 0
  | s, d :: ds => (((m.rw s).take d).map (m.T wt ds.length)).sum + m.ps wt (m.st s d) ds
theorem enum_nI : ∀ (ds : List Nat) (i : Nat), enumD i (nI ds) = (List.range' i ds.length).map fun j => .tup [.int (j : Int), .int ((gn ds (j - i) : Nat) : Int)]
  | [], i => rfl
  | d :: ds, i => by
    show D.tup [.int (i : Int), .int (d : Int)] :: enumD (i + 1) (nI ds) = _
    rw [enum_nI ds (i + 1), List.length_cons, List.range'_succ, List.map_cons]
    congr 1
    · simp [gn]
    · refine List.map_congr_left fun j hj => ?_
      obtain ⟨hj1, _⟩ := List.mem_range'_1.mp hj
      have : j - i = (j - (i + 1)) + 1 := by omega
      rw [this]
      simp [gn]
theorem sl_take {xs : List D} {d : Nat} (h : Hd) : slD (.tup xs) .non (.int (d : Int)) h = .ok (.tup (xs.take d), h) := by
  have e : sIx xs.length xs.length (.int (d : Int)) = some (min d xs.length) := by
    simp only [sIx]
    rw [if_neg (by omega)]
    simp
  have e0 : sIx xs.length 0 .non = some 0 := rfl
  have : slD (.tup xs) .non (.int (d : Int)) h = .ok (.tup (cut xs 0 (min d xs.length)), h) := by
    unfold slD
    simp only [e, e0]
  rw [this]
  have : cut xs 0 (min d xs.length) = xs.take d := by
    simp only [cut, List.drop_zero, Nat.sub_zero]
    rcases Nat.le_total d xs.length with h1 | h1
    · rw [Nat.min_eq_left h1]
    · rw [Nat.min_eq_right h1, List.take_of_length_le h1, List.take_of_length_le (Nat.le_refl _)]
  rw [this]
theorem gn_lt {xs : List Nat} {i : Nat} (h : i < xs.length) : gn xs i = xs[i] := by simp [gn, h]
def b_prefix_sum (x_block_sums : Nat) : Df := ⟨3, 10, [
  (.asg (.nm 3) (.call x_block_sums [(.v 0), (.v 1), (.b1 .len (.v 2))])),
  (.par [4, 5] [(.c (.int (0))), (.c (.int (0)))]),
  (.for_ (.tp [(.nm 6), (.nm 7)]) (.en (.v 2)) [(.asg (.nm 8) (.ix (.v 3) (.bin .sub (.bin .sub (.b1 .len (.v 2)) (.v 6)) (.c (.int (1)))))), (.asg (.nm 5) (.bin .add (.v 5) (.b1 .sum (.comp [9] (.nm 9) (.sq (.sl (.ix (.v 0) (.v 4)) (.c .non) (.v 7))) (.c (.bl true)) (.ix (.v 8) (.v 9)))))), (.asg (.nm 4) (.ix (.ix (.v 0) (.v 4)) (.v 7)))]),
  (.ret (.v 5))]⟩
theorem prefix_sum_w {P : Pg} {f f1 : Nat} (hf : P.df f = some (b_prefix_sum f1)) (hf1 : P.df f1 = some b_block_sums) (n : Nat) {m : Mc} (o : m.okw) {xr : D} {qr : Sq} {wt : Nat → Int} {k kd : Nat} {ds : List Nat} (hl : ds.length ≤ 1000) (hd : ∀ d ∈ ds, d < m.b) (h : Hd) (hx : RwA h xr qr m) (hk : h[k]? = some (.lst (iL m.rows.length wt))) (hkd : h[kd]? = some (.lst (nI ds))) :
    callF P (n + 2) f [xr, .ob k, .ob kd] h = .ok (.int (m.ps wt 0 ds), h) := by
  rw [callF_at hf rfl]
  obtain ⟨j, h', e1, t⟩ := block_sums_w hf1 n o hl h hx hk
  have hkd' := t.pre.get hkd
  obtain ⟨σ', h'', e, rfl, s, tot, x, y, z, rfl, _, hv⟩ := ev_for (C := P.cl (n + 1)) (t := .tp [(.nm 6), (.nm 7)]) (it := .en (.v 2)) (b := [(.asg (.nm 8) (.ix (.v 3) (.bin .sub (.bin .sub (.b1 .len (.v 2)) (.v 6)) (.c (.int (1)))))), (.asg (.nm 5) (.bin .add (.v 5) (.b1 .sum (.comp [9] (.nm 9) (.sq (.sl (.ix (.v 0) (.v 4)) (.c .non) (.v 7))) (.c (.bl true)) (.ix (.v 8) (.v 9)))))), (.asg (.nm 4) (.ix (.ix (.v 0) (.v 4)) (.v 7)))])
    (σ := [some xr, some (.ob k), some (.ob kd), some (.ob j), some (.int 0), some (.int 0), none, none, none, none]) (h := h') (h1 := h') (q := .l (some kd) (nI ds)) (l := List.range' 0 ds.length) (φ := fun i => .tup [.int (i : Int), .int ((gn ds (i - 0) : Nat) : Int)])
    (fun l σ hh => hh = h' ∧ ∃ (s : Nat) (tot : Int) (x y z : Option D), σ = [some xr, some (.ob k), some (.ob kd), some (.ob j), some (.int (s : Int)), some (.int tot), x, y, z, none] ∧ (s < m.rows.length ∧ ∃ i, i + l.length = ds.length ∧ l = List.range' i l.length ∧ m.ps wt 0 ds = tot + m.ps wt s (ds.drop i)) ∧ (l = [] → m.ps wt 0 ds = tot))
    (by simp [qs_ob hkd', enum_nI])
    (fun a l σ hh ⟨eh, s, tot, x, y, z, es, ⟨hs, i, hi, hr, hv⟩, _⟩ => by
      subst eh; subst es
      rw [List.length_cons] at hi hr
      rw [List.range'_succ, List.cons.injEq] at hr
      obtain ⟨ha, hr⟩ := hr
      subst ha
      have hia : a < ds.length := by omega
      have hga : gn ds a < m.b := by rw [gn_lt hia]; exact hd _ (List.getElem_mem _)
      have edrop : ds.drop a = gn ds a :: ds.drop (a + 1) := by rw [gn_lt hia]; exact List.drop_eq_getElem_cons hia
      obtain ⟨i', i1, i2, i3, i4⟩ := t.ix (e := ds.length - a - 1) (by omega)
      have ecast : ((ds.length : Int) - (a : Int) - 1) = ((ds.length - a - 1 : Nat) : Int) := by omega
      have inner := ev_map (C := P.cl (n + 1)) (i := 9) (it := (.sq (.sl (.ix (.v 0) (.v 4)) (.c .non) (.v 7)))) (elt := (.ix (.v 8) (.v 9))) (σ := [some xr, some (.ob k), some (.ob kd), some (.ob j), some (.int (s : Int)), some (.int tot), some (.int (a : Int)), some (.int ((gn ds a : Nat) : Int)), some (.ob i'), none])
        (h := hh) (h1 := hh) (q := .t (nI ((m.rw s).take (gn ds a)))) (l := (m.rw s).take (gn ds a)) (φ := fun (x : Nat) => .int (x : Int)) (ψ := fun tt => .int (m.T wt (ds.length - a - 1) tt)) (by simp [(hx _ t.pre).ix hs, sl_take, nI, List.map_take]) rfl (by simp) (le_sizeL (by have := (o.row hs).1; have := o.b3; simp; omega)) (fun tt ht => by
          have htl := (o.row hs).2 tt (List.mem_of_mem_take ht)
          simp [ixD_ob i4 (iL_get htl)])
      refine ⟨_, [some xr, some (.ob k), some (.ob kd), some (.ob j), some (.int ((m.st s (gn ds a) : Nat) : Int)), some (.int (tot + (((m.rw s).take (gn ds a)).map (m.T wt (ds.length - a - 1))).sum)), some (.int (a : Int)), some (.int ((gn ds a : Nat) : Int)), some (.ob i'), none], hh, rfl, .inl ?_, by simp [still, hkd'], rfl, _, _, _, _, _, rfl, ⟨o.st hs hga, a + 1, by omega, hr, ?_⟩, ?_⟩
      · simp [-List.map_take, qs_ob hkd', nI_len, ecast, i3, inner, intL_map, (hx _ t.pre).ix hs, nI_ix (by rw [(o.row hs).1]; exact hga), Mc.st]
      · rw [hv, edrop]
        have : (ds.drop (a + 1)).length = ds.length - a - 1 := by simp; omega
        simp only [Mc.ps, this]
        omega
      · intro hnil
        have h0 : ds.drop (a + 1) = [] := by
          have : l.length = 0 := by rw [hnil]; rfl
          exact List.drop_eq_nil_of_le (by omega)
        have : ds.length - a - 1 = 0 := by
          have := List.drop_eq_nil_iff.mp h0
          omega
        rw [hv, edrop]
        simp only [Mc.ps, h0, List.length_nil, this]
        omega)
    ⟨rfl, 0, 0, none, none, none, rfl, ⟨by have := o.r1; omega, 0, by simp, by simp, by simp⟩, fun h0 => by
      have : ds = [] := by
        cases ds with
        | nil => rfl
        | cons a b => simp [List.range'_succ] at h0
      subst this; rfl⟩
  have hv := hv rfl
  have gg : gc h (.int tot) h'' = (.int tot, h) := t.pre.gc rfl
  simp [b_prefix_sum, qs_ob hkd, nI_len, e1, e, gg, hv]
theorem prefix_sum_ok {P : Pg} {f f1 : Nat} (hf : P.df f = some (b_prefix_sum f1)) (hf1 : P.df f1 = some b_block_sums) (n : Nat) {m : Mc} (o : m.ok) {wt : Nat → Int} {k kd : Nat} {ds : List Nat} (hl : ds.length ≤ 1000) (hd : ∀ d ∈ ds, d < m.b) (h : Hd) (hk : h[k]? = some (.lst (iL m.rows.length wt))) (hkd : h[kd]? = some (.lst (nI ds))) :
    callF P (n + 2) f [.tup (rD' m.rows), .ob k, .ob kd] h = .ok (.int (m.ps wt 0 ds), h) := prefix_sum_w hf hf1 n o.w hl hd h (RwA.tup m h) hk hkd
end Mp
set_option maxHeartbeats 4000000
namespace Mp
def b_weighted (x_prefix_sum x_state_weights x_digits_of : Nat) : Df := ⟨3, 3, [
  (.ret (.call x_prefix_sum [(.ix (.v 0) (.c (.int (1)))), (.call x_state_weights [(.v 0), (.v 1)]), (.call x_digits_of [(.ix (.v 0) (.c (.int (0)))), (.v 2)])]))]⟩
theorem weighted_ok {P : Pg} {f fp fb fs fd : Nat} (hf : P.df f = some (b_weighted fp fs fd)) (hp : P.df fp = some (b_prefix_sum fb)) (hb : P.df fb = some b_block_sums) (hs : P.df fs = some b_state_weights) (hd : P.df fd = some b_digits_of) (hfu : 100 ≤ P.fuel) (n : Nat) {m : Mc} (o : m.ok) (w : Nat → Int) {N : Nat} (hN : N < 2 ^ 70) (h : Hd) :
    callF P (n + 3) f [m.d, wtD w, .int (N : Int)] h = .ok (.int (m.ps (m.wt w) 0 (dgz m.b N)), h) := by
  rw [callF_at hf rfl]
  have e1 := state_weights_ok hs (n + 1) o w h
  have e2 := digits_of_ok hd hfu (n + 1) o.b2 o.b3 hN (h ++ [.lst (iL m.rows.length (m.wt w))])
  have e3 := prefix_sum_ok hp hb n o (wt := m.wt w) (k := h.length) (kd := h.length + 1) (ds := dgz m.b N) (Nat.le_trans dgz_len (by decide)) (dgz_lt o.b2) (h ++ [.lst (iL m.rows.length (m.wt w)), .lst (nI (dgz m.b N))]) (by simp) (by simp)
  simp at e2
  simp [b_weighted, Mc.ix1, Mc.ix0, e1, e2, e3]
def b_check_weights (x_is_between e_InvalidWeights : Nat) : Df := ⟨1, 2, [
  (.ite (.or_ (.nt (.isi (.v 0) [.tuple])) (.or_ (.cmp .ne (.b1 .len (.v 0)) (.c (.int (3)))) (.nt (.b1 .all (.comp [1] (.nm 1) (.sq (.v 0)) (.c (.bl true)) (.call x_is_between [(.v 1), (.neg (.c (.int (9)))), (.c (.int (9)))])))))) [(.raise e_InvalidWeights)] [])]⟩
theorem iL_len {n : Nat} {f : Nat → Int} : (iL n f).length = n := by simp [iL]
theorem blL_const {α : Type} (l : List α) (b : Bool) : blL (l.map fun _ => D.bl b) = some (l.map fun _ => b) := blL_map (fun _ => b) l
theorem all_const {α : Type} (l : List α) : (l.map fun _ => true).all _root_.id = true := by simp
theorem check_weights_ok {P : Pg} {f f0 c : Nat} (hf : P.df f = some (b_check_weights f0 c)) (hf0 : P.df f0 = some b_is_between) (n : Nat) {w : Nat → Int} (hw : ∀ l, l < 3 → -9 ≤ w l ∧ w l ≤ 9) (h : Hd) : callF P (n + 2) f [wtD w] h = .ok (.non, h) := by
  rw [callF_at hf rfl]
  have e := ev_map (C := P.cl (n + 1)) (i := 1) (it := .sq (.v 0)) (elt := (.call f0 [(.v 1), (.neg (.c (.int (9)))), (.c (.int (9)))])) (σ := [some (wtD w), none]) (h := h) (h1 := h) (q := .t (iL 3 w)) (l := List.range 3) (φ := fun l => .int (w l)) (ψ := fun _ => .bl true)
    (by simp [wtD, iL]) rfl (by simp) (le_sizeL (by decide)) (fun l hl => by
      have := hw l (List.mem_range.mp hl)
      simp [is_between_ok hf0 n, this.1, this.2])
  rw [wtD] at e ⊢
  simp [b_check_weights, iL_len, e, blL_const]
def b_surplus (x_check_machine x_check_weights x_check_number x_weighted : Nat) : Df := ⟨3, 3, [
  (.ex (.call x_check_machine [(.v 0)])),
  (.ex (.call x_check_weights [(.v 1)])),
  (.ex (.call x_check_number [(.v 2)])),
  (.ret (.call x_weighted [(.v 0), (.v 1), (.v 2)]))]⟩
theorem surplus_ok {P : Pg} {f isb ism chm chn dig bls prs sws wei chw eM eN eW : Nat} (hf : P.df f = some (b_surplus chm chw chn wei)) (h1 : P.df isb = some b_is_between) (h2 : P.df ism = some (b_is_machine isb)) (h3 : P.df chm = some (b_check_machine ism eM)) (h4 : P.df chn = some (b_check_number isb eN)) (h5 : P.df dig = some b_digits_of)
    (h6 : P.df bls = some b_block_sums) (h7 : P.df prs = some (b_prefix_sum bls)) (h8 : P.df sws = some b_state_weights) (h9 : P.df wei = some (b_weighted prs sws dig)) (h10 : P.df chw = some (b_check_weights isb eW)) (hfu : 100 ≤ P.fuel) (n : Nat) {m : Mc} (o : m.ok) {w : Nat → Int} (hw : ∀ l, l < 3 → -9 ≤ w l ∧ w l ≤ 9) {N : Nat} (hN : N ≤ 1000000000000000000) (h : Hd) :
    callF P (n + 4) f [m.d, wtD w, .int (N : Int)] h = .ok (.int (m.ps (m.wt w) 0 (dgz m.b N)), h) := by
  rw [callF_at hf rfl]
  have e1 := check_machine_ok h3 h2 h1 n o h
  have e2 := check_weights_ok h10 h1 (n + 1) hw h
  have e3 := check_number_ok h4 h1 (n + 1) (v := (N : Int)) (by omega) (by omega) h
  have e4 := weighted_ok h9 h7 h6 h8 h5 hfu n o w (Nat.lt_of_le_of_lt hN (by decide)) h
  simp [b_surplus, e1, e2, e3, e4]
/-! ### digit strings -/
def dS (ds : List Nat) : D := .str (ds.map (48 + ·))
def b_is_digit_string : Df := ⟨2, 3, [
  (.ite (.or_ (.nt (.isi (.v 1) [.str])) (.cmp .gt (.b1 .len (.v 1)) (.c (.int (60))))) [(.ret (.c (.bl false)))] []),
  (.ret (.b1 .all (.comp [2] (.nm 2) (.sq (.v 1)) (.c (.bl true)) (.cmp .in_ (.v 2) (.sl (.c (.str [48, 49, 50])) (.c .non) (.v 0))))))]⟩
theorem len_s {x : List Nat} (h : Hd) (l : x.length ≤ sizeL) : b1D .len (.s x) h = .ok (.int (x.length : Nat), h) := if_pos l
@[simp] theorem in_str {c : Nat} {t : List Nat} {h : Hd} : cmpD .in_ (.str [c]) (.str t) h = .ok (decide (c ∈ t)) := rfl
theorem sl_012 {b : Nat} (h2 : 2 ≤ b) (h3 : b ≤ 3) (h : Hd) : slD (.str [48, 49, 50]) .non (.int (b : Int)) h = .ok (.str ((List.range b).map (48 + ·)), h) := by
  have : b = 2 ∨ b = 3 := by omega
  rcases this with rfl | rfl
  · have e : sIx 3 3 (.int ((2 : Nat) : Int)) = some 2 := by decide
    show (match sIx 3 0 .non, sIx 3 3 (.int ((2 : Nat) : Int)) with
      | some l, some u => if [48, 49, 50].length ≤ sizeL then R.ok (D.str (cut [48, 49, 50] l u), h) else .no
      | _, _ => .no) = _
    rw [e]
    exact if_pos sz3
  · have e : sIx 3 3 (.int ((3 : Nat) : Int)) = some 3 := by decide
    show (match sIx 3 0 .non, sIx 3 3 (.int ((3 : Nat) : Int)) with
      | some l, some u => if [48, 49, 50].length ≤ sizeL then R.ok (D.str (cut [48, 49, 50] l u), h) else .no
      | _, _ => .no) = _
    rw [e]
    exact if_pos sz3
theorem is_digit_string_ok {P : Pg} {f : Nat} (hf : P.df f = some b_is_digit_string) (n : Nat) {b : Nat} (h2 : 2 ≤ b) (h3 : b ≤ 3) {ds : List Nat} (hl : ds.length ≤ 60) (hd : ∀ d ∈ ds, d < b) (h : Hd) : callF P (n + 1) f [.int (b : Int), dS ds] h = .ok (.bl true, h) := by
  rw [callF_at hf rfl]
  have e := ev_map (C := P.cl n) (i := 2) (it := .sq (.v 1)) (elt := (.cmp .in_ (.v 2) (.sl (.c (.str [48, 49, 50])) (.c .non) (.v 0)))) (σ := [some (.int (b : Int)), some (dS ds), none]) (h := h) (h1 := h) (q := .s (ds.map (48 + ·))) (l := ds) (φ := fun d => .str [48 + d]) (ψ := fun _ => .bl true)
    (by simp [dS]) rfl (by simp) (le_sizeL (by omega)) (fun d hd' => by
      have := hd d hd'
      simp [sl_012 h2 h3]
      exact this)
  rw [dS] at e ⊢
  have hl' : ¬ (60 : Int) < (ds.length : Int) := by omega
  simp [b_is_digit_string, len_s h (x := ds.map (48 + ·)) (le_sizeL (by simp; omega)), hl', e, blL_const]
def b_check_digits (x_is_digit_string e_InvalidDigits : Nat) : Df := ⟨2, 2, [
  (.ite (.nt (.call x_is_digit_string [(.v 0), (.v 1)])) [(.raise e_InvalidDigits)] [])]⟩
theorem check_digits_ok {P : Pg} {f f0 c : Nat} (hf : P.df f = some (b_check_digits f0 c)) (hf0 : P.df f0 = some b_is_digit_string) (n : Nat) {b : Nat} (h2 : 2 ≤ b) (h3 : b ≤ 3) {ds : List Nat} (hl : ds.length ≤ 60) (hd : ∀ d ∈ ds, d < b) (h : Hd) : callF P (n + 2) f [.int (b : Int), dS ds] h = .ok (.non, h) := by
  rw [callF_at hf rfl]
  simp [b_check_digits, is_digit_string_ok hf0 n h2 h3 hl hd h]
def b_string_digits : Df := ⟨1, 2, [
  (.ret (.comp [1] (.nm 1) (.sq (.v 0)) (.c (.bl true)) (.b1 .int_ (.v 1))))]⟩
theorem b1V_dig {d : Nat} (h : d ≤ 9) (hh : Hd) : b1V .int_ (.str [48 + d]) hh = .ok (.int (d : Int), hh) := by
  have : intS [48 + d] = some (d : Int) := by simp [intS]; omega
  show R.of ((intS [48 + d]).map fun i => (D.int i, hh)) = _
  rw [this]; rfl
theorem string_digits_ok {P : Pg} {f : Nat} (hf : P.df f = some b_string_digits) (n : Nat) {ds : List Nat} (hl : ds.length ≤ 1000) (hd : ∀ d ∈ ds, d ≤ 9) (h : Hd) : callF P (n + 1) f [dS ds] h = .ok (.ob h.length, h ++ [.lst (nI ds)]) := by
  rw [callF_at hf rfl]
  have e := ev_map (C := P.cl n) (i := 1) (it := .sq (.v 0)) (elt := (.b1 .int_ (.v 1))) (σ := [some (dS ds), none]) (h := h) (h1 := h) (q := .s (ds.map (48 + ·))) (l := ds) (φ := fun d => .str [48 + d]) (ψ := fun d => .int (d : Int))
    (by simp [dS]) rfl (by simp) (le_sizeL (by omega)) (fun d hd' => by simp [b1V_dig (hd d hd')])
  have e2 : ds.map (fun (d : Nat) => D.int (d : Int)) = nI ds := rfl
  rw [e2] at e
  have g := gc_lst (h := h) (g := [.lst (nI ds)]) (k := h.length) (xs := nI ds) (Nat.le_refl _) (by simp) (los_nI _)
  simp [b_string_digits, e, g]
def b_block_sum (x_check_machine x_check_weights x_check_digits x_is_between x_walk x_string_digits x_block_sums x_state_weights e_InvalidLevel : Nat) : Df := ⟨4, 5, [
  (.ex (.call x_check_machine [(.v 0)])),
  (.ex (.call x_check_weights [(.v 1)])),
  (.ex (.call x_check_digits [(.ix (.v 0) (.c (.int (0)))), (.v 2)])),
  (.ite (.nt (.call x_is_between [(.v 3), (.c (.int (0))), (.c (.int (200)))])) [(.raise e_InvalidLevel)] []),
  (.asg (.nm 4) (.call x_walk [(.v 0), (.c (.int (0))), (.call x_string_digits [(.v 2)])])),
  (.ret (.ix (.ix (.call x_block_sums [(.ix (.v 0) (.c (.int (1)))), (.call x_state_weights [(.v 0), (.v 1)]), (.v 3)]) (.v 3)) (.v 4)))]⟩
theorem block_sum_ok {P : Pg} {f isb ism chm bls sws chw wal ids chd sds eM eW eD eL : Nat} (hf : P.df f = some (b_block_sum chm chw chd isb wal sds bls sws eL)) (h1 : P.df isb = some b_is_between) (h2 : P.df ism = some (b_is_machine isb)) (h3 : P.df chm = some (b_check_machine ism eM)) (h6 : P.df bls = some b_block_sums) (h8 : P.df sws = some b_state_weights) (h10 : P.df chw = some (b_check_weights isb eW))
    (h11 : P.df wal = some b_walk) (h12 : P.df ids = some b_is_digit_string) (h13 : P.df chd = some (b_check_digits ids eD)) (h14 : P.df sds = some b_string_digits) (n : Nat) {m : Mc} (o : m.ok) {w : Nat → Int} (hw : ∀ l, l < 3 → -9 ≤ w l ∧ w l ≤ 9) {ds : List Nat} (hl : ds.length ≤ 60) (hd : ∀ d ∈ ds, d < m.b) {e : Nat} (he : e ≤ 200) (h : Hd) :
    callF P (n + 4) f [m.d, wtD w, dS ds, .int (e : Int)] h = .ok (.int (m.T (m.wt w) e (m.go 0 ds)), h) := by
  rw [callF_at hf rfl]
  have hb3 := o.b3
  have e1 := check_machine_ok h3 h2 h1 n o h
  have e2 := check_weights_ok h10 h1 (n + 1) hw h
  have e3 := check_digits_ok h13 h12 (n + 1) o.b2 o.b3 hl hd h
  have e4 := is_between_ok h1 (n + 2) (e : Int) 0 200 h
  have k1 : (0 : Int) ≤ (e : Int) := by omega
  have k2 : (e : Int) ≤ 200 := by omega
  have e5 := string_digits_ok h14 (n + 2) (ds := ds) (by omega) (fun d h => by have := hd d h; omega) h
  have e6 := walk_ok h11 (n + 2) o (s := 0) (k := h.length) (ds := ds) (by have := o.r1; omega) hd (h ++ [.lst (nI ds)]) (by simp)
  have e7 := state_weights_ok h8 (n + 2) o w (h ++ [.lst (nI ds)])
  obtain ⟨j, h', e8, t⟩ := block_sums_ok h6 (n + 2) o (wt := m.wt w) (k := h.length + 1) (E := e) (by omega) (h ++ [.lst (nI ds), .lst (iL m.rows.length (m.wt w))]) (by simp)
  obtain ⟨i, i1, i2, i3, i4⟩ := t.ix (Nat.le_refl e)
  have e9 := ixD_ob i4 (iL_get (n := m.rows.length) (f := m.T (m.wt w) e) (o.go (ds := ds) (s := 0) (by have := o.r1; omega) hd))
  have p : Pre h h' := Pre.trans ⟨_, rfl⟩ t.pre
  have gg : gc h (.int (m.T (m.wt w) e (m.go 0 ds))) h' = (.int (m.T (m.wt w) e (m.go 0 ds)), h) := p.gc rfl
  simp at e6 e7
  simp [b_block_sum, e1, e2, e3, e4, k1, k2, e5, e6, e7, e8, i3, e9, gg, Mc.ix0, Mc.ix1]
end Mp
set_option maxHeartbeats 4000000
namespace Mp
/-! ### the law's draws -/
def b__law_town : Df := ⟨1, 1, [
  (.ret (.bin .add (.lst [(.c (.int (0)))]) (.b1 .list (.v 0))))]⟩
/-- the town: the number of draws so far, what is left of each cell -/
structure Twn (len : Nat) (B : Nat) (xs : List D) : Prop where
  ex : ∃ (c : Nat) (ls : List Int), xs = .int (c : Int) :: ls.map D.int ∧ ls.length = len ∧ c < B
def scrD (ns : List Int) : Ob := .scr (ns.map D.int)
theorem law_town_ok {P : Pg} {f : Nat} (hf : P.df f = some b__law_town) (n : Nat) {ns : List Int} (hn : ns.length ≤ 63) : callF P (n + 1) f [.ob 0] [scrD ns] = .ok (.ob 1, [scrD ns, .lst (.int 0 :: ns.map D.int)]) := by
  rw [callF_at hf rfl]
  have e : ([scrD ns] : Hd)[0]? = some (.scr (ns.map D.int)) := rfl
  have e2 := bin_lst (a := 1) (b := 2) (s := [.int 0]) (t := ns.map D.int) (h := [scrD ns, .lst [.int 0], .lst (ns.map D.int)]) rfl rfl (le_sizeL (by simp; omega))
  have g := gc_lst (h := [scrD ns]) (g := [.lst [.int 0], .lst (ns.map D.int), .lst (.int 0 :: ns.map D.int)]) (k := 3) (xs := .int 0 :: ns.map D.int) (by simp) rfl (by simp; exact los_ints (f := id) ns)
  have e3 : ([scrD ns, Ob.lst [.int 0]] : Hd)[0]? = some (.scr (ns.map D.int)) := rfl
  simp at e2 g
  simp [b__law_town, qs_scr e3, e2, g]
def b__law_draw : Df := ⟨3, 6, [
  (.setIx (.v 1) (.c (.int (0))) (.bin .add (.ix (.v 1) (.c (.int (0)))) (.c (.int (1))))),
  (.ite (.cmp .eq (.v 0) (.lst [])) [(.ret (.bin .mod (.bin .fdiv (.bin .mul (.bin .mul (.ix (.v 1) (.c (.int (0)))) (.ix (.v 1) (.c (.int (0))))) (.c (.int (7)))) (.c (.int (3)))) (.v 2)))] []),
  (.asg (.nm 3) (.bin .mod (.ix (.v 1) (.c (.int (0)))) (.b1 .len (.v 0)))),
  (.asg (.nm 4) (.ix (.v 1) (.bin .add (.c (.int (1))) (.v 3)))),
  (.ite (.and_ (.cmp .ge (.ix (.v 0) (.v 3)) (.bin .pow (.c (.int (10))) (.c (.int (18))))) (.cmp .gt (.v 4) (.c (.int (0))))) [(.setIx (.v 1) (.bin .add (.c (.int (1))) (.v 3)) (.bin .fdiv (.v 4) (.v 2))), (.ret (.bin .mod (.v 4) (.v 2)))] []),
  (.asg (.nm 5) (.bin .mod (.bin .add (.ix (.v 0) (.v 3)) (.bin .mul (.c (.int (104729))) (.ix (.v 1) (.c (.int (0)))))) (.c (.int (4294967291))))),
  (.asg (.nm 5) (.bin .mod (.bin .pow (.v 5) (.c (.int (5)))) (.c (.int (4294967279))))),
  (.ret (.bin .mod (.bin .fdiv (.bin .mod (.bin .add (.bin .mul (.bin .fdiv (.v 5) (.c (.int (64)))) (.c (.int (69621)))) (.v 5)) (.c (.int (4294967231)))) (.c (.int (8)))) (.v 2)))]⟩
theorem ints_mapM (h : Hd) (n : Nat) : ∀ ns : List Int, (ns.map D.int).mapM (toP h (n + 1)) = some (ns.map PySem.PyData.int)
  | [] => rfl
  | x :: ns => by
    rw [List.map_cons, List.mapM_cons, ints_mapM h n ns]
    rfl
theorem pyEq_nil {h : Hd} {a b : Nat} {ns : List Int} (e1 : h[a]? = some (.scr (ns.map D.int))) (e2 : h[b]? = some (.lst [])) : pyEq h (.ob a) (.ob b) = some (decide (ns = [])) := by
  have t1 : toP h 40 (.ob a) = some (.list (ns.map PySem.PyData.int)) := by
    show (match h[a]? with
      | some (.lst xs) => (xs.mapM (toP h 39)).map PySem.PyData.list
      | some (.scr xs) => (xs.mapM (toP h 39)).map PySem.PyData.list
      | _ => none) = _
    rw [e1]
    dsimp only
    rw [ints_mapM h 38 ns]
    rfl
  have t2 : toP h 40 (.ob b) = some (.list []) := by
    show (match h[b]? with
      | some (.lst xs) => (xs.mapM (toP h 39)).map PySem.PyData.list
      | some (.scr xs) => (xs.mapM (toP h 39)).map PySem.PyData.list
      | _ => none) = _
    rw [e2]
    rfl
  unfold pyEq
  rw [t1, t2]
  cases ns with
  | nil => simp [PySem.PyData.eqv, PySem.PyData.eqvAll]
  | cons x xs => simp [PySem.PyData.eqv, PySem.PyData.eqvAll]
theorem bin_fdivS {i j : Int} {h} (c : 0 < j) (c2 : j ≤ 1000000) : binD .fdiv (.int i) (.int j) h = .ok (.int (i / j), h) :=
  bin_fdiv c (Nat.lt_of_lt_of_le (by omega : j.natAbs < 2 ^ 20) (Nat.pow_le_pow_right (by decide) (by decide)))
theorem oldOk_set {m : Nat} {k : Nat} {xs : List D} (hx : D.los m xs = true) : ∀ (h g : Hd) (k : Nat), oldOk m h (h.set k (.lst xs) ++ g) = true
  | [], _, _ => rfl
  | a :: r, g, 0 => by simp [oldOk, oldOk_app, Ob.lo, hx]
  | a :: r, g, k + 1 => by simp [oldOk, oldOk_set (k := 0) hx r g k]
theorem gc_set {h : Hd} {k : Nat} {xs : List D} {g : Hd} {d : D} (hx : D.los h.length xs = true) (hd : D.lo h.length d = true) : gc h d (h.set k (.lst xs) ++ g) = (d, h.set k (.lst xs)) := by
  unfold gc
  rw [oldOk_set (k := 0) hx, if_pos rfl, hd, if_pos rfl]
  congr 1
  rw [show h.length = (h.set k (.lst xs)).length by simp, List.take_left]
theorem ixD_scr {xs : List D} {k j : Nat} {d : D} {h : Hd} (hj : h[j]? = some (.scr xs)) (e : xs[k]? = some d) : ixC (.ob j) (.int (k : Int)) h = .ok d := by
  have hk : k < xs.length := by
    by_cases c : k < xs.length
    · exact c
    · rw [List.getElem?_eq_none (by omega)] at e; cases e
  simp [ixC, dctOf, ixD, sqOf, hj, Sq.items, ixN_nat hk, e]
theorem cmp_eq_of {h : Hd} {a b : D} {r : Bool} (e : pyEq h a b = some r) : cmpD .eq a b h = .ok r := by simp [cmpD, e]
theorem law_draw_ok {P : Pg} {f : Nat} (hf : P.df f = some b__law_draw) (n : Nat) {ns : List Int} (hn : ns.length ≤ 63) {k B lim : Nat} {xs : List D} {h : Hd} (h0 : h[0]? = some (scrD ns)) (hk : h[k]? = some (.lst xs)) (t : Twn ns.length B xs) (hB : B ≤ 1000000) (hl : 1 ≤ lim) (hl2 : lim ≤ 1000000) :
    ∃ (r : Nat) (ys : List D), r < lim ∧ Twn ns.length (B + 1) ys ∧ callF P (n + 1) f [.ob 0, .ob k, .int (lim : Int)] h = .ok (.int (r : Int), h.set k (.lst ys)) := by
  rw [callF_at hf rfl]
  obtain ⟨c, ls, rfl, hls, hc⟩ := t.ex
  have hk0 : k ≠ 0 := by
    rintro rfl
    rw [h0] at hk
    cases hk
  have hkl := get_lt hk
  have i0 : ixC (.ob k) (.int 0) h = .ok (.int (c : Int)) := ixD_ob (k := 0) hk rfl
  have s0 : ∀ σ d, setIxF σ (.ob k) (.int 0) d h = .nx σ (h.set k (.lst (d :: ls.map D.int))) := fun σ d => setIx_ob (i := 0) hk (by simp)
  obtain ⟨h1, eh1⟩ : ∃ h1, h1 = h.set k (.lst (.int ((c : Int) + 1) :: ls.map D.int)) := ⟨_, rfl⟩
  have a0 : h1[0]? = some (.scr (ns.map D.int)) := by rw [eh1, List.getElem?_set_ne hk0]; exact h0
  have ak : h1[k]? = some (.lst (.int ((c : Int) + 1) :: ls.map D.int)) := by rw [eh1, List.getElem?_set_self hkl]
  obtain ⟨h2, eh2⟩ : ∃ h2, h2 = h1 ++ [Ob.lst []] := ⟨_, rfl⟩
  have l1 : h1.length = h.length := by rw [eh1]; simp
  have b0 : h2[0]? = some (.scr (ns.map D.int)) := by rw [eh2, List.getElem?_append_left (get_lt a0)]; exact a0
  have bk : h2[k]? = some (.lst (.int ((c : Int) + 1) :: ls.map D.int)) := by rw [eh2, List.getElem?_append_left (get_lt ak)]; exact ak
  have bn : h2[h1.length]? = some (.lst []) := by rw [eh2]; simp
  have q : cmpC (P.cl n) .eq (.ob 0) (.ob h1.length) h2 = .ok (.bl (decide (ns = [])), h2) := by rw [cmpC_eq_scr b0, cmp_eq_of (pyEq_nil b0 bn)]; rfl
  have j0 : ixC (.ob k) (.int 0) h2 = .ok (.int ((c : Int) + 1)) := ixD_ob (k := 0) bk rfl
  have tw : Twn ns.length (B + 1) (.int ((c : Int) + 1) :: ls.map D.int) := ⟨c + 1, ls, by simp, hls, by omega⟩
  have fin : ∀ r : Int, gc h (.int r) h2 = (.int r, h.set k (.lst (.int ((c : Int) + 1) :: ls.map D.int))) := fun r => by
    rw [eh2, eh1]
    exact gc_set (by simp; exact los_ints (f := id) ls) rfl
  have hl' : (0 : Int) < (lim : Int) := by omega
  have sm : small ((c : Int) + 1) = true := small_of (by omega) (by omega)
  have nat : ∀ x : Int, ∃ r : Nat, r < lim ∧ x % (lim : Int) = (r : Int) := fun x => by
    have h1 := Int.emod_nonneg x (b := (lim : Int)) (by omega)
    have h2 := Int.emod_lt_of_pos x hl'
    exact ⟨(x % (lim : Int)).toNat, by omega, by omega⟩
  by_cases hnil : ns = []
  · obtain ⟨r, hr, er⟩ := nat (((c : Int) + 1) * ((c : Int) + 1) * 7 / 3)
    refine ⟨r, _, hr, tw, ?_⟩
    have m1 : binD .mul (.int ((c : Int) + 1)) (.int ((c : Int) + 1)) h2 = _ := bin_mul (by rw [sm]; rfl)
    have m2 : ∀ x, binD .mul (.int x) (.int 7) h2 = .ok (.int (x * 7), h2) := fun x => bin_mul (by rw [small_of (i := 7) (by decide) (by decide)]; simp)
    have m3 : ∀ x, binD .fdiv (.int x) (.int 3) h2 = .ok (.int (x / 3), h2) := fun x => bin_fdivS (by decide) (by decide)
    have m4 : ∀ x, binD .mod (.int x) (.int (lim : Int)) h2 = .ok (.int (x % lim), h2) := fun x => bin_mod hl'
    simp [b__law_draw, i0, s0, ← eh1, ← eh2, q, hnil, j0, m1, m2, m3, m4, er, fin]
  · have hlen : 0 < ns.length := by cases ns with | nil => exact absurd rfl hnil | cons a b => simp
    have lq : qs (.ok (.v (.ob 0), h2)) = .ok (.l (some 0) (ns.map D.int), h2) := qs_scr b0
    obtain ⟨at_, hat, eat⟩ : ∃ r : Nat, r < ns.length ∧ ((c : Int) + 1) % (ns.length : Int) = (r : Int) := by
      have h1 := Int.emod_nonneg ((c : Int) + 1) (b := (ns.length : Int)) (by omega)
      have h2 := Int.emod_lt_of_pos ((c : Int) + 1) (b := (ns.length : Int)) (by omega)
      exact ⟨(((c : Int) + 1) % (ns.length : Int)).toNat, by omega, by omega⟩
    have m1 : binD .mod (.int ((c : Int) + 1)) (.int (ns.length : Int)) h2 = .ok (.int (at_ : Int), h2) := by rw [bin_mod (by omega), eat]
    have hat2 : at_ < ls.length := by omega
    have ca : (1 : Int) + (at_ : Int) = (at_ : Int) + 1 := Int.add_comm _ _
    have ec : ((at_ + 1 : Nat) : Int) = (at_ : Int) + 1 := by omega
    have i1 : ixC (.ob k) (.int ((at_ : Int) + 1)) h2 = .ok (.int ls[at_]) := by rw [← ec]; exact ixD_ob bk (by simp [hat2])
    have i2 : ixC (.ob 0) (.int (at_ : Int)) h2 = .ok (.int ns[at_]) := ixD_scr b0 (by simp [hat])
    have p1 : binD .pow (.int 10) (.int 18) h2 = .ok (.int 1000000000000000000, h2) := by rw [bin_pow (by decide) (by decide) (by decide)]; rfl
    have m4 : ∀ x, binD .mod (.int x) (.int (lim : Int)) h2 = .ok (.int (x % lim), h2) := fun x => bin_mod hl'
    have s1 : ∀ σ d, setIxF σ (.ob k) (.int ((at_ : Int) + 1)) d h2 = .nx σ (h2.set k (.lst (.int ((c : Int) + 1) :: (ls.map D.int).set at_ d))) := fun σ d => by
      rw [← ec, setIx_ob bk (by simp; omega)]; rfl
    by_cases hbig : (1000000000000000000 : Int) ≤ ns[at_] ∧ 0 < ls[at_]
    · obtain ⟨r, hr, er⟩ := nat ls[at_]
      refine ⟨r, .int ((c : Int) + 1) :: (ls.set at_ (ls[at_] / (lim : Int))).map D.int, hr, ⟨c + 1, ls.set at_ (ls[at_] / (lim : Int)), by simp, by simp [hls], by omega⟩, ?_⟩
      have m5 : ∀ x, binD .fdiv (.int x) (.int (lim : Int)) h2 = .ok (.int (x / lim), h2) := fun x => bin_fdivS hl' (by omega)
      obtain ⟨h3, eh3⟩ : ∃ h3, h3 = h2.set k (.lst (.int ((c : Int) + 1) :: (ls.map D.int).set at_ (.int (ls[at_] / (lim : Int))))) := ⟨_, rfl⟩
      have m6 : ∀ x, binD .mod (.int x) (.int (lim : Int)) h3 = .ok (.int (x % lim), h3) := fun x => bin_mod hl'
      have fin2 : gc h (.int (r : Int)) h3 = (.int (r : Int), h.set k (.lst (.int ((c : Int) + 1) :: (ls.set at_ (ls[at_] / (lim : Int))).map D.int))) := by
        have : h3 = h.set k (.lst (.int ((c : Int) + 1) :: (ls.set at_ (ls[at_] / (lim : Int))).map D.int)) ++ [Ob.lst []] := by
          rw [eh3, eh2, eh1, List.set_append_left _ _ (by simpa using hkl)]
          simp
        rw [this]
        exact gc_set (by rw [los_cons, lo_int, Bool.true_and]; exact los_ints (f := id) _) rfl
      simp [b__law_draw, i0, s0, ← eh1, ← eh2, q, hnil, j0, lq, m1, ca, i1, i2, p1, hbig.1, hbig.2, m5, s1, ← eh3, m6, er, fin2]
    · obtain ⟨v, ev⟩ : ∃ v, v = (ns[at_] + 104729 * ((c : Int) + 1)) % 4294967291 := ⟨_, rfl⟩
      have v1 : 0 ≤ v := by rw [ev]; exact Int.emod_nonneg _ (by decide)
      have v2 : v < 4294967291 := by rw [ev]; exact Int.emod_lt_of_pos _ (by decide)
      obtain ⟨u, eu⟩ : ∃ u, u = v ^ 5 % 4294967279 := ⟨_, rfl⟩
      obtain ⟨r, hr, er⟩ := nat ((u / 64 * 69621 + u) % 4294967231 / 8)
      refine ⟨r, _, hr, tw, ?_⟩
      have m5 : ∀ x, binD .mul (.int 104729) (.int x) h2 = .ok (.int (104729 * x), h2) := fun x => bin_mul (by rw [small_of (i := 104729) (by decide) (by decide)]; rfl)
      have m6 : ∀ x, binD .mul (.int x) (.int 69621) h2 = .ok (.int (x * 69621), h2) := fun x => bin_mul (by rw [small_of (i := 69621) (by decide) (by decide)]; simp)
      have m7 : ∀ x, binD .mod (.int x) (.int 4294967291) h2 = .ok (.int (x % 4294967291), h2) := fun x => bin_mod (by decide)
      have m8 : ∀ x, binD .mod (.int x) (.int 4294967279) h2 = .ok (.int (x % 4294967279), h2) := fun x => bin_mod (by decide)
      have m9 : ∀ x, binD .mod (.int x) (.int 4294967231) h2 = .ok (.int (x % 4294967231), h2) := fun x => bin_mod (by decide)
      have d1 : ∀ x, binD .fdiv (.int x) (.int 64) h2 = .ok (.int (x / 64), h2) := fun x => bin_fdivS (by decide) (by decide)
      have d2 : ∀ x, binD .fdiv (.int x) (.int 8) h2 = .ok (.int (x / 8), h2) := fun x => bin_fdivS (by decide) (by decide)
      have p2 : binD .pow (.int v) (.int 5) h2 = .ok (.int (v ^ 5), h2) := bin_pow (by decide) (by decide) (by omega)
      have cond : (decide ((1000000000000000000 : Int) ≤ ns[at_]) = true → decide (0 < ls[at_]) = false) := by
        intro h1
        have := of_decide_eq_true h1
        exact decide_eq_false fun h2 => hbig ⟨this, h2⟩
      by_cases hb1 : (1000000000000000000 : Int) ≤ ns[at_]
      · have hb2 : ¬ 0 < ls[at_] := fun h2 => hbig ⟨hb1, h2⟩
        simp [b__law_draw, i0, s0, ← eh1, ← eh2, q, hnil, j0, lq, m1, ca, i1, i2, p1, hb1, hb2, m5, m7, ← ev, p2, m8, ← eu, d1, m6, m9, d2, m4, er, fin]
      · simp [b__law_draw, i0, s0, ← eh1, ← eh2, q, hnil, j0, lq, m1, ca, i1, i2, p1, hb1, m5, m7, ← ev, p2, m8, ← eu, d1, m6, m9, d2, m4, er, fin]
end Mp
set_option maxHeartbeats 4000000
namespace Mp
theorem Twn.mono {l B B' : Nat} {xs : List D} (t : Twn l B xs) (h : B ≤ B') : Twn l B' xs := by
  obtain ⟨c, ls, e1, e2, e3⟩ := t.ex
  exact ⟨c, ls, e1, e2, by omega⟩
theorem Twn.los {l B m : Nat} {xs : List D} (t : Twn l B xs) : D.los m xs = true := by
  obtain ⟨c, ls, rfl, e2, e3⟩ := t.ex
  rw [los_cons, lo_int, Bool.true_and]
  exact los_ints (f := id) ls
/-- the script, and the town at k -/
structure Base (ns : List Int) (h0 : Hd) (k : Nat) : Prop where
  n63 : ns.length ≤ 63
  s0 : h0[0]? = some (scrD ns)
  k0 : k ≠ 0
  kl : k < h0.length
section
variable {P : Pg} {ns : List Int} {h0 : Hd} {k : Nat}
theorem Base.at0 (b : Base ns h0 k) (ys : List D) (g : Hd) : (h0.set k (.lst ys) ++ g)[0]? = some (scrD ns) := by
  rw [List.getElem?_append_left (by rw [List.length_set]; have := b.kl; omega), List.getElem?_set_ne b.k0]
  exact b.s0
theorem Base.atk (b : Base ns h0 k) (ys : List D) (g : Hd) : (h0.set k (.lst ys) ++ g)[k]? = some (.lst ys) := by
  rw [List.getElem?_append_left (by rw [List.length_set]; exact b.kl), List.getElem?_set_self b.kl]
theorem draw_st {f : Nat} (hf : P.df f = some b__law_draw) (n : Nat) (b : Base ns h0 k) {B lim : Nat} {ys : List D} (t : Twn ns.length B ys) (hB : B ≤ 1000000) (hl : 1 ≤ lim) (hl2 : lim ≤ 1000000) (g : Hd) :
    ∃ (r : Nat) (zs : List D), r < lim ∧ Twn ns.length (B + 1) zs ∧ callF P (n + 1) f [.ob 0, .ob k, .int (lim : Int)] (h0.set k (.lst ys) ++ g) = .ok (.int (r : Int), h0.set k (.lst zs) ++ g) := by
  obtain ⟨r, zs, hr, tz, e⟩ := law_draw_ok hf n b.n63 (b.at0 ys g) (b.atk ys g) t hB hl hl2
  refine ⟨r, zs, hr, tz, ?_⟩
  rw [e, List.set_append_left _ _ (by rw [List.length_set]; exact b.kl), List.set_set]
theorem draws_ok {f : Nat} (hf : P.df f = some b__law_draw) (n n' : Nat) (b : Base ns h0 k) {B lim m i : Nat} {ys : List D} {σ : Sl} {hs : Hd} {it : I} {elt : E} {g : Hd} {φ : Nat → D} {ψ : Nat → D} {G : D × Hd → R (D × Hd)} (t : Twn ns.length B ys) (hB : B + m ≤ 1000000) (hl : 1 ≤ lim) (hl2 : lim ≤ 1000000) (hm : m ≤ 1000000) (hi : i < σ.length)
    (hit : evI (P.cl n') it σ hs = .ok ((.t [], (List.range m).map φ), h0.set k (.lst ys) ++ g))
    (helt : ∀ x h, vl (evR (P.cl n') elt (σ.set i (some x)) h) = (callF P (n + 1) f [.ob 0, .ob k, .int (lim : Int)] h >>= G)) (hG : ∀ r, r < lim → ∀ h, G (.int ((r : Nat) : Int), h) = .ok (ψ r, h)) :
    ∃ (rs : List Nat) (zs : List D), rs.length = m ∧ (∀ r ∈ rs, r < lim) ∧ Twn ns.length (B + m) zs ∧ evR (P.cl n') (.comp [i] (.nm i) it (.c (.bl true)) elt) σ hs = .ok (.l (rs.map ψ), h0.set k (.lst zs) ++ g) := by
  obtain ⟨ds, h2, e, ⟨zs, rs, tz, rfl, rfl, hr, hl3⟩, hlen⟩ := ev_thread (C := P.cl n') (i := i) (it := it) (elt := elt) (σ := σ) (q := .t []) (l := List.range m) (φ := φ)
    (fun l ds h => ∃ zs rs, Twn ns.length (B + rs.length) zs ∧ h = h0.set k (.lst zs) ++ g ∧ ds = rs.map ψ ∧ (∀ r ∈ rs, r < lim) ∧ rs.length + l.length = m) hit hi (le_sizeL (by simpa using hm))
    (fun a l ds h ⟨zs, rs, tz, eh, ed, hr, hl3⟩ => by
      subst eh; subst ed
      rw [List.length_cons] at hl3
      obtain ⟨r, zs', hr', tz', e⟩ := draw_st hf n b tz (by omega) hl hl2 g
      refine ⟨ψ r, h0.set k (.lst zs') ++ g, ?_, rfl, zs', rs ++ [r], ?_, rfl, by simp, ?_, ?_⟩
      · rw [helt, e, R.ok_bind, hG r hr']
      · simpa [Nat.add_assoc] using tz'
      · intro q hq
        rcases List.mem_append.mp hq with hq | hq
        · exact hr q hq
        · rw [List.mem_singleton.mp hq]; exact hr'
      · simp; omega)
    ⟨ys, [], by simpa using t, rfl, rfl, by simp, by simp⟩
  simp at hl3
  exact ⟨rs, zs, hl3, hr, by rw [← hl3]; exact tz, e⟩
def b__law_machine_in (x__law_draw : Nat) : Df := ⟨4, 9, [
  (.asg (.nm 4) (.bin .add (.c (.int (1))) (.call x__law_draw [(.v 0), (.v 1), (.v 2)]))),
  (.asg (.nm 5) (.lst [])),
  (.for_ (.nm 6) (.rng (.c (.int (0))) (.v 4)) [(.ex (.m1 .append (.v 5) (.b1 .tuple (.comp [8] (.nm 8) (.rng (.c (.int (0))) (.v 3)) (.c (.bl true)) (.call x__law_draw [(.v 0), (.v 1), (.v 4)])))))]),
  (.setIx (.v 5) (.c (.int (0))) (.bin .add (.tup [(.c (.int (0)))]) (.sl (.ix (.v 5) (.c (.int (0)))) (.c (.int (1))) (.c .non)))),
  (.asg (.nm 7) (.bin .add (.c (.int (2))) (.call x__law_draw [(.v 0), (.v 1), (.c (.int (2)))]))),
  (.ret (.tup [(.v 3), (.b1 .tuple (.v 5)), (.b1 .tuple (.comp [6] (.nm 6) (.rng (.c (.int (0))) (.v 4)) (.c (.bl true)) (.call x__law_draw [(.v 0), (.v 1), (.v 7)])))]))]⟩
theorem sl_drop1 {x : D} {xs : List D} (h : Hd) : slD (.tup (x :: xs)) (.int 1) .non h = .ok (.tup xs, h) := by
  have e : sIx (x :: xs).length 0 (.int 1) = some 1 := by simp [sIx]
  have e0 : sIx (x :: xs).length (x :: xs).length .non = some (x :: xs).length := rfl
  unfold slD
  simp only [e, e0]
  simp [cut]
theorem rvl {x : R (D × Hd)} : vl (rv x) = x := by cases x <;> rfl
theorem machine_in_ok {f fd : Nat} (hf : P.df f = some (b__law_machine_in fd)) (hd : P.df fd = some b__law_draw) (n : Nat) (bs : Base ns h0 k) {B most b : Nat} {ys : List D} (t : Twn ns.length B ys) (hB : B ≤ 1000) (hm1 : 1 ≤ most) (hm : most ≤ 4) (hb2 : 2 ≤ b) (hb3 : b ≤ 3) (e0 : h0[k]? = some (.lst ys)) :
    ∃ (m : Mc) (zs : List D), m.ok ∧ m.b = b ∧ m.rows.length ≤ most ∧ Twn ns.length (B + 50) zs ∧ callF P (n + 2) f [.ob 0, .ob k, .int (most : Int), .int (b : Int)] h0 = .ok (m.d, h0.set k (.lst zs)) := by
  rw [callF_at hf rfl]
  have hset : h0 = h0.set k (.lst ys) ++ [] := by
    rw [List.append_nil]
    apply List.ext_getElem?
    intro i
    by_cases c : k = i
    · subst c; rw [List.getElem?_set_self bs.kl, e0]
    · rw [List.getElem?_set_ne c]
  obtain ⟨s, z1, hs, t1, q1⟩ := draw_st hd n bs t (by omega) hm1 (by omega) []
  rw [← hset, List.append_nil] at q1
  have L1 : (h0.set k (.lst z1)).length = h0.length := by simp
  have c1 : (1 : Int) + (s : Int) = ((s + 1 : Nat) : Int) := by omega
  obtain ⟨σ', h', e, z2, rs, x, t2, rfl, rfl, hlen, hrs⟩ := ev_for (C := P.cl (n + 1)) (t := .nm 6) (it := (.rng (.c (.int (0))) (.v 4))) (b := [(.ex (.m1 .append (.v 5) (.b1 .tuple (.comp [8] (.nm 8) (.rng (.c (.int (0))) (.v 3)) (.c (.bl true)) (.call fd [(.v 0), (.v 1), (.v 4)])))))])
    (σ := [some (.ob 0), some (.ob k), some (.int (most : Int)), some (.int (b : Int)), some (.int ((s + 1 : Nat) : Int)), some (.ob h0.length), none, none, none]) (h := h0.set k (.lst z1) ++ [.lst []]) (h1 := h0.set k (.lst z1) ++ [.lst []]) (q := .t []) (l := List.range (s + 1)) (φ := fun (x : Nat) => .int (x : Int))
    (fun l σ hh => ∃ z2 rs x, Twn ns.length (B + 1 + 3 * rs.length) z2 ∧ hh = h0.set k (.lst z2) ++ [.lst (rD' rs)] ∧ σ = [some (.ob 0), some (.ob k), some (.int (most : Int)), some (.int (b : Int)), some (.int ((s + 1 : Nat) : Int)), some (.ob h0.length), x, none, none] ∧ rs.length + l.length = s + 1 ∧ ∀ r ∈ rs, r.length = b ∧ ∀ t ∈ r, t < s + 1)
    (by simp only [evI_rng, evR_c, evR_v, getV_s, getV_z, R.ok_bind, vl_v, rng0 (n := s + 1) (by omega)])
    (fun a l σ hh ⟨z2, rs, x, t2, eh, es, hlen, hrs⟩ => by
      subst eh; subst es
      rw [List.length_cons] at hlen
      obtain ⟨r, z3, hrl, hrt, t3, q3⟩ := draws_ok hd n (n + 1) bs (lim := s + 1) (m := b) (i := 8) (σ := [some (.ob 0), some (.ob k), some (.int (most : Int)), some (.int (b : Int)), some (.int ((s + 1 : Nat) : Int)), some (.ob h0.length), some (.int (a : Int)), none, none]) (it := (.rng (.c (.int (0))) (.v 3))) (elt := (.call fd [(.v 0), (.v 1), (.v 4)])) (g := [.lst (rD' rs)]) (hs := h0.set k (.lst z2) ++ [.lst (rD' rs)]) (φ := fun (x : Nat) => .int (x : Int)) (ψ := fun (x : Nat) => .int (x : Int)) (G := fun p => .ok p) t2 (by omega) (by omega) (by omega) (by omega) (by simp)
        (by simp only [evI_rng, evR_c, evR_v, getV_s, getV_z, R.ok_bind, vl_v, rng0 (n := b) (by omega)]) (fun x h => by
          simp [rvl]
          cases callF P (n + 1) fd [.ob 0, .ob k, .int ((s : Int) + 1)] h <;> rfl) (fun r hr h => rfl)
      have ea : (h0.set k (.lst z3) ++ [Ob.lst (rD' rs)])[h0.length]? = some (.lst (rD' rs)) := by
        rw [List.getElem?_append_right (by simp)]; simp
      have ea2 : (h0.set k (.lst z2) ++ [Ob.lst (rD' rs)])[h0.length]? = some (.lst (rD' rs)) := by
        rw [List.getElem?_append_right (by simp)]; simp
      refine ⟨_, [some (.ob 0), some (.ob k), some (.int (most : Int)), some (.int (b : Int)), some (.int ((s + 1 : Nat) : Int)), some (.ob h0.length), some (.int (a : Int)), none, none], h0.set k (.lst z3) ++ [.lst (rD' (rs ++ [r]))], rfl, .inl ?_, rfl, z3, rs ++ [r], _, t3.mono (by simp; omega), rfl, rfl, by simp; omega, ?_⟩
      · have ap := append_ob (d := .tup (nI r)) ea (lt_sizeL (by simp [rD']; omega))
        have e2 : (h0.set k (.lst z3) ++ [Ob.lst (rD' rs)]).set h0.length (.lst (rD' rs ++ [.tup (nI r)])) = h0.set k (.lst z3) ++ [.lst (rD' (rs ++ [r]))] := by
          rw [List.set_append_right _ _ (by simp)]
          simp [rD']
        rw [e2] at ap
        have e3 : r.map (fun (x : Nat) => D.int (x : Int)) = nI r := rfl
        rw [e3] at q3
        simp only [evSs_cons, evS_ex, evR_append, evR_v, getV_s, getV_z, R.ok_bind, vl_v, rcv_append ea2, evR_b1tuple, List.set, q3, qs_l, tuple_l, rv_ok, ap, thenF_ok, F.seq_nx, evSs_nil]
      · intro q hq
        rcases List.mem_append.mp hq with hq | hq
        · exact hrs q hq
        · rw [List.mem_singleton.mp hq]; exact ⟨hrl, hrt⟩)
    ⟨z1, [], none, by simpa using t1, by simp [rD'], rfl, by simp, by simp⟩
  have hlen : rs.length = s + 1 := by simpa using hlen
  obtain ⟨r0, rest, rfl⟩ : ∃ r0 rest, rs = r0 :: rest := by
    cases rs with
    | nil => simp at hlen
    | cons a b => exact ⟨a, b, rfl⟩
  obtain ⟨x0, xr, rfl⟩ : ∃ x0 xr, r0 = x0 :: xr := by
    cases r0 with
    | nil => have := (hrs [] List.mem_cons_self).1; simp at this; omega
    | cons a b => exact ⟨a, b, rfl⟩
  have ea : (h0.set k (.lst z2) ++ [Ob.lst (rD' ((x0 :: xr) :: rest))])[h0.length]? = some (.lst (rD' ((x0 :: xr) :: rest))) := by
    rw [List.getElem?_append_right (by simp)]; simp
  have i0 : ixC (.ob h0.length) (.int 0) (h0.set k (.lst z2) ++ [Ob.lst (rD' ((x0 :: xr) :: rest))]) = .ok (.tup (.int (x0 : Int) :: nI xr)) := ixD_ob (k := 0) ea rfl
  have hxr := (hrs (x0 :: xr) List.mem_cons_self).1
  rw [List.length_cons] at hxr
  have bt : binD .add (.tup [.int 0]) (.tup (nI xr)) (h0.set k (.lst z2) ++ [Ob.lst (rD' ((x0 :: xr) :: rest))]) = .ok (.tup (.int 0 :: nI xr), _) := bin_tup (le_sizeL (by simp [nI_len]; omega))
  have sx : ∀ σ, setIxF σ (.ob h0.length) (.int 0) (.tup (.int 0 :: nI xr)) (h0.set k (.lst z2) ++ [Ob.lst (rD' ((x0 :: xr) :: rest))]) = .nx σ (h0.set k (.lst z2) ++ [.lst (rD' ((0 :: xr) :: rest))]) := fun σ => by
    rw [show (0 : Int) = ((0 : Nat) : Int) from rfl, setIx_ob (i := 0) ea (by simp [rD']), List.set_append_right _ _ (by simp)]
    simp [rD', nI]
  obtain ⟨kd, z4, hkd, t4, q4⟩ := draw_st hd n bs (t2.mono (B' := B + 20) (by rw [hlen]; omega)) (by omega) (lim := 2) (by omega) (by omega) [.lst (rD' ((0 :: xr) :: rest))]
  rw [show ((2 : Nat) : Int) = 2 from rfl] at q4
  have c2 : (2 : Int) + (kd : Int) = ((kd + 2 : Nat) : Int) := by omega
  obtain ⟨ls, z5, hll, hlt, t5, q5⟩ := draws_ok hd n (n + 1) bs (lim := kd + 2) (m := s + 1) (i := 6) (σ := [some (.ob 0), some (.ob k), some (.int (most : Int)), some (.int (b : Int)), some (.int ((s + 1 : Nat) : Int)), some (.ob h0.length), x, some (.int ((kd + 2 : Nat) : Int)), none]) (it := (.rng (.c (.int (0))) (.v 4))) (elt := (.call fd [(.v 0), (.v 1), (.v 7)])) (g := [.lst (rD' ((0 :: xr) :: rest))]) (hs := h0.set k (.lst z4) ++ [.lst (rD' ((0 :: xr) :: rest))]) (φ := fun (x : Nat) => .int (x : Int)) (ψ := fun (x : Nat) => .int (x : Int)) (G := fun p => .ok p) t4 (by omega) (by omega) (by omega) (by omega) (by simp)
        (by simp only [evI_rng, evR_c, evR_v, getV_s, getV_z, R.ok_bind, vl_v, rng0 (n := s + 1) (by omega)]) (fun x h => by
          simp [rvl]
          cases callF P (n + 1) fd [.ob 0, .ob k, .int ((kd : Int) + 2)] h <;> rfl) (fun r hr h => rfl)
  have e3 : ls.map (fun (x : Nat) => D.int (x : Int)) = nI ls := rfl
  rw [e3] at q5
  have ea4 : (h0.set k (.lst z4) ++ [Ob.lst (rD' ((0 :: xr) :: rest))])[h0.length]? = some (.lst (rD' ((0 :: xr) :: rest))) := by
    rw [List.getElem?_append_right (by simp)]; simp
  refine ⟨⟨b, (0 :: xr) :: rest, ls⟩, z5, ⟨hb2, hb3, by simp, by simp at hlen ⊢; omega, ?_, ?_, by simp at hlen ⊢; omega, fun l hl => by have := hlt l hl; omega, _, _, rfl⟩, rfl, by simp at hlen ⊢; omega, t5.mono (by omega), ?_⟩
  · intro r hr
    rcases List.mem_cons.mp hr with rfl | hr
    · simpa using hxr
    · exact (hrs r (List.mem_cons_of_mem _ hr)).1
  · intro r hr t ht
    have hls : ((0 :: xr) :: rest).length = s + 1 := by simpa using hlen
    show t < ((0 :: xr) :: rest).length
    rw [hls]
    rcases List.mem_cons.mp hr with rfl | hr
    · rcases List.mem_cons.mp ht with rfl | ht
      · omega
      · exact (hrs (x0 :: xr) List.mem_cons_self).2 t (List.mem_cons_of_mem _ ht)
    · exact (hrs r (List.mem_cons_of_mem _ hr)).2 t ht
  have lo : D.lo h0.length (Mc.d ⟨b, (0 :: xr) :: rest, ls⟩) = true := by
    have key : ∀ rs : List (List Nat), D.los h0.length (rD' rs) = true := fun rs => by
      induction rs with
      | nil => rfl
      | cons r rs ih => simp only [rD', List.map_cons, los_cons, lo_tup, los_nI, Bool.true_and]; exact ih
    simp only [Mc.d, lo_tup, los_cons, lo_int, key, los_nI, los_nil, Bool.and_self]
  have gg := gc_set (h := h0) (k := k) (g := [.lst (rD' ((0 :: xr) :: rest))]) (t5.los (m := h0.length)) lo
  have sd := sl_drop1 (x := .int (x0 : Int)) (xs := nI xr)
  simp only [Mc.d] at gg ⊢
  have qo : ∀ y, qs (.ok (.v (.ob h0.length), h0.set k (.lst y) ++ [Ob.lst (rD' ((0 :: xr) :: rest))])) = .ok (.l (some h0.length) (rD' ((0 :: xr) :: rest)), h0.set k (.lst y) ++ [Ob.lst (rD' ((0 :: xr) :: rest))]) := fun y => qs_ob (by rw [List.getElem?_append_right (by simp)]; simp)
  simp [-Int.natCast_add, b__law_machine_in, q1, c1, e, i0, sd, bt, sx, q4, c2, qo, q5, gg]
end
end Mp
set_option maxHeartbeats 4000000
namespace Mp
/-! ### sums -/
def sumr (f : Nat → Int) (a n : Nat) : Int := ((List.range n).map fun i => f (a + i)).sum
theorem sumr_zero {f : Nat → Int} {a : Nat} : sumr f a 0 = 0 := rfl
theorem sumr_succ {f : Nat → Int} {a n : Nat} : sumr f a (n + 1) = sumr f a n + f (a + n) := by
  unfold sumr
  rw [List.range_succ, List.map_append, List.sum_append]
  simp
theorem sumr_add {f : Nat → Int} {a n : Nat} : ∀ {k : Nat}, sumr f a (n + k) = sumr f a n + sumr f (a + n) k
  | 0 => by simp [sumr_zero]
  | k + 1 => by
    rw [← Nat.add_assoc, sumr_succ, sumr_add (k := k), sumr_succ, Nat.add_assoc a n k]
    omega
theorem sumr_mul {f : Nat → Int} {a n : Nat} : ∀ {c : Nat}, ((List.range c).map fun d => sumr f (a + d * n) n).sum = sumr f a (c * n)
  | 0 => by simp [sumr_zero]
  | c + 1 => by
    rw [List.range_succ, List.map_append, List.sum_append, sumr_mul (c := c), Nat.succ_mul, sumr_add]
    simp
theorem map_sum_congr {f g : Nat → Int} {l : List Nat} (h : ∀ x ∈ l, f x = g x) : (l.map f).sum = (l.map g).sum := by
  rw [List.map_congr_left h]
/-- a table of steps in which 0 leads from the start to the start -/
structure Mc.okz (m : Mc) : Prop where
  b2 : 2 ≤ m.b
  w : m.okw
  z : m.st 0 0 = 0
theorem Mc.okz.b3 {m : Mc} (o : m.okz) : m.b ≤ 3 := o.w.b3
theorem Mc.okz.r1 {m : Mc} (o : m.okz) : 1 ≤ m.rows.length := o.w.r1
theorem Mc.okz.row {m : Mc} (o : m.okz) {s : Nat} (hs : s < m.rows.length) : (m.rw s).length = m.b ∧ ∀ t ∈ m.rw s, t < m.rows.length := o.w.row hs
theorem Mc.okz.st {m : Mc} (o : m.okz) {s d : Nat} (hs : s < m.rows.length) (hd : d < m.b) : m.st s d < m.rows.length := o.w.st hs hd
theorem Mc.okz.go {m : Mc} (o : m.okz) : ∀ {ds : List Nat} {s : Nat}, s < m.rows.length → (∀ d ∈ ds, d < m.b) → m.go s ds < m.rows.length
  | [], s, h, _ => h
  | d :: ds, s, h, hd => Mc.okz.go (m := m) o (ds := ds) (s := m.st s d) (o.st h (hd d List.mem_cons_self)) fun e he => hd e (List.mem_cons_of_mem _ he)
theorem Mc.ok.okz {m : Mc} (o : m.ok) : m.okz := ⟨o.b2, o.w, by obtain ⟨r, rs, h⟩ := o.z; simp [Mc.st, Mc.rw, gn, h]⟩
instance {m : Mc} : Coe m.ok m.okz := ⟨fun o => o.okz⟩
section
variable {m : Mc}
theorem go_app : ∀ (xs ys : List Nat) (s : Nat), m.go s (xs ++ ys) = m.go (m.go s xs) ys
  | [], ys, s => rfl
  | x :: xs, ys, s => go_app xs ys (m.st s x)
theorem rw_map (o : m.okz) {s : Nat} (hs : s < m.rows.length) : m.rw s = (List.range m.b).map (m.st s) := by
  apply List.ext_getElem
  · simp [(o.row hs).1]
  · intro i h1 h2
    simp [Mc.st, gn, h1]
theorem rw_take (o : m.okz) {s d : Nat} (hs : s < m.rows.length) (hd : d ≤ m.b) : (m.rw s).take d = (List.range d).map (m.st s) := by
  rw [rw_map o hs, ← List.map_take, List.take_range, Nat.min_eq_left hd]
/-- the state of a number -/
def Mc.sn (m : Mc) (N : Nat) : Nat := m.go 0 (dgz m.b N)
theorem sn_zero : m.sn 0 = 0 := by
  unfold Mc.sn
  rw [show dgz m.b 0 = [] from digs_zero]; rfl
theorem st_zero (o : m.okz) : m.st 0 0 = 0 := o.z
theorem sn_lt (o : m.okz) (N : Nat) : m.sn N < m.rows.length := o.go (by have := o.r1; omega) (dgz_lt o.b2)
theorem sn_step (o : m.okz) {N : Nat} (h : N < 2 ^ 70) : m.sn N = m.st (m.sn (N / m.b)) (N % m.b) := by
  by_cases c : N = 0
  · subst c
    rw [Nat.zero_div, Nat.zero_mod, sn_zero, st_zero o]
  · unfold Mc.sn
    rw [dgz_step o.b2 h c, go_app]
    rfl
theorem sn_more (o : m.okz) {v d : Nat} (hd : d < m.b) (h : v * m.b + d < 2 ^ 70) : m.sn (v * m.b + d) = m.st (m.sn v) d := by
  have hb := o.b2
  rw [sn_step o h]
  have e1 : (v * m.b + d) / m.b = v := by rw [Nat.mul_comm, Nat.mul_add_div (by omega), Nat.div_eq_of_lt hd]; rfl
  have e2 : (v * m.b + d) % m.b = d := by rw [Nat.mul_comm, Nat.mul_add_mod, Nat.mod_eq_of_lt hd]
  rw [e1, e2]
/-- the number of a row of digits -/
def v0 (b : Nat) : List Nat → Nat
  | [] => 0
  | d :: ds => d * b ^ ds.length + v0 b ds
theorem v0_lt {b : Nat} (hb : 1 ≤ b) : ∀ {ds : List Nat}, (∀ d ∈ ds, d < b) → v0 b ds < b ^ ds.length
  | [], _ => by simp [v0]
  | d :: ds, h => by
    have h1 := v0_lt hb (ds := ds) fun e he => h e (List.mem_cons_of_mem _ he)
    have h2 := h d List.mem_cons_self
    show d * b ^ ds.length + v0 b ds < b ^ (ds.length + 1)
    rw [Nat.pow_succ, Nat.mul_comm _ b]
    have : (d + 1) * b ^ ds.length ≤ b * b ^ ds.length := Nat.mul_le_mul_right _ h2
    rw [Nat.succ_mul] at this
    omega
theorem v0_app {b : Nat} : ∀ (xs : List Nat) (d : Nat), v0 b (xs ++ [d]) = v0 b xs * b + d
  | [], d => by simp [v0]
  | x :: xs, d => by
    show x * b ^ (xs ++ [d]).length + v0 b (xs ++ [d]) = (x * b ^ xs.length + v0 b xs) * b + d
    rw [v0_app xs d, List.length_append, List.length_singleton, Nat.pow_succ, Nat.add_mul, Nat.mul_assoc]
    omega
theorem v0_dgz {b : Nat} (hb : 2 ≤ b) {N : Nat} (h : N < 2 ^ 70) : v0 b (dgz b N) = N := by
  have key : ∀ k n, n < 2 ^ k → v0 b (digs b k n) = n := by
    intro k
    induction k with
    | zero => intro n h; have : n = 0 := by simpa using h
              subst this; rfl
    | succ k ih =>
      intro n h
      unfold digs
      split
      · rename_i h0; subst h0; rfl
      · rw [v0_app, ih (n / b) (Nat.div_lt_of_lt_mul (Nat.lt_of_lt_of_le h (by rw [Nat.pow_succ]; exact Nat.mul_comm b _ ▸ Nat.mul_le_mul_left _ hb))), Nat.mul_comm]
        exact Nat.div_add_mod n b
  exact key 70 N h
theorem go_sn (o : m.okz) : ∀ {ds : List Nat} {v : Nat}, (∀ d ∈ ds, d < m.b) → v * m.b ^ ds.length + v0 m.b ds < 2 ^ 70 → m.go (m.sn v) ds = m.sn (v * m.b ^ ds.length + v0 m.b ds)
  | [], v, _, _ => by simp [Mc.go, v0]
  | d :: ds, v, hd, h => by
    have hb := o.b2
    have h0 := hd d List.mem_cons_self
    have e : v * m.b ^ (d :: ds).length + v0 m.b (d :: ds) = (v * m.b + d) * m.b ^ ds.length + v0 m.b ds := by
      show v * m.b ^ (ds.length + 1) + (d * m.b ^ ds.length + v0 m.b ds) = _
      rw [Nat.add_mul, Nat.pow_succ, Nat.mul_assoc, Nat.mul_comm m.b (m.b ^ ds.length)]
      omega
    rw [e] at h ⊢
    have hp : 1 ≤ m.b ^ ds.length := Nat.pow_pos (by omega)
    have hv : v * m.b + d < 2 ^ 70 := by
      have : (v * m.b + d) * 1 ≤ (v * m.b + d) * m.b ^ ds.length := Nat.mul_le_mul_left _ hp
      omega
    show m.go (m.st (m.sn v) d) ds = _
    rw [← sn_more o h0 hv]
    exact go_sn o (fun e he => hd e (List.mem_cons_of_mem _ he)) h
theorem T_sum (o : m.okz) {wt : Nat → Int} : ∀ {e v : Nat}, (v + 1) * m.b ^ e ≤ 2 ^ 70 → m.T wt e (m.sn v) = sumr (fun n => wt (m.sn n)) (v * m.b ^ e) (m.b ^ e)
  | 0, v, _ => by simp [Mc.T, sumr]
  | e + 1, v, h => by
    have hb := o.b2
    show ((m.rw (m.sn v)).map (m.T wt e)).sum = _
    rw [rw_map o (sn_lt o v), List.map_map]
    have e1 : m.b ^ (e + 1) = m.b * m.b ^ e := by rw [Nat.pow_succ, Nat.mul_comm]
    rw [e1] at h ⊢
    rw [show v * (m.b * m.b ^ e) = v * m.b * m.b ^ e by rw [Nat.mul_assoc], ← sumr_mul]
    refine map_sum_congr fun d hd => ?_
    have hd := List.mem_range.mp hd
    have hp : 1 ≤ m.b ^ e := Nat.pow_pos (by omega)
    have hle : (v * m.b + d + 1) * m.b ^ e ≤ 2 ^ 70 := by
      refine Nat.le_trans ?_ h
      rw [← Nat.mul_assoc]
      refine Nat.mul_le_mul_right _ ?_
      rw [Nat.add_mul]
      omega
    have hv : v * m.b + d < 2 ^ 70 := by
      have : (v * m.b + d + 1) * 1 ≤ (v * m.b + d + 1) * m.b ^ e := Nat.mul_le_mul_left _ hp
      omega
    show m.T wt e (m.st (m.sn v) d) = _
    rw [← sn_more o hd hv, T_sum o hle, Nat.add_mul]
theorem ps_sum (o : m.okz) {wt : Nat → Int} : ∀ {ds : List Nat} {v : Nat}, (∀ d ∈ ds, d < m.b) → (v + 1) * m.b ^ ds.length ≤ 2 ^ 70 → m.ps wt (m.sn v) ds = sumr (fun n => wt (m.sn n)) (v * m.b ^ ds.length) (v0 m.b ds)
  | [], v, _, _ => by simp [Mc.ps, v0, sumr]
  | d :: ds, v, hd, h => by
    have hb := o.b2
    have h0 := hd d List.mem_cons_self
    have hp : 1 ≤ m.b ^ ds.length := Nat.pow_pos (by omega)
    have e1 : m.b ^ (d :: ds).length = m.b * m.b ^ ds.length := by rw [List.length_cons, Nat.pow_succ, Nat.mul_comm]
    rw [e1] at h ⊢
    have hle : ∀ d, d < m.b → (v * m.b + d + 1) * m.b ^ ds.length ≤ 2 ^ 70 := fun d hd => by
      refine Nat.le_trans ?_ h
      rw [← Nat.mul_assoc]
      refine Nat.mul_le_mul_right _ ?_
      rw [Nat.add_mul]
      omega
    have hv : ∀ d, d < m.b → v * m.b + d < 2 ^ 70 := fun d hd => by
      have := hle d hd
      have : (v * m.b + d + 1) * 1 ≤ (v * m.b + d + 1) * m.b ^ ds.length := Nat.mul_le_mul_left _ hp
      omega
    show (((m.rw (m.sn v)).take d).map (m.T wt ds.length)).sum + m.ps wt (m.st (m.sn v) d) ds = sumr _ _ (d * m.b ^ ds.length + v0 m.b ds)
    rw [← sn_more o h0 (hv d h0), ps_sum o (fun e he => hd e (List.mem_cons_of_mem _ he)) (hle d h0), rw_take o (sn_lt o v) (Nat.le_of_lt h0), List.map_map, sumr_add, ← sumr_mul]
    rw [show v * (m.b * m.b ^ ds.length) = v * m.b * m.b ^ ds.length by rw [Nat.mul_assoc], Nat.add_mul]
    congr 1
    refine map_sum_congr fun d' hd' => ?_
    have hd' := List.mem_range.mp hd'
    show m.T wt ds.length (m.st (m.sn v) d') = _
    rw [← sn_more o (by omega) (hv d' (by omega)), T_sum o (hle d' (by omega)), Nat.add_mul]
theorem dgz_pow {b N : Nat} (hb : 2 ≤ b) (h : N < 2 ^ 70) (h0 : N ≠ 0) : b ^ (dgz b N).length ≤ b * N := by
  have key : ∀ k n, n < 2 ^ k → n ≠ 0 → b ^ (digs b k n).length ≤ b * n := by
    intro k
    induction k with
    | zero => intro n h h0; exact absurd (by simpa using h) h0
    | succ k ih =>
      intro n h h0
      have hlt : n / b < 2 ^ k := Nat.div_lt_of_lt_mul (Nat.lt_of_lt_of_le h (by rw [Nat.pow_succ]; exact Nat.mul_comm b _ ▸ Nat.mul_le_mul_left _ hb))
      simp only [digs, if_neg h0, List.length_append, List.length_singleton, Nat.pow_succ]
      rw [Nat.mul_comm]
      refine Nat.mul_le_mul_left _ ?_
      by_cases c : n / b = 0
      · rw [c, digs_zero]
        simp; omega
      · exact Nat.le_trans (ih _ hlt c) (Nat.mul_div_le n b)
  exact key 70 N h h0
/-- the surplus -/
theorem ps_all (o : m.okz) {wt : Nat → Int} {N : Nat} (hN : N < 2 ^ 60) : m.ps wt 0 (dgz m.b N) = sumr (fun n => wt (m.sn n)) 0 N := by
  have hb := o.b2
  have hb3 := o.b3
  have h70 : N < 2 ^ 70 := Nat.lt_of_lt_of_le hN (Nat.pow_le_pow_right (by decide) (by decide))
  have := ps_sum o (wt := wt) (ds := dgz m.b N) (v := 0) (dgz_lt o.b2) (by
    rw [Nat.zero_add, Nat.one_mul]
    by_cases c : N = 0
    · subst c
      rw [show dgz m.b 0 = [] from digs_zero]
      exact Nat.one_le_two_pow
    · refine Nat.le_trans (dgz_pow o.b2 h70 c) ?_
      have : m.b * N ≤ 3 * 2 ^ 60 := Nat.mul_le_mul hb3 (Nat.le_of_lt hN)
      exact Nat.le_trans this (by decide))
  rw [sn_zero, Nat.zero_mul, v0_dgz o.b2 h70] at this
  exact this
/-! ### linearity -/
theorem T_lin (o : m.okz) {wt wa wb : Nat → Int} {a b : Int} (h : ∀ s, s < m.rows.length → wt s = a * wa s + b * wb s) : ∀ {e s : Nat}, s < m.rows.length → m.T wt e s = a * m.T wa e s + b * m.T wb e s
  | 0, s, hs => h s hs
  | e + 1, s, hs => by
    show ((m.rw s).map (m.T wt e)).sum = a * ((m.rw s).map (m.T wa e)).sum + b * ((m.rw s).map (m.T wb e)).sum
    have key : ∀ l : List Nat, (∀ t ∈ l, t < m.rows.length) → (l.map (m.T wt e)).sum = a * (l.map (m.T wa e)).sum + b * (l.map (m.T wb e)).sum := by
      intro l
      induction l with
      | nil => intro _; simp
      | cons t l ih =>
        intro hl
        rw [List.map_cons, List.map_cons, List.map_cons, List.sum_cons, List.sum_cons, List.sum_cons, ih fun x hx => hl x (List.mem_cons_of_mem _ hx), T_lin o h (hl t List.mem_cons_self), Int.mul_add, Int.mul_add]
        omega
    exact key _ (o.row hs).2
theorem T_nonneg (o : m.okz) {wt : Nat → Int} (h : ∀ s, s < m.rows.length → 0 ≤ wt s) : ∀ {e s : Nat}, s < m.rows.length → 0 ≤ m.T wt e s
  | 0, s, hs => h s hs
  | e + 1, s, hs => by
    show 0 ≤ ((m.rw s).map (m.T wt e)).sum
    have key : ∀ l : List Nat, (∀ t ∈ l, t < m.rows.length) → 0 ≤ (l.map (m.T wt e)).sum := by
      intro l
      induction l with
      | nil => intro _; simp
      | cons t l ih =>
        intro hl
        have := ih fun x hx => hl x (List.mem_cons_of_mem _ hx)
        have := T_nonneg o h (e := e) (hl t List.mem_cons_self)
        rw [List.map_cons, List.sum_cons]
        omega
    exact key _ (o.row hs).2
end
end Mp
set_option maxHeartbeats 4000000
namespace Mp
def b__law_machine (x__law_draw x__law_machine_in : Nat) : Df := ⟨3, 4, [
  (.asg (.nm 3) (.bin .add (.c (.int (2))) (.call x__law_draw [(.v 0), (.v 1), (.c (.int (2)))]))),
  (.ret (.call x__law_machine_in [(.v 0), (.v 1), (.v 2), (.v 3)]))]⟩
section
variable {P : Pg} {ns : List Int} {h0 : Hd} {k : Nat}
theorem Base.set (b : Base ns h0 k) (ys : List D) : Base ns (h0.set k (.lst ys)) k := ⟨b.n63, by rw [List.getElem?_set_ne b.k0]; exact b.s0, b.k0, by rw [List.length_set]; exact b.kl⟩
theorem Base.self (bs : Base ns h0 k) {ys : List D} (e0 : h0[k]? = some (.lst ys)) : h0 = h0.set k (.lst ys) := by
  apply List.ext_getElem?
  intro i
  by_cases c : k = i
  · subst c; rw [List.getElem?_set_self bs.kl, e0]
  · rw [List.getElem?_set_ne c]
theorem Mc.lo (m : Mc) {n : Nat} : D.lo n m.d = true := by
  have key : ∀ rs : List (List Nat), D.los n (rD' rs) = true := fun rs => by
    induction rs with
    | nil => rfl
    | cons r rs ih => simp only [rD', List.map_cons, los_cons, lo_tup, los_nI, Bool.true_and]; exact ih
  simp only [Mc.d, lo_tup, los_cons, lo_int, key, los_nI, los_nil, Bool.and_self]
theorem machine_ok {f fd fi : Nat} (hf : P.df f = some (b__law_machine fd fi)) (hd : P.df fd = some b__law_draw) (hi : P.df fi = some (b__law_machine_in fd)) (n : Nat) (bs : Base ns h0 k) {B most : Nat} {ys : List D} (t : Twn ns.length B ys) (hB : B ≤ 900) (hm1 : 1 ≤ most) (hm : most ≤ 4) (e0 : h0[k]? = some (.lst ys)) :
    ∃ (m : Mc) (zs : List D), m.ok ∧ m.rows.length ≤ most ∧ Twn ns.length (B + 60) zs ∧ callF P (n + 3) f [.ob 0, .ob k, .int (most : Int)] h0 = .ok (m.d, h0.set k (.lst zs)) := by
  rw [callF_at hf rfl]
  obtain ⟨r, zs, hr, t1, e1⟩ := law_draw_ok hd (n + 1) bs.n63 bs.s0 e0 t (by omega) (lim := 2) (by omega) (by omega)
  rw [show ((2 : Nat) : Int) = 2 from rfl] at e1
  have c : (2 : Int) + (r : Int) = ((r + 2 : Nat) : Int) := by omega
  obtain ⟨m, z2, o, hb, hl, t2, e2⟩ := machine_in_ok hi hd n (bs.set zs) t1 (by omega) hm1 hm (b := r + 2) (by omega) (by omega) (List.getElem?_set_self bs.kl)
  rw [List.set_set] at e2
  refine ⟨m, z2, o, hl, t2.mono (by omega), ?_⟩
  have g := gc_set (h := h0) (k := k) (g := []) (t2.los (m := h0.length)) m.lo
  rw [List.append_nil] at g
  simp [-Int.natCast_add, b__law_machine, e1, c, e2, g]
end
def b__law_digits : Df := ⟨2, 3, [
  (.asg (.nm 2) (.lst [])),
  (.whl (.cmp .gt (.v 1) (.c (.int (0)))) [(.ex (.m1 .append (.v 2) (.bin .mod (.v 1) (.v 0)))), (.asg (.nm 1) (.bin .fdiv (.v 1) (.v 0)))]),
  (.ret (.rv (.v 2)))]⟩
theorem law_digits_ok {P : Pg} {f : Nat} (hf : P.df f = some b__law_digits) (hfu : 100 ≤ P.fuel) (n : Nat) {b N : Nat} (hb : 2 ≤ b) (hb3 : b ≤ 3) (hN : N < 2 ^ 70) (h : Hd) : callF P (n + 1) f [.int (b : Int), .int (N : Int)] h = .ok (.ob h.length, h ++ [.lst (nI (dgz b N))]) := by
  rw [callF_at hf rfl]
  obtain ⟨σ', h', e, N', fd, rfl, rfl, hl, hd, hv⟩ := ev_whl (C := P.cl n) (c := .cmp .gt (.v 1) (.c (.int (0)))) (b := [(.ex (.m1 .append (.v 2) (.bin .mod (.v 1) (.v 0)))), (.asg (.nm 1) (.bin .fdiv (.v 1) (.v 0)))])
    (σ := [some (.int (b : Int)), some (.int (N : Int)), some (.ob h.length)]) (h := h ++ [.lst []])
    (fun k σ h' => ∃ (N' : Nat) (fd : List Nat), σ = [some (.int (b : Int)), some (.int (N' : Int)), some (.ob h.length)] ∧ h' = h ++ [.lst (nI fd)] ∧ N' < 2 ^ k ∧ (fd.length + k = 70 ∨ (N' = 0 ∧ fd.length ≤ 70)) ∧ dgz b N = dgz b N' ++ fd.reverse)
    (fun k σ h' ⟨N', fd, es, eh, hl, hd, hv⟩ => by
      subst es; subst eh
      by_cases c : N' = 0
      · subst c
        exact .inl ⟨_, by simp, 0, fd, rfl, rfl, by simp, .inr ⟨rfl, by rcases hd with hd | hd <;> omega⟩, hv⟩
      · refine .inr ?_
        cases k with
        | zero => exact absurd (by simpa using hl) c
        | succ k =>
          have hpos : 0 < N' := Nat.pos_of_ne_zero c
          have hfl : fd.length + (k + 1) = 70 := by rcases hd with hd | hd <;> omega
          have e1 : (h ++ [Ob.lst (nI fd)])[h.length]? = some (.lst (nI fd)) := by simp
          refine ⟨k, _, [some (.int (b : Int)), some (.int ((N' / b : Nat) : Int)), some (.ob h.length)], h ++ [.lst (nI (fd ++ [N' % b]))], rfl, by simp [hpos]; rfl, .inl ?_, N' / b, fd ++ [N' % b], rfl, rfl, ?_, .inl (by simp; omega), ?_⟩
          · have d1 := bin_mod (i := (N' : Int)) (j := (b : Int)) (h := h ++ [Ob.lst (nI fd)]) (by omega)
            rw [← Int.natCast_emod] at d1
            have d2 := bin_fdivS (i := (N' : Int)) (j := (b : Int)) (h := h ++ [.lst (nI (fd ++ [N' % b]))]) (by omega) (by omega)
            rw [← Int.natCast_ediv] at d2
            have ap := append_ob (d := .int ((N' % b : Nat) : Int)) e1 (lt_sizeL (by rw [nI_len]; omega))
            have e2 : (h ++ [Ob.lst (nI fd)]).set h.length (.lst (nI fd ++ [.int ((N' % b : Nat) : Int)])) = h ++ [.lst (nI (fd ++ [N' % b]))] := by
              rw [List.set_append_right _ _ (Nat.le_refl _)]
              simp [nI]
            rw [e2] at ap
            simp only [evSs_cons, evS_ex, evR_append, evR_bin, evR_v, getV_s, getV_z, R.ok_bind, vl_v, rcv_append e1, d1, rv_ok, ap, thenF_ok, F.seq_nx, evS_asg, d2, asgF_eq, evSs_nil]
            rfl
          · exact Nat.div_lt_of_lt_mul (Nat.lt_of_lt_of_le hl (by rw [Nat.pow_succ]; exact Nat.mul_comm b _ ▸ Nat.mul_le_mul_left _ hb))
          · have hlt : N' < 2 ^ 70 := Nat.lt_of_lt_of_le hl (Nat.pow_le_pow_right (by decide) (by omega))
            rw [hv, dgz_step hb hlt c]
            simp)
    (n := 70) ⟨N, [], rfl, rfl, hN, .inl rfl, by simp⟩ (by show 70 < P.fuel; omega)
  have hN0 : N' = 0 := by simpa using hl
  subst hN0
  have e0 : dgz b 0 = [] := digs_zero
  rw [e0, List.nil_append] at hv
  have e1 : (h ++ [Ob.lst (nI fd)])[h.length]? = some (.lst (nI fd)) := by simp
  have er : (nI fd).reverse = nI (dgz b N) := by rw [hv]; simp [nI]
  have g := gc_lst (h := h) (g := [.lst (nI fd), .lst (nI (dgz b N))]) (k := h.length + 1) (xs := nI (dgz b N)) (by omega) (by simp) (los_nI _)
  simp [b__law_digits, e, rvD_ob e1, er, g]
def b__law_state : Df := ⟨2, 4, [
  (.asg (.nm 2) (.c (.int (0)))),
  (.for_ (.nm 3) (.sq (.v 1)) [(.asg (.nm 2) (.ix (.ix (.ix (.v 0) (.c (.int (1)))) (.v 2)) (.v 3)))]),
  (.ret (.v 2))]⟩
theorem law_state_ok {P : Pg} {f : Nat} (hf : P.df f = some b__law_state) (n : Nat) {m : Mc} (o : m.ok) {k : Nat} {ds : List Nat} (hd : ∀ d ∈ ds, d < m.b) (h : Hd) (hk : h[k]? = some (.lst (nI ds))) :
    callF P (n + 1) f [m.d, .ob k] h = .ok (.int ((m.go 0 ds : Nat) : Int), h) := by
  rw [callF_at hf rfl]
  obtain ⟨σ', h', e, rfl, s', x, rfl, eg⟩ := ev_for (C := P.cl n) (t := .nm 3) (it := .sq (.v 1)) (b := [(.asg (.nm 2) (.ix (.ix (.ix (.v 0) (.c (.int (1)))) (.v 2)) (.v 3)))]) (σ := [some m.d, some (.ob k), some (.int 0), none]) (h := h) (h1 := h) (q := .l (some k) (nI ds)) (l := ds) (φ := fun (x : Nat) => .int (x : Int))
    (fun ds' σ h' => h' = h ∧ ∃ s' x, σ = [some m.d, some (.ob k), some (.int ((s' : Nat) : Int)), x] ∧ s' < m.rows.length ∧ (∀ d ∈ ds', d < m.b) ∧ m.go s' ds' = m.go 0 ds) (by simp [qs_ob hk, nI])
    (fun d ds' σ h' ⟨eh, s', y, es, hs', hd', eg⟩ => by
      subst eh
      subst es
      have hd0 := hd' d List.mem_cons_self
      refine ⟨[some m.d, some (.ob k), some (.int (s' : Int)), some (.int (d : Int))], [some m.d, some (.ob k), some (.int ((m.st s' d : Nat) : Int)), some (.int (d : Int))], h', by simp, .inl ?_, by simp [still, hk], rfl, m.st s' d, _, rfl, o.st hs' hd0, fun e he => hd' e (List.mem_cons_of_mem _ he), eg⟩
      simp [Mc.ix1, row_ix hs', nI_ix (by rw [(o.row hs').1]; exact hd0), Mc.st])
    ⟨rfl, 0, none, rfl, by have := o.r1; omega, hd, rfl⟩
  simp [b__law_state, e]
  exact congrArg _ eg.2.2
def b__law_at (x__law_state x__law_digits : Nat) : Df := ⟨2, 2, [
  (.ret (.ix (.ix (.v 0) (.c (.int (2)))) (.call x__law_state [(.v 0), (.call x__law_digits [(.ix (.v 0) (.c (.int (0)))), (.v 1)])])))]⟩
theorem law_at_ok {P : Pg} {f fs fd : Nat} (hf : P.df f = some (b__law_at fs fd)) (hs : P.df fs = some b__law_state) (hd : P.df fd = some b__law_digits) (hfu : 100 ≤ P.fuel) (n : Nat) {m : Mc} (o : m.ok) {N : Nat} (hN : N < 2 ^ 70) (h : Hd) :
    callF P (n + 2) f [m.d, .int (N : Int)] h = .ok (.int ((gn m.lets (m.sn N) : Nat) : Int), h) := by
  rw [callF_at hf rfl]
  have e1 := law_digits_ok hd hfu n o.b2 o.b3 hN h
  have e2 := law_state_ok hs n o (k := h.length) (ds := dgz m.b N) (dgz_lt o.b2) (h ++ [.lst (nI (dgz m.b N))]) (by simp)
  have e3 := nI_ix (xs := m.lets) (d := m.go 0 (dgz m.b N)) (by rw [o.ll]; exact sn_lt o N) (h ++ [.lst (nI (dgz m.b N))])
  simp [b__law_at, Mc.ix0, Mc.ix2, e1, e2, e3]
  rfl
end Mp
set_option maxHeartbeats 4000000
namespace Mp
section
variable {α : Type} {C : Cl}
/-- a loop that may return -/
theorem ev_forE {t : T} {it : I} {b : List S} {σ : Sl} {h h1 : Hd} {q : Sq} {l : List α} {φ : α → D} (I : List α → Sl → Hd → Prop) (E : List α → D → Hd → Prop) (hi : evI C it σ h = .ok ((q, l.map φ), h1))
    (f : ∀ a l σ h, I (a :: l) σ h → ∃ σ1, asgT t (φ a) σ = some σ1 ∧ ((∃ σ2 h2, (evSs C b σ1 h = .nx σ2 h2 ∨ evSs C b σ1 h = .ct σ2 h2) ∧ still h2 q = true ∧ I l σ2 h2) ∨ ∃ v h2, evSs C b σ1 h = .rt v h2 ∧ E (a :: l) v h2)) (i0 : I l σ h1) (hq : ∀ f, openF q f = f := by intro; rfl) :
    (∃ σ' h', evS C (.for_ t it b) σ h = .nx σ' h' ∧ I [] σ' h') ∨ ∃ a l' v h', evS C (.for_ t it b) σ h = .rt v h' ∧ E (a :: l') v h' := by
  have key : ∀ (l : List α) (σ : Sl) (h1 : Hd), I l σ h1 → (∃ σ' h', forF (fun h => still h q) t (fun σ h => evSs C b σ h) (l.map φ) σ h1 = .nx σ' h' ∧ I [] σ' h') ∨ ∃ a l' v h', forF (fun h => still h q) t (fun σ h => evSs C b σ h) (l.map φ) σ h1 = .rt v h' ∧ E (a :: l') v h' := by
    intro l
    induction l with
    | nil => exact fun σ h1 i => .inl ⟨σ, h1, rfl, i⟩
    | cons a l ih =>
      intro σ h1 i1
      obtain ⟨σ1, e1, ⟨σ2, h2, e2, o2, i2⟩ | ⟨v, h2, e2, i2⟩⟩ := f a l σ h1 i1
      · rcases ih σ2 h2 i2 with ⟨σ', h', e, i3⟩ | ⟨a', l', v, h', e, i3⟩
        · refine .inl ⟨σ', h', ?_, i3⟩
          rw [List.map_cons, forF, e1]
          rcases e2 with e2 | e2 <;> simp only [e2, o2, if_true, e]
        · refine .inr ⟨a', l', v, h', ?_, i3⟩
          rw [List.map_cons, forF, e1]
          rcases e2 with e2 | e2 <;> simp only [e2, o2, if_true, e]
      · refine .inr ⟨a, l, v, h2, ?_, i2⟩
        rw [List.map_cons, forF, e1]
        simp only [e2]
  have fin : evS C (.for_ t it b) σ h = forF (fun h => still h q) t (fun σ h => evSs C b σ h) (l.map φ) σ h1 := by
    show thenF σ (evI C it σ h) (fun w => openF w.1.1 (forF (fun h => still h w.1.1) t (fun σ h => evSs C b σ h) w.1.2 σ w.2)) = _
    rw [hi]
    show openF q _ = _
    rw [hq]
  rw [fin]
  exact key l σ h1 i0
/-- .. that looks at each item, the heap as it is -/
theorem ev_forT {i : Nat} {it : I} {b : List S} {σ : Sl} {h h1 : Hd} {q : Sq} {l : List α} {φ : α → D} {p : α → Bool} {v : D} (hi : evI C it σ h = .ok ((q, l.map φ), h1)) (hn : i < σ.length)
    (f : ∀ a ∈ l, evSs C b (σ.set i (some (φ a))) h1 = if p a then .nx (σ.set i (some (φ a))) h1 else .rt v h1) (ho : still h1 q = true := by rfl) (hq : ∀ f, openF q f = f := by intro; rfl) :
    (l.all p = true ∧ ∃ x, evS C (.for_ (.nm i) it b) σ h = .nx (σ.set i x) h1) ∨ (l.all p = false ∧ evS C (.for_ (.nm i) it b) σ h = .rt v h1) := by
  have key : ∀ (l' : List α) (x : Option D), (∀ a ∈ l', a ∈ l) → (l'.all p = true ∧ ∃ y, forF (fun h => still h q) (.nm i) (fun σ h => evSs C b σ h) (l'.map φ) (σ.set i x) h1 = .nx (σ.set i y) h1) ∨ (l'.all p = false ∧ forF (fun h => still h q) (.nm i) (fun σ h => evSs C b σ h) (l'.map φ) (σ.set i x) h1 = .rt v h1) := by
    intro l'
    induction l' with
    | nil => exact fun x _ => .inl ⟨rfl, x, rfl⟩
    | cons a l' ih =>
      intro x hx
      have e := f a (hx a List.mem_cons_self)
      have e1 : asgT (.nm i) (φ a) (σ.set i x) = some (σ.set i (some (φ a))) := by simp [hn]
      cases c : p a with
      | true =>
        rw [c, if_pos rfl] at e
        rcases ih (some (φ a)) fun b hb => hx b (List.mem_cons_of_mem _ hb) with ⟨c2, y, r⟩ | ⟨c2, r⟩
        · exact .inl ⟨by simp [c] at c2 ⊢; exact c2, y, by rw [List.map_cons, forF, e1]; simp only [e, ho, if_true, r]⟩
        · exact .inr ⟨by simp [c] at c2 ⊢; exact c2, by rw [List.map_cons, forF, e1]; simp only [e, ho, if_true, r]⟩
      | false =>
        rw [c, if_neg (by decide)] at e
        exact .inr ⟨by simp [c], by rw [List.map_cons, forF, e1]; simp only [e]⟩
  have fin : evS C (.for_ (.nm i) it b) σ h = forF (fun h => still h q) (.nm i) (fun σ h => evSs C b σ h) (l.map φ) σ h1 := by
    show thenF σ (evI C it σ h) (fun w => openF w.1.1 (forF (fun h => still h w.1.1) (.nm i) (fun σ h => evSs C b σ h) w.1.2 σ w.2)) = _
    rw [hi]
    show openF q _ = _
    rw [hq]
  rw [fin]
  have es : σ = σ.set i σ[i] := by simp
  have k := key l (σ[i]) fun a ha => ha
  rw [← es] at k
  exact k
end
/-! ### is_machine, of whole numbers -/
def iI (xs : List Int) : List D := xs.map .int
def rI (rows : List (List Int)) : List D := rows.map fun r => .tup (iI r)
def fD (a : Int) (rows : List (List Int)) (lets : List Int) : D := .tup [.int a, .tup (rI rows), .tup (iI lets)]
theorem iI_len {xs : List Int} : (iI xs).length = xs.length := by simp [iI]
theorem rI_len {xs : List (List Int)} : (rI xs).length = xs.length := by simp [rI]
def rowOk (a n : Int) (r : List Int) : Bool := decide ((r.length : Int) = a) && r.all fun t => decide (0 ≤ t) && decide (t ≤ n - 1)
def z00 : List (List Int) → Bool
  | (x :: _) :: _ => decide (x = 0)
  | _ => false
def isM (a : Int) (rows : List (List Int)) (lets : List Int) : Bool :=
  (decide (2 ≤ a) && decide (a ≤ 3)) && ((decide (1 ≤ rows.length) && decide (rows.length ≤ 4)) && (rows.all (rowOk a rows.length) && (decide (lets.length = rows.length) && (z00 rows && lets.all fun l => decide (0 ≤ l) && decide (l ≤ 2)))))
theorem is_machine_all {P : Pg} {f f0 : Nat} (hf : P.df f = some (b_is_machine f0)) (hf0 : P.df f0 = some b_is_between) (n : Nat) (a : Int) (rows : List (List Int)) (lets : List Int) (hl : lets.length ≤ 1000000) (hr : ∀ r ∈ rows, r.length ≤ 1000000) (h : Hd) : callF P (n + 2) f [fD a rows lets] h = .ok (.bl (isM a rows lets), h) := by
  rw [callF_at hf rfl]
  have B := is_between_ok hf0 n
  have it : isiD (P.cl (n + 1)) [.tuple] (fD a rows lets) h = .ok (.bl true) := rfl
  have q : ∀ {h}, qs (.ok (.v (fD a rows lets), h)) = .ok (.t [.int a, .tup (rI rows), .tup (iI lets)], h) := rfl
  have i0 : ixC (fD a rows lets) (.int 0) h = .ok (.int a) := ixD_nat (k := 0) h rfl
  have at3 : ∀ a1 b c e f g, asgT (.tp [(.nm 2), (.nm 3), (.nm 4)]) (fD a rows lets) [a1, b, c, e, f, g, none] = some [a1, b, some (.int a), some (.tup (rI rows)), some (.tup (iI lets)), g, none] := fun _ _ _ _ _ _ => rfl
  unfold isM
  by_cases c1 : (decide (2 ≤ a) && decide (a ≤ 3)) = true
  · by_cases c2 : (decide (1 ≤ rows.length) && decide (rows.length ≤ 4)) = true
    · have loop := ev_forT (C := P.cl (n + 1)) (i := 1) (it := .sq (.v 3)) (b := [(.ite (.or_ (.nt (.isi (.v 1) [.tuple])) (.cmp .ne (.b1 .len (.v 1)) (.v 2))) [(.ret (.c (.bl false)))] []), (.ite (.nt (.b1 .all (.comp [6] (.nm 6) (.sq (.v 1)) (.c (.bl true)) (.call f0 [(.v 6), (.c (.int (0))), (.bin .sub (.b1 .len (.v 3)) (.c (.int (1))))])))) [(.ret (.c (.bl false)))] [])])
        (σ := [some (fD a rows lets), none, some (.int a), some (.tup (rI rows)), some (.tup (iI lets)), none, none]) (h := h) (h1 := h) (q := .t (rI rows)) (l := rows) (φ := fun r => .tup (iI r)) (p := rowOk a rows.length) (v := .bl false) (by simp [rI]) (by simp)
        (fun r hr' => by
          have inner := ev_map (C := P.cl (n + 1)) (i := 6) (it := .sq (.v 1)) (elt := (.call f0 [(.v 6), (.c (.int (0))), (.bin .sub (.b1 .len (.v 3)) (.c (.int (1))))])) (σ := [some (fD a rows lets), some (.tup (iI r)), some (.int a), some (.tup (rI rows)), some (.tup (iI lets)), none, none])
            (h := h) (h1 := h) (q := .t (iI r)) (l := r) (φ := fun (x : Int) => .int x) (ψ := fun t => .bl (decide (0 ≤ t) && decide (t ≤ (rows.length : Int) - 1))) (by simp [iI]) rfl (by simp) (le_sizeL (hr r hr')) (fun t ht => by simp [B, rI_len])
          have hbl := blL_map (fun t : Int => decide (0 ≤ t) && decide (t ≤ (rows.length : Int) - 1)) r
          unfold rowOk
          have ea : List.all (r.map fun t : Int => decide (0 ≤ t) && decide (t ≤ (rows.length : Int) - 1)) id = r.all fun t => decide (0 ≤ t) && decide (t ≤ (rows.length : Int) - 1) := by rw [List.all_map]; rfl
          by_cases c3 : (r.length : Int) = a
          · cases c4 : (r.all fun t => decide (0 ≤ t) && decide (t ≤ (rows.length : Int) - 1)) with
            | true =>
              rw [c4] at ea
              simp [cmp_neI, iI_len, c3, inner, hbl, ea, c4, -List.all_map, -List.all_eq_true]
            | false =>
              rw [c4] at ea
              simp [cmp_neI, iI_len, c3, inner, hbl, ea, c4, -List.all_map, -List.all_eq_true, -List.all_eq_false]
          · simp [cmp_neI, iI_len, c3])
      have hc2 := c2
      simp only [Bool.and_eq_true, decide_eq_true_eq] at c1 c2
      have k3 : (1 : Int) ≤ (rows.length : Int) := by omega
      have k4 : (rows.length : Int) ≤ 4 := by omega
      rw [hc2]
      rcases loop with ⟨c3, x, e⟩ | ⟨c3, e⟩
      · rw [c3]
        simp only [List.set_cons_succ, List.set_cons_zero] at e
        by_cases c4 : lets.length = rows.length
        · have letz := ev_map (C := P.cl (n + 1)) (i := 5) (it := .sq (.v 4)) (elt := (.call f0 [(.v 5), (.c (.int (0))), (.c (.int (2)))])) (σ := [some (fD a rows lets), x, some (.int a), some (.tup (rI rows)), some (.tup (iI lets)), none, none])
            (h := h) (h1 := h) (q := .t (iI lets)) (l := lets) (φ := fun (x : Int) => .int x) (ψ := fun l => .bl (decide (0 ≤ l) && decide (l ≤ 2))) (by simp [iI]) rfl (by simp) (le_sizeL hl) (fun t ht => by simp [B])
          have hbl := blL_map (fun l : Int => decide (0 ≤ l) && decide (l ≤ 2)) lets
          have ea : List.all (lets.map fun l : Int => decide (0 ≤ l) && decide (l ≤ 2)) id = lets.all fun l => decide (0 ≤ l) && decide (l ≤ 2) := by rw [List.all_map]; rfl
          obtain ⟨r0, rs, er⟩ : ∃ r0 rs, rows = r0 :: rs := by
            cases rows with
            | nil => exact absurd c2.1 (by simp)
            | cons r0 rs => exact ⟨r0, rs, rfl⟩
          have hr0 : rowOk a rows.length r0 = true := List.all_eq_true.mp c3 r0 (by rw [er]; exact List.mem_cons_self)
          obtain ⟨x0, xs, ex⟩ : ∃ x0 xs, r0 = x0 :: xs := by
            cases r0 with
            | nil =>
              unfold rowOk at hr0
              simp only [Bool.and_eq_true, decide_eq_true_eq] at hr0
              have := hr0.1
              simp at this
              omega
            | cons x0 xs => exact ⟨x0, xs, rfl⟩
          have e0 : ixC (.tup (rI rows)) (.int 0) h = .ok (.tup (iI r0)) := ixD_nat (k := 0) h (by rw [er]; rfl)
          have e1 : ixC (.tup (iI r0)) (.int 0) h = .ok (.int x0) := ixD_nat (k := 0) h (by rw [ex]; rfl)
          have ez : z00 rows = decide (x0 = 0) := by rw [er, ex]; rfl
          rw [ez]
          have c4' : (lets.length : Int) = (rows.length : Int) := by omega
          cases c5 : decide (x0 = 0) with
          | true =>
            have c5' := of_decide_eq_true c5
            simp [b_is_machine, it, q, i0, B, c1, at3, rI_len, k3, k4, e, iI_len, c4, e0, e1, c5', letz, hbl, ea, -List.all_map]
          | false =>
            have c5' := of_decide_eq_false c5
            simp [b_is_machine, it, q, i0, B, c1, at3, rI_len, k3, k4, e, iI_len, c4, e0, e1, c5']
        · have c4' : ¬ (lets.length : Int) = (rows.length : Int) := by omega
          simp [b_is_machine, it, q, i0, B, c1, at3, rI_len, k3, k4, e, iI_len, c4, c4']
      · rw [c3]
        simp [b_is_machine, it, q, i0, B, c1, at3, rI_len, k3, k4, e, iI_len]
    · have c2' : (decide ((1 : Int) ≤ (rows.length : Int)) && decide ((rows.length : Int) ≤ 4)) = false := by
        simp only [Bool.and_eq_true, decide_eq_true_eq] at c2
        rw [Bool.and_eq_false_iff, decide_eq_false_iff_not, decide_eq_false_iff_not]
        omega
      have c2'' : (decide (1 ≤ rows.length) && decide (rows.length ≤ 4)) = false := by simpa using c2
      simp only [Bool.and_eq_true, decide_eq_true_eq] at c1
      rw [c2'']
      by_cases k3 : (1 : Int) ≤ (rows.length : Int)
      · have k4 : ¬ (rows.length : Int) ≤ 4 := by
          rw [decide_eq_true k3] at c2'
          simpa using c2'
        simp [b_is_machine, it, q, i0, B, c1, at3, rI_len, k3, k4]
      · simp [b_is_machine, it, q, i0, B, c1, at3, rI_len, k3]
  · have c1' : (decide (2 ≤ a) && decide (a ≤ 3)) = false := by simpa using c1
    rw [c1']
    have B0 := B a 2 3 h
    rw [c1'] at B0
    simp [b_is_machine, it, q, i0, B0]
/-- a machine of whole numbers -/
theorem isM_mc {a : Int} {rows : List (List Int)} {lets : List Int} (h : isM a rows lets = true) : ∃ m : Mc, m.ok ∧ fD a rows lets = m.d ∧ a = m.b ∧ rows = m.rows.map (·.map Int.ofNat) ∧ lets = m.lets.map Int.ofNat := by
  unfold isM at h
  simp only [Bool.and_eq_true, decide_eq_true_eq] at h
  obtain ⟨⟨a2, a3⟩, ⟨r1, r4⟩, hr, hl, hz, h3⟩ := h
  have nat : ∀ xs : List Int, (∀ x ∈ xs, 0 ≤ x) → xs = (xs.map Int.toNat).map Int.ofNat := fun xs hx => by
    rw [List.map_map]
    conv => lhs; rw [← List.map_id xs]
    exact List.map_congr_left fun x hx' => by simpa using (Int.toNat_of_nonneg (hx x hx')).symm
  have hr' : ∀ r ∈ rows, (r.length : Int) = a ∧ ∀ t ∈ r, 0 ≤ t ∧ t ≤ (rows.length : Int) - 1 := fun r hm => by
    have := List.all_eq_true.mp hr r hm
    unfold rowOk at this
    simp only [Bool.and_eq_true, decide_eq_true_eq, List.all_eq_true] at this
    exact this
  have hl' : ∀ l ∈ lets, 0 ≤ l ∧ l ≤ 2 := fun l hm => by
    have := List.all_eq_true.mp h3 l hm
    simpa using this
  have er : rows = (rows.map (·.map Int.toNat)).map (·.map Int.ofNat) := by
    rw [List.map_map]
    conv => lhs; rw [← List.map_id rows]
    exact List.map_congr_left fun r hm => nat r fun x hx => ((hr' r hm).2 x hx).1
  have el : lets = (lets.map Int.toNat).map Int.ofNat := nat lets fun x hx => (hl' x hx).1
  refine ⟨⟨a.toNat, rows.map (·.map Int.toNat), lets.map Int.toNat⟩, ⟨by show 2 ≤ a.toNat; omega, by show a.toNat ≤ 3; omega, by simpa using r1, by simpa using r4, ?_, ?_, by simpa using hl, ?_, ?_⟩, ?_, by show a = (a.toNat : Int); omega, er, el⟩
  · intro r hm
    obtain ⟨r', hm', rfl⟩ := List.mem_map.mp hm
    have := (hr' r' hm').1
    simp; omega
  · intro r hm t ht
    obtain ⟨r', hm', rfl⟩ := List.mem_map.mp hm
    obtain ⟨t', ht', rfl⟩ := List.mem_map.mp ht
    have := (hr' r' hm').2 t' ht'
    simp; omega
  · intro l hm
    obtain ⟨l', hm', rfl⟩ := List.mem_map.mp hm
    have := hl' l' hm'
    omega
  · unfold z00 at hz
    split at hz
    · rename_i x xs rs
      have : x = 0 := by simpa using hz
      subst this
      exact ⟨xs.map Int.toNat, rs.map (·.map Int.toNat), by simp⟩
    · cases hz
  · have e1 : (rI rows) = rD' (rows.map (·.map Int.toNat)) := by
      unfold rI rD'
      rw [List.map_map]
      refine List.map_congr_left fun r hm => ?_
      show D.tup (r.map D.int) = D.tup ((r.map Int.toNat).map fun (x : Nat) => D.int (x : Int))
      rw [List.map_map]
      congr 1
      refine List.map_congr_left fun x hx => ?_
      have := ((hr' r hm).2 x hx).1
      show D.int x = D.int ((x.toNat : Nat) : Int)
      rw [Int.toNat_of_nonneg this]
    have e2 : iI lets = nI (lets.map Int.toNat) := by
      unfold iI nI
      rw [List.map_map]
      refine List.map_congr_left fun x hx => ?_
      show D.int x = D.int ((x.toNat : Nat) : Int)
      rw [Int.toNat_of_nonneg (hl' x hx).1]
    have e3 : a = ((a.toNat : Nat) : Int) := by omega
    show D.tup [.int a, .tup (rI rows), .tup (iI lets)] = D.tup [.int ((a.toNat : Nat) : Int), .tup (rD' _), .tup (nI _)]
    rw [← e1, ← e2, ← e3]
theorem mc_fD (m : Mc) : m.d = fD m.b (m.rows.map (·.map Int.ofNat)) (m.lets.map Int.ofNat) := by
  have e1 : nI m.lets = iI (m.lets.map Int.ofNat) := by unfold nI iI; rw [List.map_map]; rfl
  have e2 : rD' m.rows = rI (m.rows.map (·.map Int.ofNat)) := by
    unfold rD' rI
    rw [List.map_map]
    refine List.map_congr_left fun r _ => ?_
    show D.tup (nI r) = D.tup (iI (r.map Int.ofNat))
    unfold nI iI
    rw [List.map_map]; rfl
  unfold Mc.d fD
  rw [e1, e2]
end Mp
set_option maxHeartbeats 4000000
namespace Mp
/-! ### digits of signs -/
def isDg (c : Nat) : Bool := decide (48 ≤ c) && decide (c ≤ 51)
def dgt (c : Nat) : Int := if isDg c then (c : Int) - 48 else -1
def dgT : List Nat → Int
  | [c] => dgt c
  | _ => -1
theorem strEq_iff (s t : List Nat) : L2.eqV (.str ⟨s.toArray⟩) (.str ⟨t.toArray⟩) = decide (s = t) := by
  by_cases c : s = t
  · subst c; simp [L2.eqV]
  · have : ¬ (⟨s.toArray⟩ : PySem.Str) = ⟨t.toArray⟩ := fun e => c (by
      have := congrArg (fun x : PySem.Str => x.cps.toList) e
      simpa using this)
    simp [L2.eqV, c]
theorem in_strs (s : List Nat) (ts : List (List Nat)) (h : Hd) : cmpD .in_ (.str s) (.tup (ts.map .str)) h = .ok (decide (s ∈ ts)) := by
  have e : (ts.map D.str).mapM vOf = some (ts.map fun t => L2.V.str ⟨t.toArray⟩) := by
    induction ts with
    | nil => rfl
    | cons t ts ih => rw [List.map_cons, List.mapM_cons, ih]; rfl
  show (match vOf (.str s), (ts.map D.str).mapM vOf with
    | some x, some ys => R.ok (ys.any fun y => L2.eqV y x)
    | _, _ => R.no) = _
  rw [e]
  show R.ok _ = _
  congr 1
  rw [List.any_map]
  induction ts with
  | nil => simp
  | cons t ts ih =>
    rw [List.any_cons]
    show (L2.eqV (.str ⟨t.toArray⟩) (.str ⟨s.toArray⟩) || _) = _
    rw [strEq_iff, ih (by
      clear ih e
      induction ts with
      | nil => rfl
      | cons t ts ih => rw [List.map_cons, List.mapM_cons, ih]; rfl)]
    simp [eq_comm]
theorem nin_strs (s : List Nat) (ts : List (List Nat)) (h : Hd) : cmpD .notin (.str s) (.tup (ts.map .str)) h = .ok (!decide (s ∈ ts)) := by
  show (cmpD .in_ (.str s) (.tup (ts.map .str)) h >>= fun r => R.ok (!r)) = _
  rw [in_strs]; rfl
theorem ix0123 {c : Nat} (hc : isDg c = true) (h : Hd) : m1D .index (.str [48, 49, 50, 51]) (.str [c]) h = .ok (.int ((c : Int) - 48), h) := by
  unfold isDg at hc
  simp only [Bool.and_eq_true, decide_eq_true_eq] at hc
  have : c = 48 ∨ c = 49 ∨ c = 50 ∨ c = 51 := by omega
  have key : ∀ (c i : Nat), PySem.Builtin.Str.occurrences ⟨[48, 49, 50, 51].toArray⟩ ⟨[c].toArray⟩ 0 4 1 = [i] → (i : Int) = (c : Int) - 48 → m1D .index (.str [48, 49, 50, 51]) (.str [c]) h = .ok (.int ((c : Int) - 48), h) := fun c i e q => by
    show (match PySem.Builtin.Str.occurrences ⟨[48, 49, 50, 51].toArray⟩ ⟨[c].toArray⟩ 0 4 1 with
      | i :: _ => R.ok (D.int (i : Nat), h)
      | [] => .no) = _
    rw [e, ← q]
  rcases this with rfl | rfl | rfl | rfl
  · exact key _ 0 (by decide +kernel) rfl
  · exact key _ 1 (by decide +kernel) rfl
  · exact key _ 2 (by decide +kernel) rfl
  · exact key _ 3 (by decide +kernel) rfl
def b_digit_of : Df := ⟨1, 1, [
  (.ret (.ite (.cmp .in_ (.v 0) (.tup [(.c (.str [48])), (.c (.str [49])), (.c (.str [50])), (.c (.str [51]))])) (.m1 .index (.gc "" (.str [48, 49, 50, 51])) (.v 0)) (.neg (.c (.int (1))))))]⟩
theorem digit_of_ok {P : Pg} {f : Nat} (hf : P.df f = some b_digit_of) (n : Nat) (s : List Nat) (h : Hd) : callF P (n + 1) f [.str s] h = .ok (.int (dgT s), h) := by
  rw [callF_at hf rfl]
  have i := in_strs s [[48], [49], [50], [51]] h
  simp only [List.map_cons, List.map_nil] at i
  by_cases c : s ∈ [[48], [49], [50], [51]]
  · obtain ⟨x, rfl, hx⟩ : ∃ x, s = [x] ∧ isDg x = true := by
      simp at c
      rcases c with rfl | rfl | rfl | rfl <;> exact ⟨_, rfl, rfl⟩
    rw [decide_eq_true c] at i
    have e : dgT [x] = (x : Int) - 48 := by simp [dgT, dgt, hx]
    simp [b_digit_of, i, ix0123 hx, e]
  · rw [decide_eq_false c] at i
    have e : dgT s = -1 := by
      match s, c with
      | [], _ => rfl
      | [x], c =>
        have : isDg x = false := by
          unfold isDg
          simp at c ⊢
          omega
        simp [dgT, dgt, this]
      | _ :: _ :: _, _ => rfl
    simp [b_digit_of, i, e]
/-! ### a machine's text -/
def wdT (r : List Nat) (l : Nat) : List Nat := r.map (48 + ·) ++ [47, 48 + l]
def Mc.words (m : Mc) : List (List Nat) := (m.rows.zip m.lets).map fun p => wdT p.1 p.2
def Mc.tx (m : Mc) : List Nat := [48 + m.b, 58, 32] ++ joinS [32] m.words
theorem strI_dig {d : Nat} (h : d ≤ 9) : strI (d : Int) = [48 + d] := by
  have : d = 0 ∨ d = 1 ∨ d = 2 ∨ d = 3 ∨ d = 4 ∨ d = 5 ∨ d = 6 ∨ d = 7 ∨ d = 8 ∨ d = 9 := by omega
  rcases this with rfl | rfl | rfl | rfl | rfl | rfl | rfl | rfl | rfl | rfl <;> decide +kernel
theorem lg_dig {d : Nat} (h : d ≤ 9) : ((d : Int)).natAbs.log2 < 1920 := by
  have : ((d : Int)).natAbs = d := rfl
  rw [this]
  have : d = 0 ∨ d = 1 ∨ d = 2 ∨ d = 3 ∨ d = 4 ∨ d = 5 ∨ d = 6 ∨ d = 7 ∨ d = 8 ∨ d = 9 := by omega
  rcases this with rfl | rfl | rfl | rfl | rfl | rfl | rfl | rfl | rfl | rfl <;> decide +kernel
theorem b1V_str {d : Nat} (h : d ≤ 9) (hh : Hd) : b1V .str_ (.int (d : Int)) hh = .ok (.str [48 + d], hh) := by
  show (if ((d : Int)).natAbs.log2 < 1920 then R.ok (D.str (strI (d : Int)), hh) else .no) = _
  rw [if_pos (lg_dig h), strI_dig h]
theorem joinD_nil {ys : List (List Nat)} {id : Option Nat} (hl : (ys.map List.length).sum ≤ 1000000) : joinD (.str []) (.l id (ys.map .str)) = .ok (.str ys.flatten) := by
  have e : strL (ys.map .str) = some ys := by
    clear hl
    induction ys with
    | nil => rfl
    | cons y ys ih => rw [List.map_cons, strL, ih]; rfl
  have e2 : joinS [] ys = ys.flatten := by
    clear hl e
    induction ys with
    | nil => rfl
    | cons y ys ih =>
      cases ys with
      | nil => simp [joinS]
      | cons z ys => rw [joinS, ih]; simp
                     intro q; cases q
  show (match strL (ys.map .str) with
    | some ys => if (ys.map List.length).sum + ys.length * ([] : List Nat).length ≤ sizeL then R.ok (D.str (joinS [] ys)) else .no
    | none => .no) = _
  rw [e]
  show (if _ then _ else _) = _
  rw [if_pos (le_sizeL (by simpa using hl)), e2]
theorem joinD_sp {sep : List Nat} {ys : List (List Nat)} {id : Option Nat} (hl : (ys.map List.length).sum + ys.length * sep.length ≤ 1000000) : joinD (.str sep) (.l id (ys.map .str)) = .ok (.str (joinS sep ys)) := by
  have e : strL (ys.map .str) = some ys := by
    clear hl
    induction ys with
    | nil => rfl
    | cons y ys ih => rw [List.map_cons, strL, ih]; rfl
  show (match strL (ys.map .str) with
    | some ys => if (ys.map List.length).sum + ys.length * sep.length ≤ sizeL then R.ok (D.str (joinS sep ys)) else .no
    | none => .no) = _
  rw [e]
  show (if _ then _ else _) = _
  rw [if_pos (le_sizeL hl)]
theorem sum_ones {xs : List Nat} : ((xs.map fun x => [48 + x]).map List.length).sum = xs.length := by
  induction xs with
  | nil => rfl
  | cons x xs ih => rw [List.map_cons, List.map_cons, List.sum_cons, ih]; simp; omega
theorem flat_ones {xs : List Nat} : (xs.map fun x => [48 + x]).flatten = xs.map (48 + ·) := by
  induction xs with
  | nil => rfl
  | cons x xs ih => rw [List.map_cons, List.flatten_cons, ih]; rfl
theorem zip_map (xs : List (List Nat)) (ys : List Nat) : zipD (rD' xs) (nI ys) = (xs.zip ys).map fun p => .tup [.tup (nI p.1), .int (p.2 : Int)] := by
  induction xs generalizing ys with
  | nil => rfl
  | cons x xs ih =>
    cases ys with
    | nil => rfl
    | cons y ys =>
      show D.tup [_, _] :: zipD (rD' xs) (nI ys) = _
      rw [ih]; rfl
theorem Mc.ok.zip {m : Mc} (o : m.ok) {p : List Nat × Nat} (hp : p ∈ m.rows.zip m.lets) : p.1.length ≤ 3 ∧ (∀ t ∈ p.1, t ≤ 3) ∧ p.2 ≤ 2 := by
  obtain ⟨h1, h2⟩ := List.of_mem_zip hp
  have := o.rl _ h1
  have := o.b3
  have := o.r4
  exact ⟨by omega, fun t ht => by have := o.rt _ h1 t ht; omega, by have := o.l3 _ h2; omega⟩
theorem Mc.ok.zl {m : Mc} (o : m.ok) : (m.rows.zip m.lets).length ≤ 4 := by
  have := o.r4
  rw [List.length_zip]; omega
theorem words_len {m : Mc} (o : m.ok) : (m.words.map List.length).sum + m.words.length * 1 ≤ 1000 := by
  have key : ∀ l : List (List Nat × Nat), (∀ p ∈ l, p.1.length ≤ 3) → ((l.map fun p => wdT p.1 p.2).map List.length).sum ≤ 5 * l.length := by
    intro l
    induction l with
    | nil => intro _; simp
    | cons p l ih =>
      intro h
      have := ih fun q hq => h q (List.mem_cons_of_mem _ hq)
      have := h p List.mem_cons_self
      rw [List.map_cons, List.map_cons, List.sum_cons]
      have e : (wdT p.1 p.2).length = p.1.length + 2 := by simp [wdT]
      rw [e, List.length_cons]
      omega
  have := key _ fun p hp => (o.zip hp).1
  have := o.zl
  unfold Mc.words
  rw [List.length_map]
  omega
/-- the words of a machine, in a run -/
theorem wd_row {C : Cl} {i k : Nat} {σ : Sl} {h : Hd} {r : List Nat} (hr : r.length ≤ 3) (ht : ∀ t ∈ r, t ≤ 3) (hi : getV σ i = .ok (.tup (nI r))) (hk : k < σ.length) (hik : k ≠ i) :
    evR C (.m1 .join (.c (.str [])) (.comp [k] (.nm k) (.sq (.v i)) (.c (.bl true)) (.b1 .str_ (.v k)))) σ h = .ok (.v (.str (r.map (48 + ·))), h) := by
  have e := ev_map (C := C) (i := k) (it := .sq (.v i)) (elt := .b1 .str_ (.v k)) (σ := σ) (h := h) (h1 := h) (q := .t (nI r)) (l := r) (φ := fun (x : Nat) => .int (x : Int)) (ψ := fun x => .str [48 + x]) (by simp [hi, nI]) rfl hk (le_sizeL (by omega)) (fun t htm => by
    have : getV (σ.set k (some (.int (t : Int)))) k = .ok (.int (t : Int)) := by simp [getV, hk]
    simp [this, b1V_str (show t ≤ 9 by have := ht t htm; omega)])
  have j1 := joinD_nil (ys := r.map fun x => [48 + x]) (id := none) (by rw [sum_ones]; omega)
  rw [flat_ones, List.map_map] at j1
  have j2 : joinD (.str []) (.l none (r.map fun x => D.str [48 + x])) = .ok (.str (r.map (48 + ·))) := j1
  simp only [evR_join, evR_c, vl_v, R.ok_bind, rcv_join, e, qs_l, j2]
end Mp
set_option maxHeartbeats 4000000
namespace Mp
theorem ev_mapT {α : Type} {C : Cl} {t : T} {own : List Nat} {it : I} {elt : E} {σ : Sl} {h h1 : Hd} {q : Sq} {l : List α} {φ ψ : α → D} {A : α → Sl} (hi : evI C it σ h = .ok ((q, l.map φ), h1)) (hs : ∀ a ∈ l, asgT t (φ a) (wipe σ own) = some (A a)) (hl : l.length ≤ sizeL)
    (f : ∀ a ∈ l, vl (evR C elt (A a) h1) = .ok (ψ a, h1)) (ho : still h1 q = true := by rfl) (hq : ∀ h, openH h q = h := by intro; rfl) : evR C (.comp own t it (.c (.bl true)) elt) σ h = .ok (.l (l.map ψ), h1) := by
  have q1 := hq h1
  have e0 : ∀ ys, compF (fun h => still h q) t own (fun σ h => ts (evR C (.c (.bl true)) σ h)) (fun σ h => vl (evR C elt σ h)) σ (l.map φ) h1 = .ok (ys, h1) → ys.length ≤ sizeL → evR C (.comp own t it (.c (.bl true)) elt) σ h = .ok (.l ys, h1) := fun ys a b => by have := ev_comp hi a b; rwa [q1] at this
  refine e0 _ ?_ (by simpa using hl)
  clear e0 hi hl
  induction l with
  | nil => rfl
  | cons a l ih =>
    have e := f a List.mem_cons_self
    have e1 := hs a List.mem_cons_self
    have r := ih (fun b hb => hs b (List.mem_cons_of_mem _ hb)) fun b hb => f b (List.mem_cons_of_mem _ hb)
    have e2 : ts (evR C (.c (.bl true)) (A a) h1) = .ok (true, h1) := rfl
    rw [List.map_cons, List.map_cons, compF, e1]
    simp only [e2, e, ho, if_true, r]
def b_text_of : Df := ⟨1, 8, [
  (.asg (.tp [(.nm 2), (.nm 3), (.nm 4)]) (.v 0)),
  (.asg (.nm 1) (.comp [5, 6] (.tp [(.nm 5), (.nm 6)]) (.zp (.v 3) (.v 4)) (.c (.bl true)) (.bin .add (.bin .add (.m1 .join (.c (.str [])) (.comp [7] (.nm 7) (.sq (.v 5)) (.c (.bl true)) (.b1 .str_ (.v 7)))) (.c (.str [47]))) (.b1 .str_ (.v 6))))),
  (.ret (.bin .add (.fs [(.v 2), (.c (.str [58, 32]))]) (.m1 .join (.c (.str [32])) (.v 1))))]⟩
theorem bin_str' {s t : List Nat} {h} (c : s.length + t.length ≤ 1000000) : binD .add (.str s) (.str t) h = .ok (.str (s ++ t), h) := bin_str (le_sizeL c)
theorem fmt_int {d : Nat} (h : d ≤ 9) : fmtD (.int (d : Int)) = .ok [48 + d] := by
  show (if ((d : Int)).natAbs.log2 < 1920 then R.ok (strI (d : Int)) else .no) = _
  rw [if_pos (lg_dig h), strI_dig h]
theorem fmt_str {s : List Nat} (h : s.length ≤ 1000000) : fmtD (.str s) = .ok s := if_pos (le_sizeL h)
theorem los_strs {m : Nat} : ∀ ys : List (List Nat), D.los m (ys.map .str) = true
  | [] => rfl
  | y :: ys => by rw [List.map_cons, los_cons, lo_str, los_strs ys]; rfl
theorem joinS_len {sep : List Nat} : ∀ ys : List (List Nat), (joinS sep ys).length ≤ (ys.map List.length).sum + ys.length * sep.length
  | [] => by simp [joinS]
  | [y] => by simp [joinS]
  | y :: z :: ys => by
    have := joinS_len (sep := sep) (z :: ys)
    simp only [joinS, List.length_append, List.map_cons, List.sum_cons, List.length_cons] at this ⊢
    rw [Nat.add_mul, Nat.add_mul] at *
    omega
theorem text_of_ok {P : Pg} {f : Nat} (hf : P.df f = some b_text_of) (n : Nat) {m : Mc} (o : m.ok) (h : Hd) : callF P (n + 1) f [m.d] h = .ok (.str m.tx, h) := by
  rw [callF_at hf rfl]
  have e := ev_mapT (C := P.cl n) (t := .tp [(.nm 5), (.nm 6)]) (own := [5, 6]) (it := .zp (.v 3) (.v 4)) (elt := (.bin .add (.bin .add (.m1 .join (.c (.str [])) (.comp [7] (.nm 7) (.sq (.v 5)) (.c (.bl true)) (.b1 .str_ (.v 7)))) (.c (.str [47]))) (.b1 .str_ (.v 6))))
    (σ := [some m.d, none, some (.int (m.b : Int)), some (.tup (rD' m.rows)), some (.tup (nI m.lets)), none, none, none]) (h := h) (h1 := h) (q := .t []) (l := m.rows.zip m.lets) (φ := fun p => .tup [.tup (nI p.1), .int (p.2 : Int)]) (ψ := fun p => .str (wdT p.1 p.2))
    (A := fun p => [some m.d, none, some (.int (m.b : Int)), some (.tup (rD' m.rows)), some (.tup (nI m.lets)), some (.tup (nI p.1)), some (.int (p.2 : Int)), none])
    (by simp [zip_map]) (fun p _ => rfl) (le_sizeL (by have := o.zl; omega)) (fun p hp => by
      obtain ⟨z1, z2, z3⟩ := o.zip hp
      have j := wd_row (C := P.cl n) (i := 5) (k := 7) (σ := [some m.d, none, some (.int (m.b : Int)), some (.tup (rD' m.rows)), some (.tup (nI m.lets)), some (.tup (nI p.1)), some (.int (p.2 : Int)), none]) (h := h) z1 z2 rfl (by simp) (by decide)
      have b1 := bin_str' (s := p.1.map (48 + ·)) (t := [47]) (h := h) (by simp; omega)
      have b2 := bin_str' (s := p.1.map (48 + ·) ++ [47]) (t := [48 + p.2]) (h := h) (by simp; omega)
      simp only [evR_bin, j, vl_v, R.ok_bind, evR_c, b1, rv_ok, evR_b1str, evR_v, getV_s, getV_z, b1V_str (show p.2 ≤ 9 by omega), b2]
      simp [wdT])
  have at3 : ∀ a b c e f g i, asgT (.tp [(.nm 2), (.nm 3), (.nm 4)]) m.d [a, b, c, e, f, g, i, none] = some [a, b, some (.int (m.b : Int)), some (.tup (rD' m.rows)), some (.tup (nI m.lets)), g, i, none] := fun _ _ _ _ _ _ _ => rfl
  have ew : (m.rows.zip m.lets).map (fun p => D.str (wdT p.1 p.2)) = m.words.map .str := by simp [Mc.words]
  rw [ew] at e
  have wl := words_len o
  have ob : (h ++ [Ob.lst (m.words.map .str)])[h.length]? = some (.lst (m.words.map .str)) := by simp
  have j1 := joinD_sp (sep := [32]) (ys := m.words) (id := some h.length) (by simp; omega)
  have jl := joinS_len (sep := [32]) m.words
  simp only [List.length_cons, List.length_nil, Nat.zero_add] at jl
  have b3 := bin_str' (s := [48 + m.b, 58, 32]) (t := joinS [32] m.words) (h := h ++ [Ob.lst (m.words.map .str)]) (by simp; omega)
  have f1 := fmt_int (d := m.b) (by have := o.b3; omega)
  have f2 := fmt_str (s := [58, 32]) (by simp)
  simp [b_text_of, at3, e, f1, f2, qs_ob ob, j1]
  simp [b3, Mc.tx]
/-- the texts of machines -/
def b_format_machine (x_check_machine x_text_of : Nat) : Df := ⟨1, 1, [
  (.ex (.call x_check_machine [(.v 0)])),
  (.ret (.call x_text_of [(.v 0)]))]⟩
theorem format_ok {P : Pg} {f fc ft f0 f1 c : Nat} (hf : P.df f = some (b_format_machine fc ft)) (ht : P.df ft = some b_text_of) (hc : P.df fc = some (b_check_machine f1 c)) (hf1 : P.df f1 = some (b_is_machine f0)) (hf0 : P.df f0 = some b_is_between) (n : Nat) {m : Mc} (o : m.ok) (h : Hd) : callF P (n + 4) f [m.d] h = .ok (.str m.tx, h) := by
  rw [callF_at hf rfl]
  simp [b_format_machine, check_machine_ok hc hf1 hf0 n o h, text_of_ok ht (n + 2) o h]
theorem format_bad {P : Pg} {f fc ft f0 f1 c : Nat} (hf : P.df f = some (b_format_machine fc ft)) (hc : P.df fc = some (b_check_machine f1 c)) (hf1 : P.df f1 = some (b_is_machine f0)) (hf0 : P.df f0 = some b_is_between) (n : Nat) {a : Int} {rows : List (List Int)} {lets : List Int} (hl : lets.length ≤ 1000000) (hr : ∀ r ∈ rows, r.length ≤ 1000000) (hb : isM a rows lets = false) (h : Hd) : callF P (n + 4) f [fD a rows lets] h = .ex c h := by
  rw [callF_at hf rfl]
  have e : callF P (n + 3) fc [fD a rows lets] h = .ex c h := by
    rw [callF_at hc rfl]
    simp [b_check_machine, is_machine_all hf1 hf0 n a rows lets hl hr h, hb]
  simp [b_format_machine, e]
def b__law_text : Df := ⟨1, 5, [
  (.asg (.nm 1) (.lst [])),
  (.for_ (.tp [(.nm 2), (.nm 3)]) (.zp (.ix (.v 0) (.c (.int (1)))) (.ix (.v 0) (.c (.int (2))))) [(.ex (.m1 .append (.v 1) (.bin .add (.bin .add (.m1 .join (.c (.str [])) (.comp [4] (.nm 4) (.sq (.v 2)) (.c (.bl true)) (.b1 .str_ (.v 4)))) (.c (.str [47]))) (.b1 .str_ (.v 3)))))]),
  (.ret (.bin .add (.bin .add (.b1 .str_ (.ix (.v 0) (.c (.int (0))))) (.c (.str [58, 32]))) (.m1 .join (.c (.str [32])) (.v 1))))]⟩
theorem law_text_ok {P : Pg} {f : Nat} (hf : P.df f = some b__law_text) (n : Nat) {m : Mc} (o : m.ok) (h : Hd) : callF P (n + 1) f [m.d] h = .ok (.str m.tx, h) := by
  rw [callF_at hf rfl]
  obtain ⟨σ', h', e, x, y, done, rfl, rfl, ed⟩ := ev_for (C := P.cl n) (t := .tp [(.nm 2), (.nm 3)]) (it := (.zp (.ix (.v 0) (.c (.int (1)))) (.ix (.v 0) (.c (.int (2)))))) (b := [(.ex (.m1 .append (.v 1) (.bin .add (.bin .add (.m1 .join (.c (.str [])) (.comp [4] (.nm 4) (.sq (.v 2)) (.c (.bl true)) (.b1 .str_ (.v 4)))) (.c (.str [47]))) (.b1 .str_ (.v 3)))))])
    (σ := [some m.d, some (.ob h.length), none, none, none]) (h := h ++ [.lst []]) (h1 := h ++ [.lst []]) (q := .t []) (l := m.rows.zip m.lets) (φ := fun p => .tup [.tup (nI p.1), .int (p.2 : Int)])
    (fun l σ h' => ∃ x y done, σ = [some m.d, some (.ob h.length), x, y, none] ∧ h' = h ++ [.lst ((done.map fun p => D.str (wdT p.1 p.2)))] ∧ done ++ l = m.rows.zip m.lets)
    (by simp [Mc.ix1, Mc.ix2, zip_map])
    (fun p l σ h' ⟨x, y, done, es, eh, ed⟩ => by
      subst es; subst eh
      have hp : p ∈ m.rows.zip m.lets := by rw [← ed]; simp
      obtain ⟨z1, z2, z3⟩ := o.zip hp
      have hlen : done.length ≤ 4 := by have := o.zl; rw [← ed] at this; simp at this; omega
      refine ⟨[some m.d, some (.ob h.length), some (.tup (nI p.1)), some (.int (p.2 : Int)), none], [some m.d, some (.ob h.length), some (.tup (nI p.1)), some (.int (p.2 : Int)), none], h ++ [.lst (((done ++ [p]).map fun p => D.str (wdT p.1 p.2)))], rfl, .inl ?_, rfl, _, _, done ++ [p], rfl, rfl, by simpa using ed⟩
      have j := wd_row (C := P.cl n) (i := 2) (k := 4) (σ := [some m.d, some (.ob h.length), some (.tup (nI p.1)), some (.int (p.2 : Int)), none]) (h := h ++ [.lst ((done.map fun p => D.str (wdT p.1 p.2)))]) z1 z2 rfl (by simp) (by decide)
      have b1 := bin_str' (s := p.1.map (48 + ·)) (t := [47]) (h := h ++ [.lst ((done.map fun p => D.str (wdT p.1 p.2)))]) (by simp; omega)
      have b2 := bin_str' (s := p.1.map (48 + ·) ++ [47]) (t := [48 + p.2]) (h := h ++ [.lst ((done.map fun p => D.str (wdT p.1 p.2)))]) (by simp; omega)
      have ob : (h ++ [Ob.lst ((done.map fun p => D.str (wdT p.1 p.2)))])[h.length]? = some (.lst ((done.map fun p => D.str (wdT p.1 p.2)))) := by simp
      have ap := append_ob (d := .str (wdT p.1 p.2)) ob (lt_sizeL (by simp; omega))
      have eset : (h ++ [Ob.lst ((done.map fun p => D.str (wdT p.1 p.2)))]).set h.length (.lst ((done.map fun p => D.str (wdT p.1 p.2)) ++ [.str (wdT p.1 p.2)])) = h ++ [.lst (((done ++ [p]).map fun p => D.str (wdT p.1 p.2)))] := by
        rw [List.set_append_right _ _ (Nat.le_refl _)]; simp
      rw [eset] at ap
      have ew : p.1.map (48 + ·) ++ [47] ++ [48 + p.2] = wdT p.1 p.2 := by simp [wdT]
      simp only [evSs_cons, evS_ex, evR_append, evR_v, getV_s, getV_z, R.ok_bind, vl_v, rcv_append ob, evR_bin, j, evR_c, b1, rv_ok, evR_b1str, b1V_str (show p.2 ≤ 9 by omega), b2, ew, ap, thenF_ok, F.seq_nx, evSs_nil])
    ⟨none, none, [], rfl, by simp, rfl⟩
  rw [List.append_nil] at ed
  subst ed
  have ew : (m.rows.zip m.lets).map (fun p => D.str (wdT p.1 p.2)) = m.words.map .str := by simp [Mc.words]
  rw [ew] at e
  have wl := words_len o
  have ob : (h ++ [Ob.lst (m.words.map .str)])[h.length]? = some (.lst (m.words.map .str)) := by simp
  have j1 := joinD_sp (sep := [32]) (ys := m.words) (id := some h.length) (by simp; omega)
  have jl := joinS_len (sep := [32]) m.words
  simp only [List.length_cons, List.length_nil, Nat.zero_add] at jl
  have b3 := bin_str' (s := [48 + m.b, 58, 32]) (t := joinS [32] m.words) (h := h ++ [Ob.lst (m.words.map .str)]) (by simp; omega)
  have b4 := bin_str' (s := [48 + m.b]) (t := [58, 32]) (h := h ++ [Ob.lst (m.words.map .str)]) (by simp)
  have f1 := b1V_str (d := m.b) (by have := o.b3; omega) (h ++ [Ob.lst (m.words.map .str)])
  simp [b__law_text, e, Mc.ix0, f1, b4, qs_ob ob, j1]
  simp [b3, Mc.tx]
end Mp
set_option maxHeartbeats 4000000
namespace Mp
/-! ### slices of texts -/
section
variable {t : List Nat} {h : Hd}
theorem sl_str {lo hi : D} {l u : Nat} (ht : t.length ≤ 1000000) (e1 : sIx t.length 0 lo = some l) (e2 : sIx t.length t.length hi = some u) : slD (.str t) lo hi h = .ok (.str (cut t l u), h) := by
  show (match sIx t.length 0 lo, sIx t.length t.length hi with
    | some l, some u => if t.length ≤ sizeL then R.ok (D.str (cut t l u), h) else .no
    | _, _ => .no) = _
  rw [e1, e2]
  exact if_pos (le_sizeL ht)
theorem sIx_nat {n d k : Nat} : sIx n d (.int (k : Int)) = some (min k n) := by
  show some (if (k : Int) < 0 then ((k : Int) + (n : Int)).toNat else min ((k : Int)).toNat n) = _
  rw [if_neg (by omega)]
  rfl
theorem sl_from {k : Nat} (ht : t.length ≤ 1000000) : slD (.str t) (.int (k : Int)) .non h = .ok (.str (t.drop k), h) := by
  rw [sl_str ht sIx_nat rfl]
  have : cut t (min k t.length) t.length = t.drop k := by
    unfold cut
    by_cases c : k ≤ t.length
    · rw [Nat.min_eq_left c, List.take_of_length_le (by simp)]
    · rw [Nat.min_eq_right (by omega), List.drop_eq_nil_of_le (Nat.le_refl t.length), List.drop_eq_nil_of_le (by omega)]
      simp
  rw [this]
theorem sl_to {k : Nat} (ht : t.length ≤ 1000000) : slD (.str t) .non (.int (k : Int)) h = .ok (.str (t.take k), h) := by
  rw [sl_str ht rfl sIx_nat]
  have : cut t 0 (min k t.length) = t.take k := by
    unfold cut
    rw [List.drop_zero, Nat.sub_zero]
    by_cases c : k ≤ t.length
    · rw [Nat.min_eq_left c]
    · rw [Nat.min_eq_right (by omega), List.take_of_length_le (Nat.le_refl _), List.take_of_length_le (by omega)]
  rw [this]
theorem sl_cut2 (ht : t.length ≤ 1000000) : slD (.str t) .non (.int (-2)) h = .ok (.str (t.take (t.length - 2)), h) := by
  rw [sl_str ht (l := 0) (u := t.length - 2) rfl (by
    show some (if (-2 : Int) < 0 then ((-2 : Int) + (t.length : Int)).toNat else _) = _
    rw [if_pos (by decide)]
    congr 1
    omega)]
  unfold cut
  rw [List.drop_zero, Nat.sub_zero]
theorem sl_last (ht : t.length ≤ 1000000) : slD (.str t) (.int (-1)) .non h = .ok (.str (t.drop (t.length - 1)), h) := by
  rw [sl_str ht (l := t.length - 1) (u := t.length) (by
    show some (if (-1 : Int) < 0 then ((-1 : Int) + (t.length : Int)).toNat else _) = _
    rw [if_pos (by decide)]
    congr 1
    omega) rfl]
  unfold cut
  rw [List.take_of_length_le (by simp)]
end
/-! ### words -/
theorem split_join (c : Nat) : ∀ t : List Nat, joinS [c] (splitC c t) = t
  | [] => rfl
  | x :: xs => by
    have ih := split_join c xs
    have hne := splitC_ne c xs
    simp only [splitC]
    by_cases q : x = c
    · rw [if_pos q]
      cases e : splitC c xs with
      | nil => exact absurd e hne
      | cons p ps => rw [e] at ih; rw [joinS, ih, q]; rfl
                     intro z; cases z
    · rw [if_neg q]
      cases e : splitC c xs with
      | nil => exact absurd e hne
      | cons p ps =>
        rw [e] at ih
        cases ps with
        | nil => simp [joinS] at ih ⊢; exact ih
        | cons p2 ps => simp [joinS] at ih ⊢; exact ih
theorem split_pre (c : Nat) : ∀ (w t : List Nat), c ∉ w → splitC c (w ++ c :: t) = w :: splitC c t
  | [], t, _ => by simp [splitC]
  | x :: w, t, h => by
    have hx : x ≠ c := fun q => h (by rw [q]; exact List.mem_cons_self)
    have ih := split_pre c w t fun q => h (List.mem_cons_of_mem _ q)
    simp only [List.cons_append, splitC, if_neg hx, ih]
theorem split_one (c : Nat) : ∀ w : List Nat, c ∉ w → splitC c w = [w]
  | [], _ => rfl
  | x :: w, h => by
    have hx : x ≠ c := fun q => h (by rw [q]; exact List.mem_cons_self)
    have ih := split_one c w fun q => h (List.mem_cons_of_mem _ q)
    simp only [splitC, if_neg hx, ih]
theorem join_split (c : Nat) : ∀ ws : List (List Nat), ws ≠ [] → (∀ w ∈ ws, c ∉ w) → splitC c (joinS [c] ws) = ws
  | [], h, _ => absurd rfl h
  | [w], _, h => by simpa [joinS] using split_one c w (h w List.mem_cons_self)
  | w :: w2 :: ws, _, h => by
    have ih := join_split c (w2 :: ws) (by simp) fun x hx => h x (List.mem_cons_of_mem _ hx)
    rw [joinS, List.append_assoc]
    show splitC c (w ++ c :: joinS [c] (w2 :: ws)) = _
    rw [split_pre c w _ (h w List.mem_cons_self), ih]
    intro z; cases z
theorem split_len (c : Nat) : ∀ t : List Nat, (splitC c t).length ≤ t.length + 1
  | [] => by simp [splitC]
  | x :: xs => by
    have ih := split_len c xs
    simp only [splitC]
    split
    · simp; omega
    · split
      · simp
      · rename_i p ps e; rw [e] at ih; simp at ih ⊢; omega
theorem split_wlen (c : Nat) : ∀ (t : List Nat), ∀ w ∈ splitC c t, w.length ≤ t.length
  | [], w, h => by simp [splitC] at h; subst h; simp
  | x :: xs, w, h => by
    have ih := split_wlen c xs
    simp only [splitC] at h
    split at h
    · rcases List.mem_cons.mp h with rfl | h
      · simp
      · have := ih w h; simp; omega
    · split at h
      · rename_i e; exact absurd e (splitC_ne c xs)
      · rename_i p ps e
        rcases List.mem_cons.mp h with rfl | h
        · have := ih p (by rw [e]; exact List.mem_cons_self)
          simp; omega
        · have := ih w (by rw [e]; exact List.mem_cons_of_mem _ h)
          simp; omega
theorem split_D {c : Nat} (hc : c < 256) {t : List Nat} (ht : t.length ≤ 100000) (h : Hd) : m1D .split (.str t) (.str [c]) h = .ok (.ob h.length, h ++ [.lst ((splitC c t).map .str)]) := by
  show (if _ then _ else _) = _
  rw [if_pos (by rw [Bool.and_eq_true, decide_eq_true_eq, decide_eq_true_eq]; exact ⟨le_sizeL (by omega), hc⟩)]
  rfl
@[simp] theorem rcv_split {s h} : rcv .split (.str s) h = .ok () := rfl
theorem lst_int (xs : List Int) : (xs.map D.int) = iI xs := rfl
/-! ### parse_machine -/
def wRow (w : List Nat) : List Int := (w.take (w.length - 2)).map dgt
def wLet (w : List Nat) : Int := dgT (w.drop (w.length - 1))
def b_parse_machine (x_digit_of x_is_machine x_text_of e_InvalidText : Nat) : Df := ⟨1, 6, [
  (.ite (.nt (.isi (.v 0) [.str])) [(.raise e_InvalidText)] []),
  (.asg (.nm 1) (.lst [])),
  (.asg (.nm 2) (.lst [])),
  (.for_ (.nm 3) (.sq (.m1 .split (.sl (.v 0) (.c (.int (3))) (.c .non)) (.c (.str [32])))) [(.ex (.m1 .append (.v 1) (.b1 .tuple (.comp [5] (.nm 5) (.sq (.sl (.v 3) (.c .non) (.neg (.c (.int (2)))))) (.c (.bl true)) (.call x_digit_of [(.v 5)]))))), (.ex (.m1 .append (.v 2) (.call x_digit_of [(.sl (.v 3) (.neg (.c (.int (1)))) (.c .non))])))]),
  (.asg (.nm 4) (.tup [(.call x_digit_of [(.sl (.v 0) (.c .non) (.c (.int (1))))]), (.b1 .tuple (.v 1)), (.b1 .tuple (.v 2))])),
  (.ite (.or_ (.nt (.call x_is_machine [(.v 4)])) (.cmp .ne (.call x_text_of [(.v 4)]) (.v 0))) [(.raise e_InvalidText)] []),
  (.ret (.v 4))]⟩
theorem pyEq_str (h : Hd) {s t : List Nat} (hs : s.all (· < 0x110000) = true) (ht : t.all (· < 0x110000) = true) : pyEq h (.str s) (.str t) = some (decide (s = t)) := by
  unfold pyEq
  have e : ∀ u : List Nat, u.all (· < 0x110000) = true → toP h 40 (.str u) = some (.str ⟨u.toArray⟩) := fun u hu => by
    show (if u.all (· < 0x110000) then some (PySem.PyData.str ⟨u.toArray⟩) else none) = _
    rw [if_pos hu]
  rw [e s hs, e t ht]
  show some (PySem.PyData.eqv _ _) = _
  congr 1
  by_cases c : s = t
  · subst c; simp [PySem.PyData.eqv]
  · have : ¬ (⟨s.toArray⟩ : PySem.Str) = ⟨t.toArray⟩ := fun e => c (by
      have := congrArg (fun x : PySem.Str => x.cps.toList) e
      simpa using this)
    simp [PySem.PyData.eqv, c]
end Mp
set_option maxHeartbeats 4000000
namespace Mp
section
variable {P : Pg}
theorem set3_0 {h : Hd} {a b c x : Ob} : (h ++ [a, b, c]).set h.length x = h ++ [x, b, c] := by rw [List.set_append_right _ _ (Nat.le_refl _)]; simp
theorem set3_1 {h : Hd} {a b c x : Ob} : (h ++ [a, b, c]).set (h.length + 1) x = h ++ [a, x, c] := by rw [List.set_append_right _ _ (by omega)]; simp
theorem get3_0 {h : Hd} {a b c : Ob} : (h ++ [a, b, c])[h.length]? = some a := by simp
theorem get3_1 {h : Hd} {a b c : Ob} : (h ++ [a, b, c])[h.length + 1]? = some b := by rw [List.getElem?_append_right (by omega)]; simp
theorem get3_2 {h : Hd} {a b c : Ob} : (h ++ [a, b, c])[h.length + 2]? = some c := by rw [List.getElem?_append_right (by omega)]; simp
def fndT (t : List Nat) : D := fD (dgT (t.take 1)) ((splitC 32 (t.drop 3)).map wRow) ((splitC 32 (t.drop 3)).map wLet)
theorem digs_map {C : Cl} {fd : Nat} {σ : Sl} {j : Nat} {h : Hd} {s : List Nat} {it : I} (hit : evI C it σ h = .ok ((.s s, s.map fun c => .str [c]), h)) (hj : j < σ.length) (hl : s.length ≤ 100000) (hc : ∀ s h, C.call fd [.str s] h = .ok (.int (dgT s), h)) :
    evR C (.comp [j] (.nm j) it (.c (.bl true)) (.call fd [.v j])) σ h = .ok (.l (iI (s.map dgt)), h) := by
  have e := ev_map (C := C) (i := j) (it := it) (elt := .call fd [.v j]) (σ := σ) (h := h) (h1 := h) (q := .s s) (l := s) (φ := fun c => .str [c]) (ψ := fun c => .int (dgt c)) hit rfl hj (le_sizeL (by omega)) (fun c _ => by
    have g : getV (σ.set j (some (.str [c]))) j = .ok (.str [c]) := by simp [getV, hj]
    simp [g, hc, dgT])
  rw [e]
  simp [iI]
/-! ### the text of a machine is read -/
theorem dgt_of {d : Nat} (h : d ≤ 3) : dgt (48 + d) = (d : Int) := by
  unfold dgt isDg
  rw [if_pos (by simp; omega)]
  omega
theorem wRow_of {r : List Nat} {l : Nat} (ht : ∀ t ∈ r, t ≤ 3) : wRow (wdT r l) = r.map Int.ofNat := by
  have e : (wdT r l).take ((wdT r l).length - 2) = r.map (48 + ·) := by
    have : (wdT r l).length - 2 = (r.map (48 + ·)).length := by simp [wdT]
    rw [this, wdT, List.take_left']
    rfl
  unfold wRow
  rw [e, List.map_map]
  exact List.map_congr_left fun t hm => dgt_of (ht t hm)
theorem wLet_of {r : List Nat} {l : Nat} (hl : l ≤ 3) : wLet (wdT r l) = (l : Int) := by
  have e : (wdT r l).drop ((wdT r l).length - 1) = [48 + l] := by
    have : wdT r l = (r.map (48 + ·) ++ [47]) ++ [48 + l] := by simp [wdT]
    rw [this, List.length_append, List.length_singleton, Nat.add_sub_cancel, List.drop_left']
    rfl
  unfold wLet
  rw [e]
  exact dgt_of hl
theorem nosp {r : List Nat} {l : Nat} (hl : l ≤ 3) : 32 ∉ wdT r l := by
  unfold wdT
  intro h
  rcases List.mem_append.mp h with h | h
  · obtain ⟨x, _, e⟩ := List.mem_map.mp h; omega
  · simp at h; omega
theorem zip_fst {α β : Type} : ∀ {xs : List α} {ys : List β}, ys.length = xs.length → (xs.zip ys).map (·.1) = xs ∧ (xs.zip ys).map (·.2) = ys
  | [], [], _ => ⟨rfl, rfl⟩
  | x :: xs, y :: ys, h => by
    obtain ⟨a, b⟩ := zip_fst (xs := xs) (ys := ys) (by simpa using h)
    simp [a, b]
theorem words_ne {m : Mc} (o : m.ok) : m.words ≠ [] := by
  intro h
  have e : m.words.length = 0 := by rw [h]; rfl
  unfold Mc.words at e
  rw [List.length_map, List.length_zip, o.ll, Nat.min_self] at e
  have := o.r1
  omega
theorem tx_split {m : Mc} (o : m.ok) : splitC 32 (m.tx.drop 3) = m.words := by
  show splitC 32 (joinS [32] m.words) = _
  refine join_split 32 _ (words_ne o) fun w hw => ?_
  obtain ⟨p, hp, rfl⟩ := List.mem_map.mp hw
  exact nosp (by have := (o.zip hp).2.2; omega)
theorem fnd_tx {m : Mc} (o : m.ok) : dgT (m.tx.take 1) = (m.b : Int) ∧ (splitC 32 (m.tx.drop 3)).map wRow = m.rows.map (·.map Int.ofNat) ∧ (splitC 32 (m.tx.drop 3)).map wLet = m.lets.map Int.ofNat := by
  rw [tx_split o]
  obtain ⟨z1, z2⟩ := zip_fst (xs := m.rows) (ys := m.lets) o.ll
  refine ⟨dgt_of (by have := o.b3; omega), ?_, ?_⟩
  · unfold Mc.words
    rw [List.map_map]
    conv => rhs; rw [← z1, List.map_map]
    exact List.map_congr_left fun p hp => wRow_of (o.zip hp).2.1
  · unfold Mc.words
    rw [List.map_map]
    conv => rhs; rw [← z2, List.map_map]
    exact List.map_congr_left fun p hp => wLet_of (by have := (o.zip hp).2.2; omega)
theorem fndT_tx {m : Mc} (o : m.ok) : fndT m.tx = m.d := by
  obtain ⟨a, b, c⟩ := fnd_tx o
  unfold fndT
  rw [a, b, c, ← mc_fD]
theorem ofNat_inj : ∀ {xs ys : List Nat}, xs.map Int.ofNat = ys.map Int.ofNat → xs = ys
  | [], [], _ => rfl
  | [], _ :: _, h => by simp at h
  | _ :: _, [], h => by simp at h
  | x :: xs, y :: ys, h => by
    rw [List.map_cons, List.map_cons] at h
    injection h with h1 h2
    rw [Int.ofNat.inj h1, ofNat_inj h2]
theorem ofNat_injs : ∀ {xs ys : List (List Nat)}, xs.map (·.map Int.ofNat) = ys.map (·.map Int.ofNat) → xs = ys
  | [], [], _ => rfl
  | [], _ :: _, h => by simp at h
  | _ :: _, [], h => by simp at h
  | x :: xs, y :: ys, h => by
    rw [List.map_cons, List.map_cons] at h
    injection h with h1 h2
    rw [ofNat_inj h1, ofNat_injs h2]
/-- a machine's numbers are a machine's -/
theorem mc_isM {m : Mc} (o : m.ok) : isM m.b (m.rows.map (·.map Int.ofNat)) (m.lets.map Int.ofNat) = true := by
  have hb2 := o.b2
  have hb3 := o.b3
  have hr1 := o.r1
  have hr4 := o.r4
  unfold isM
  simp only [Bool.and_eq_true, decide_eq_true_eq, List.length_map, List.all_eq_true]
  refine ⟨⟨by omega, by omega⟩, ⟨hr1, hr4⟩, fun r hr => ?_, o.ll, ?_, fun l hl => ?_⟩
  · obtain ⟨r', hm, rfl⟩ := List.mem_map.mp hr
    unfold rowOk
    simp only [Bool.and_eq_true, decide_eq_true_eq, List.length_map, List.all_eq_true]
    refine ⟨by rw [o.rl r' hm], fun t ht => ?_⟩
    obtain ⟨t', hm2, rfl⟩ := List.mem_map.mp ht
    have := o.rt r' hm t' hm2
    constructor
    · exact Int.natCast_nonneg _
    · show ((t' : Nat) : Int) ≤ _; omega
  · obtain ⟨r, rs, e⟩ := o.z
    rw [e]
    rfl
  · obtain ⟨l', hm, rfl⟩ := List.mem_map.mp hl
    have := o.l3 l' hm
    constructor
    · exact Int.natCast_nonneg _
    · show ((l' : Nat) : Int) ≤ 2; omega
theorem mc_inj {m m' : Mc} {a : Int} {rows : List (List Int)} {lets : List Int} (e1 : a = m.b) (e2 : rows = m.rows.map (·.map Int.ofNat)) (e3 : lets = m.lets.map Int.ofNat) (d1 : a = m'.b) (d2 : rows = m'.rows.map (·.map Int.ofNat)) (d3 : lets = m'.lets.map Int.ofNat) : m = m' := by
  obtain ⟨b, r, l⟩ := m
  obtain ⟨b', r', l'⟩ := m'
  have h1 : b = b' := by have := e1.symm.trans d1; exact Int.ofNat.inj this
  have h2 : r = r' := ofNat_injs (e2.symm.trans d2)
  have h3 : l = l' := ofNat_inj (e3.symm.trans d3)
  rw [h1, h2, h3]
theorem tx_ok {m : Mc} (o : m.ok) : m.tx.all (· < 0x110000) = true := by
  have hb := o.b3
  rw [List.all_eq_true]
  have key : ∀ ws : List (List Nat), (∀ w ∈ ws, ∀ c ∈ w, c < 100) → ∀ c ∈ joinS [32] ws, c < 100 := by
    intro ws
    induction ws with
    | nil => intro _ c hc; cases hc
    | cons w ws ih =>
      intro h c hc
      cases ws with
      | nil => exact h w List.mem_cons_self c hc
      | cons w2 ws =>
        rw [joinS] at hc
        · rcases List.mem_append.mp hc with hc | hc
          · rcases List.mem_append.mp hc with hc | hc
            · exact h w List.mem_cons_self c hc
            · simp at hc; omega
          · exact ih (fun x hx => h x (List.mem_cons_of_mem _ hx)) c hc
        · intro z; cases z
  intro c hc
  unfold Mc.tx at hc
  rcases List.mem_append.mp hc with hc | hc
  · simp at hc
    rcases hc with rfl | rfl | rfl <;> simp
    omega
  · have := key m.words (fun w hw c hc => by
      obtain ⟨p, hp, rfl⟩ := List.mem_map.mp hw
      obtain ⟨_, z2, z3⟩ := o.zip hp
      unfold wdT at hc
      rcases List.mem_append.mp hc with hc | hc
      · obtain ⟨x, hx, rfl⟩ := List.mem_map.mp hc
        have := z2 x hx
        omega
      · simp at hc; omega) c hc
    simp; omega
end
end Mp
set_option maxHeartbeats 4000000
namespace Mp
section
variable {P : Pg}
theorem los_iI {m : Nat} : ∀ xs : List Int, D.los m (iI xs) = true
  | [] => rfl
  | x :: xs => by show (D.lo m (.int x) && D.los m (iI xs)) = true; rw [los_iI xs]; rfl
theorem los_rI {m : Nat} : ∀ xs : List (List Int), D.los m (rI xs) = true
  | [] => rfl
  | x :: xs => by show (D.los m (iI x) && D.los m (rI xs)) = true; rw [los_iI, los_rI xs]; rfl
theorem lo_fD {m : Nat} {a : Int} {r : List (List Int)} {l : List Int} : D.lo m (fD a r l) = true := by
  show (true && (D.los m (rI r) && (D.los m (iI l) && true))) = true
  rw [los_iI, los_rI]; rfl
theorem wl_len {t : List Nat} (hl : t.length ≤ 1000) : (splitC 32 (t.drop 3)).length ≤ 1001 ∧ ∀ w ∈ splitC 32 (t.drop 3), w.length ≤ 1000 := by
  constructor
  · have := split_len 32 (t.drop 3)
    simp at this; omega
  · intro w hw
    have := split_wlen 32 _ w hw
    simp at this; omega
theorem ev_neg {C : Cl} {i : Int} {σ : Sl} {h : Hd} : vl (evR C (.neg (.c (.int i))) σ h) = .ok (.int (-i), h) := rfl
/-- what parse_machine finds -/
theorem parse_loop {n fd : Nat} (hd : P.df fd = some b_digit_of) {t : List Nat} (hl : t.length ≤ 1000) (h : Hd) :
    ∃ x, evS (P.cl (n + 1)) (.for_ (.nm 3) (.sq (.m1 .split (.sl (.v 0) (.c (.int (3))) (.c .non)) (.c (.str [32])))) [(.ex (.m1 .append (.v 1) (.b1 .tuple (.comp [5] (.nm 5) (.sq (.sl (.v 3) (.c .non) (.neg (.c (.int (2)))))) (.c (.bl true)) (.call fd [(.v 5)]))))), (.ex (.m1 .append (.v 2) (.call fd [(.sl (.v 3) (.neg (.c (.int (1)))) (.c .non))])))])
      [some (.str t), some (.ob h.length), some (.ob (h.length + 1)), none, none, none] (h ++ [.lst [], .lst []]) = .nx [some (.str t), some (.ob h.length), some (.ob (h.length + 1)), x, none, none] (h ++ [.lst (rI ((splitC 32 (t.drop 3)).map wRow)), .lst (iI ((splitC 32 (t.drop 3)).map wLet)), .lst ((splitC 32 (t.drop 3)).map .str)]) := by
  obtain ⟨wl1, wl2⟩ := wl_len hl
  have hc : ∀ s h, (P.cl (n + 1)).call fd [.str s] h = .ok (.int (dgT s), h) := fun s h => digit_of_ok hd n s h
  have e3 := sl_from (t := t) (k := 3) (h := h ++ [Ob.lst [], .lst []]) (by omega)
  have es := split_D (c := 32) (by decide) (t := t.drop 3) (by simp; omega) (h ++ [Ob.lst [], .lst []])
  have en : (h ++ [Ob.lst [], .lst []]).length = h.length + 2 := by simp
  rw [en] at es
  have ea : (h ++ [Ob.lst [], Ob.lst []]) ++ [Ob.lst ((splitC 32 (t.drop 3)).map D.str)] = h ++ [.lst [], .lst [], .lst ((splitC 32 (t.drop 3)).map D.str)] := by simp
  rw [ea] at es
  generalize splitC 32 (t.drop 3) = W at *
  have gq : sqOf (h ++ [Ob.lst [], .lst [], .lst (W.map D.str)]) (.ob (h.length + 2)) = some (.l (some (h.length + 2)) (W.map D.str)) := by simp only [sqOf, get3_2]
  obtain ⟨σ', h', e, x, done, rfl, rfl, ed⟩ := ev_for (C := P.cl (n + 1)) (t := .nm 3) (it := (.sq (.m1 .split (.sl (.v 0) (.c (.int (3))) (.c .non)) (.c (.str [32]))))) (b := [(.ex (.m1 .append (.v 1) (.b1 .tuple (.comp [5] (.nm 5) (.sq (.sl (.v 3) (.c .non) (.neg (.c (.int (2)))))) (.c (.bl true)) (.call fd [(.v 5)]))))), (.ex (.m1 .append (.v 2) (.call fd [(.sl (.v 3) (.neg (.c (.int (1)))) (.c .non))])))])
    (σ := [some (.str t), some (.ob h.length), some (.ob (h.length + 1)), none, none, none]) (h := h ++ [.lst [], .lst []]) (h1 := h ++ [.lst [], .lst [], .lst (W.map D.str)]) (q := .l (some (h.length + 2)) (W.map D.str)) (l := W) (φ := D.str)
    (fun l σ h' => ∃ x done, σ = [some (.str t), some (.ob h.length), some (.ob (h.length + 1)), x, none, none] ∧ h' = h ++ [.lst (rI (done.map wRow)), .lst (iI (done.map wLet)), .lst (W.map D.str)] ∧ done ++ l = W)
    (by
      have e3' : slD (.str t) (.int 3) .non (h ++ [Ob.lst [], .lst []]) = .ok (.str (t.drop 3), h ++ [.lst [], .lst []]) := e3
      simp only [evI_sq, evR_split, evR_sl, evR_v, getV_z, R.ok_bind, vl_v, evR_c, prtR_int, numR_int, prtR_non, e3', rv_ok, rcv_split, es]
      simp only [qs, R.ok_bind, gq, items_l, lockH_l])
    (fun w l σ h' ⟨x, done, es, eh, ed⟩ => by
      subst es; subst eh
      have hw : w ∈ W := by rw [← ed]; simp
      have wl := wl2 w hw
      have hdn : done.length ≤ 1001 := by rw [← ed] at wl1; simp at wl1; omega
      refine ⟨[some (.str t), some (.ob h.length), some (.ob (h.length + 1)), some (.str w), none, none], [some (.str t), some (.ob h.length), some (.ob (h.length + 1)), some (.str w), none, none], h ++ [.lst (rI ((done ++ [w]).map wRow)), .lst (iI ((done ++ [w]).map wLet)), .lst (W.map D.str)], rfl, .inl ?_, by simp [still, get3_2], _, done ++ [w], rfl, rfl, by simpa using ed⟩
      have c2 := sl_cut2 (t := w) (h := h ++ [.lst (rI (done.map wRow)), .lst (iI (done.map wLet)), .lst (W.map D.str)]) (by omega)
      have dm := digs_map (C := P.cl (n + 1)) (fd := fd) (σ := [some (.str t), some (.ob h.length), some (.ob (h.length + 1)), some (.str w), none, none]) (j := 5) (h := h ++ [.lst (rI (done.map wRow)), .lst (iI (done.map wLet)), .lst (W.map D.str)]) (s := w.take (w.length - 2)) (it := .sq (.sl (.v 3) (.c .non) (.neg (.c (.int (2))))))
        (by simp [c2]) (by simp) (by simp; omega) hc
      have a0 := append_ob (k := h.length) (d := .tup (iI (wRow w))) (h := h ++ [.lst (rI (done.map wRow)), .lst (iI (done.map wLet)), .lst (W.map D.str)]) get3_0 (lt_sizeL (by rw [rI_len]; simp; omega))
      rw [set3_0] at a0
      have c1 := sl_last (t := w) (h := h ++ [.lst (rI (done.map wRow) ++ [.tup (iI (wRow w))]), .lst (iI (done.map wLet)), .lst (W.map D.str)]) (by omega)
      have a1 := append_ob (k := h.length + 1) (d := .int (wLet w)) (h := h ++ [.lst (rI (done.map wRow) ++ [.tup (iI (wRow w))]), .lst (iI (done.map wLet)), .lst (W.map D.str)]) get3_1 (lt_sizeL (by rw [iI_len]; simp; omega))
      rw [set3_1] at a1
      have r0 := rcv_append (k := h.length) (h := h ++ [.lst (rI (done.map wRow)), .lst (iI (done.map wLet)), .lst (W.map D.str)]) get3_0
      have r1 := rcv_append (k := h.length + 1) (h := h ++ [.lst (rI (done.map wRow) ++ [.tup (iI (wRow w))]), .lst (iI (done.map wLet)), .lst (W.map D.str)]) get3_1
      have eR : rI ((done ++ [w]).map wRow) = rI (done.map wRow) ++ [.tup (iI (wRow w))] := by simp [rI]
      have eL : iI ((done ++ [w]).map wLet) = iI (done.map wLet) ++ [.int (wLet w)] := by simp [iI]
      rw [eR, eL]
      have dm' : evR (P.cl (n + 1)) (.comp [5] (.nm 5) (.sq (.sl (.v 3) (.c .non) (.neg (.c (.int (2)))))) (.c (.bl true)) (.call fd [(.v 5)])) [some (.str t), some (.ob h.length), some (.ob (h.length + 1)), some (.str w), none, none] (h ++ [.lst (rI (done.map wRow)), .lst (iI (done.map wLet)), .lst (W.map D.str)]) = .ok (.l (iI (wRow w)), h ++ [.lst (rI (done.map wRow)), .lst (iI (done.map wLet)), .lst (W.map D.str)]) := dm
      have hcw : ∀ hh, callF P (n + 1) fd [.str (w.drop (w.length - 1))] hh = .ok (.int (wLet w), hh) := fun hh => hc _ hh
      simp [r0, dm', a0, r1, c1, hcw, a1])
    ⟨none, [], rfl, rfl, rfl⟩
  rw [List.append_nil] at ed
  subst ed
  exact ⟨x, e⟩
theorem parse_ok {f fd fi ft e f0 : Nat} (hf : P.df f = some (b_parse_machine fd fi ft e)) (hd : P.df fd = some b_digit_of) (hi : P.df fi = some (b_is_machine f0)) (h0 : P.df f0 = some b_is_between) (ht : P.df ft = some b_text_of) (n : Nat) {t : List Nat} (hl : t.length ≤ 1000) (hc : t.all (· < 0x110000) = true) (h : Hd) :
    (∃ m : Mc, m.ok ∧ m.tx = t ∧ callF P (n + 3) f [.str t] h = .ok (m.d, h)) ∨ ((∀ m : Mc, m.ok → m.tx ≠ t) ∧ callF P (n + 3) f [.str t] h = .ex e h) := by
  rw [callF_at hf rfl]
  obtain ⟨wl1, wl2⟩ := wl_len hl
  obtain ⟨x, loop⟩ := parse_loop (P := P) (n := n + 1) hd hl h
  have en : (h ++ [Ob.lst []]).length = h.length + 1 := by simp
  have g0 : qs (.ok (.v (.ob h.length), h ++ [.lst (rI ((splitC 32 (t.drop 3)).map wRow)), .lst (iI ((splitC 32 (t.drop 3)).map wLet)), .lst ((splitC 32 (t.drop 3)).map .str)])) = .ok (.l (some h.length) (rI ((splitC 32 (t.drop 3)).map wRow)), h ++ [.lst (rI ((splitC 32 (t.drop 3)).map wRow)), .lst (iI ((splitC 32 (t.drop 3)).map wLet)), .lst ((splitC 32 (t.drop 3)).map .str)]) := qs_ob get3_0
  have g1 : qs (.ok (.v (.ob (h.length + 1)), h ++ [.lst (rI ((splitC 32 (t.drop 3)).map wRow)), .lst (iI ((splitC 32 (t.drop 3)).map wLet)), .lst ((splitC 32 (t.drop 3)).map .str)])) = .ok (.l (some (h.length + 1)) (iI ((splitC 32 (t.drop 3)).map wLet)), h ++ [.lst (rI ((splitC 32 (t.drop 3)).map wRow)), .lst (iI ((splitC 32 (t.drop 3)).map wLet)), .lst ((splitC 32 (t.drop 3)).map .str)]) := qs_ob get3_1
  have e1 := sl_to (t := t) (k := 1) (h := h ++ [.lst (rI ((splitC 32 (t.drop 3)).map wRow)), .lst (iI ((splitC 32 (t.drop 3)).map wLet)), .lst ((splitC 32 (t.drop 3)).map .str)]) (by omega)
  have e1' : slD (.str t) .non (.int 1) (h ++ [.lst (rI ((splitC 32 (t.drop 3)).map wRow)), .lst (iI ((splitC 32 (t.drop 3)).map wLet)), .lst ((splitC 32 (t.drop 3)).map .str)]) = _ := e1
  have d0 := digit_of_ok hd (n + 1) (t.take 1) (h ++ [.lst (rI ((splitC 32 (t.drop 3)).map wRow)), .lst (iI ((splitC 32 (t.drop 3)).map wLet)), .lst ((splitC 32 (t.drop 3)).map .str)])
  have im := is_machine_all hi h0 n (dgT (t.take 1)) ((splitC 32 (t.drop 3)).map wRow) ((splitC 32 (t.drop 3)).map wLet) (by simp; omega) (fun r hr => by
    obtain ⟨w, hw, rfl⟩ := List.mem_map.mp hr
    have := wl2 w hw
    unfold wRow
    simp; omega) (h ++ [.lst (rI ((splitC 32 (t.drop 3)).map wRow)), .lst (iI ((splitC 32 (t.drop 3)).map wLet)), .lst ((splitC 32 (t.drop 3)).map .str)])
  have efd : D.tup [.int (dgT (t.take 1)), .tup (rI ((splitC 32 (t.drop 3)).map wRow)), .tup (iI ((splitC 32 (t.drop 3)).map wLet))] = fD (dgT (t.take 1)) ((splitC 32 (t.drop 3)).map wRow) ((splitC 32 (t.drop 3)).map wLet) := rfl
  cases c : isM (dgT (t.take 1)) ((splitC 32 (t.drop 3)).map wRow) ((splitC 32 (t.drop 3)).map wLet) with
  | false =>
    rw [c] at im
    refine .inr ⟨fun m o q => ?_, ?_⟩
    · subst q
      obtain ⟨a, b, c'⟩ := fnd_tx o
      rw [a, b, c', mc_isM o] at c
      cases c
    · simp [b_parse_machine, loop, g0, g1, e1', d0, efd, im]
  | true =>
    rw [c] at im
    obtain ⟨m, o, em, q1, q2, q3⟩ := isM_mc c
    rw [em] at im efd
    have tx := text_of_ok ht (n + 1) o (h ++ [.lst (rI ((splitC 32 (t.drop 3)).map wRow)), .lst (iI ((splitC 32 (t.drop 3)).map wLet)), .lst ((splitC 32 (t.drop 3)).map .str)])
    have pe := pyEq_str (h ++ [.lst (rI ((splitC 32 (t.drop 3)).map wRow)), .lst (iI ((splitC 32 (t.drop 3)).map wLet)), .lst ((splitC 32 (t.drop 3)).map .str)]) (tx_ok o) hc
    have ne : cmpD .ne (.str m.tx) (.str t) (h ++ [.lst (rI ((splitC 32 (t.drop 3)).map wRow)), .lst (iI ((splitC 32 (t.drop 3)).map wLet)), .lst ((splitC 32 (t.drop 3)).map .str)]) = .ok (!decide (m.tx = t)) := by simp [cmpD, pe]
    by_cases k : m.tx = t
    · rw [decide_eq_true k] at ne
      have g : gc h m.d (h ++ [.lst (rI ((splitC 32 (t.drop 3)).map wRow)), .lst (iI ((splitC 32 (t.drop 3)).map wLet)), .lst ((splitC 32 (t.drop 3)).map .str)]) = (m.d, h) := gc_app m.lo
      exact .inl ⟨m, o, k, by simp [b_parse_machine, loop, g0, g1, e1', d0, efd, im, tx, ne, g]⟩
    · rw [decide_eq_false k] at ne
      refine .inr ⟨fun m' o' q => k ?_, by simp [b_parse_machine, loop, g0, g1, e1', d0, efd, im, tx, ne]⟩
      subst q
      obtain ⟨a, b, c'⟩ := fnd_tx o'
      exact congrArg Mc.tx (mc_inj q1 q2 q3 a b c')
end
end Mp
set_option maxHeartbeats 4000000
namespace Mp
/-! ### a word, read plainly -/
def good (w : List Nat) : Bool := match splitC 47 w with
  | [a, [c]] => (a ++ [c]).all isDg
  | _ => false
def gR (w : List Nat) : List Nat := match splitC 47 w with
  | [a, [_]] => a.map (· - 48)
  | _ => []
def gL (w : List Nat) : Nat := match splitC 47 w with
  | [_, [c]] => c - 48
  | _ => 0
theorem good_two {w : List Nat} (h : good w = true) : ∃ a c, splitC 47 w = [a, [c]] ∧ a.all isDg = true ∧ isDg c = true ∧ gR w = a.map (· - 48) ∧ gL w = c - 48 := by
  unfold good at h
  split at h
  · rename_i a c e
    rw [List.all_append, Bool.and_eq_true] at h
    refine ⟨a, c, e, h.1, by simpa using h.2, ?_, ?_⟩
    · unfold gR; rw [e]
    · unfold gL; rw [e]
  · cases h
theorem isDg_le {c : Nat} (h : isDg c = true) : 48 ≤ c ∧ c ≤ 51 := by
  unfold isDg at h
  simpa using h
theorem good_eq {w : List Nat} (h : good w = true) : w = wdT (gR w) (gL w) := by
  obtain ⟨a, c, e, ha, hc, e1, e2⟩ := good_two h
  have j := split_join 47 w
  rw [e] at j
  rw [e1, e2, wdT, List.map_map]
  have em : a.map ((48 + ·) ∘ (· - 48)) = a := by
    conv => rhs; rw [← List.map_id a]
    refine List.map_congr_left fun x hx => ?_
    have := (isDg_le (List.all_eq_true.mp ha x hx)).1
    show 48 + (x - 48) = x
    omega
  rw [em]
  have := (isDg_le hc).1
  rw [show 48 + (c - 48) = c by omega]
  rw [← j]
  simp [joinS]
theorem good_wd {r : List Nat} {l : Nat} (hr : ∀ t ∈ r, t ≤ 3) (hl : l ≤ 3) : good (wdT r l) = true ∧ gR (wdT r l) = r ∧ gL (wdT r l) = l := by
  have n47 : 47 ∉ r.map (48 + ·) := fun h => by
    obtain ⟨x, _, e⟩ := List.mem_map.mp h
    omega
  have e : splitC 47 (wdT r l) = [r.map (48 + ·), [48 + l]] := by
    show splitC 47 (r.map (48 + ·) ++ 47 :: [48 + l]) = _
    rw [split_pre 47 _ _ n47, split_one 47 [48 + l] (by simp; omega)]
  refine ⟨?_, ?_, ?_⟩
  · unfold good
    rw [e]
    simp only [List.all_append, Bool.and_eq_true, List.all_eq_true, List.mem_map]
    constructor
    · rintro x ⟨y, hy, rfl⟩
      have := hr y hy
      unfold isDg; simp; omega
    · intro x hx
      have : x = 48 + l := by simpa using hx
      subst this
      unfold isDg; simp; omega
  · unfold gR
    rw [e]
    show (r.map (48 + ·)).map (· - 48) = r
    rw [List.map_map]
    conv => rhs; rw [← List.map_id r]
    refine List.map_congr_left fun x hx => ?_
    show 48 + x - 48 = x
    omega
  · unfold gL
    rw [e]
    show 48 + l - 48 = l
    omega
/-! ### [x for x in .. if c] -/
theorem ev_filt {α : Type} {C : Cl} {i : Nat} {it : I} {c elt : E} {σ : Sl} {h h1 : Hd} {q : Sq} {l : List α} {φ : α → D} {ψ : α → D} {p : α → Bool} (hi : evI C it σ h = .ok ((q, l.map φ), h1)) (hn : i < σ.length) (hl : l.length ≤ sizeL)
    (fc : ∀ a ∈ l, ts (evR C c (σ.set i (some (φ a))) h1) = .ok (p a, h1)) (f : ∀ a ∈ l, p a = true → vl (evR C elt (σ.set i (some (φ a))) h1) = .ok (ψ a, h1)) (ho : still h1 q = true := by rfl) (hq : ∀ h, openH h q = h := by intro; rfl) :
    evR C (.comp [i] (.nm i) it c elt) σ h = .ok (.l ((l.filter p).map ψ), h1) := by
  have q1 := hq h1
  have e0 : ∀ ys, compF (fun h => still h q) (.nm i) [i] (fun σ h => ts (evR C c σ h)) (fun σ h => vl (evR C elt σ h)) σ (l.map φ) h1 = .ok (ys, h1) → ys.length ≤ sizeL → evR C (.comp [i] (.nm i) it c elt) σ h = .ok (.l ys, h1) := fun ys a b => by have := ev_comp hi a b; rwa [q1] at this
  refine e0 _ ?_ (by rw [List.length_map]; exact Nat.le_trans (List.length_filter_le p l) hl)
  clear e0 hi hl
  induction l with
  | nil => rfl
  | cons a l ih =>
    have e := fc a List.mem_cons_self
    have e2 := f a List.mem_cons_self
    have r := ih (fun b hb => fc b (List.mem_cons_of_mem _ hb)) fun b hb => f b (List.mem_cons_of_mem _ hb)
    have e1 : asgT (.nm i) (φ a) (wipe σ [i]) = some (σ.set i (some (φ a))) := by simp [wipe, hn]
    rw [List.map_cons, compF, e1]
    cases c : p a with
    | true =>
      rw [c] at e
      simp only [e, e2 c, ho, if_true, r, List.filter_cons, c, List.map_cons]
    | false =>
      rw [c] at e
      simp only [e, ho, if_true, r, List.filter_cons, c]
      simp
theorem strs_mapM (h : Hd) (n : Nat) {ss : List (List Nat)} (hs : ∀ s ∈ ss, s.all (· < 0x110000) = true) : (ss.map D.str).mapM (toP h (n + 1)) = some (ss.map fun s => PySem.PyData.str ⟨s.toArray⟩) := by
  induction ss with
  | nil => rfl
  | cons s ss ih =>
    rw [List.map_cons, List.mapM_cons, ih fun x hx => hs x (List.mem_cons_of_mem _ hx)]
    show (do let b ← (if s.all (· < 0x110000) then some (PySem.PyData.str ⟨s.toArray⟩) else none); _) = _
    rw [if_pos (hs s List.mem_cons_self)]
    rfl
theorem ne_nil_strs {h : Hd} {i j : Nat} {ss : List (List Nat)} (hs : ∀ s ∈ ss, s.all (· < 0x110000) = true) (e1 : h[i]? = some (.lst (ss.map D.str))) (e2 : h[j]? = some (.lst [])) : cmpD .ne (.ob i) (.ob j) h = .ok (decide (ss ≠ [])) := by
  have t1 : toP h 40 (.ob i) = some (.list (ss.map fun s => PySem.PyData.str ⟨s.toArray⟩)) := by
    show (match h[i]? with
      | some (.lst xs) => (xs.mapM (toP h 39)).map PySem.PyData.list
      | some (.scr xs) => (xs.mapM (toP h 39)).map PySem.PyData.list
      | _ => none) = _
    rw [e1]
    show ((ss.map D.str).mapM (toP h 39)).map PySem.PyData.list = _
    rw [strs_mapM h 38 hs]; rfl
  have t2 : toP h 40 (.ob j) = some (.list []) := by
    show (match h[j]? with
      | some (.lst xs) => (xs.mapM (toP h 39)).map PySem.PyData.list
      | some (.scr xs) => (xs.mapM (toP h 39)).map PySem.PyData.list
      | _ => none) = _
    rw [e2]; rfl
  simp only [cmpD, pyEq, t1, t2]
  cases ss with
  | nil => simp [PySem.PyData.eqv, PySem.PyData.eqvAll]
  | cons s ss => simp [PySem.PyData.eqv, PySem.PyData.eqvAll]
end Mp
set_option maxHeartbeats 4000000
namespace Mp
section
variable {P : Pg}
theorem setC0 {h g : Hd} {a b c x : Ob} : (h ++ a :: b :: c :: g).set h.length x = h ++ x :: b :: c :: g := by rw [List.set_append_right _ _ (Nat.le_refl _)]; simp
theorem setC1 {h g : Hd} {a b c x : Ob} : (h ++ a :: b :: c :: g).set (h.length + 1) x = h ++ a :: x :: c :: g := by rw [List.set_append_right _ _ (by omega)]; simp
theorem getC0 {h g : Hd} {a b c : Ob} : (h ++ a :: b :: c :: g)[h.length]? = some a := by simp
theorem getC1 {h g : Hd} {a b c : Ob} : (h ++ a :: b :: c :: g)[h.length + 1]? = some b := by rw [List.getElem?_append_right (by omega)]; simp
theorem getC2 {h g : Hd} {a b c : Ob} : (h ++ a :: b :: c :: g)[h.length + 2]? = some c := by rw [List.getElem?_append_right (by omega)]; simp
def pr_body : List S := [(.asg (.nm 5) (.m1 .split (.v 1) (.c (.str [47])))), (.ite (.or_ (.cmp .ne (.b1 .len (.v 5)) (.c (.int (2)))) (.cmp .ne (.b1 .len (.ix (.v 5) (.c (.int (1))))) (.c (.int (1))))) [(.ret (.c .non))] []), (.ite (.cmp .ne (.comp [6] (.nm 6) (.sq (.bin .add (.ix (.v 5) (.c (.int (0)))) (.ix (.v 5) (.c (.int (1)))))) (.cmp .notin (.v 6) (.c (.str [48, 49, 50, 51]))) (.v 6)) (.lst [])) [(.ret (.c .non))] []), (.ex (.m1 .append (.v 3) (.b1 .tuple (.comp [6] (.nm 6) (.sq (.ix (.v 5) (.c (.int (0))))) (.c (.bl true)) (.m1 .index (.c (.str [48, 49, 50, 51])) (.v 6)))))), (.ex (.m1 .append (.v 4) (.m1 .index (.c (.str [48, 49, 50, 51])) (.ix (.v 5) (.c (.int (1)))))))]
def b__law_plain_read (x_is_machine : Nat) : Df := ⟨1, 7, [
  (.ite (.cmp .notin (.sl (.v 0) (.c .non) (.c (.int (3)))) (.tup [(.c (.str [50, 58, 32])), (.c (.str [51, 58, 32]))])) [(.ret (.c .non))] []),
  (.par [3, 4] [(.lst []), (.lst [])]),
  (.for_ (.nm 1) (.sq (.m1 .split (.sl (.v 0) (.c (.int (3))) (.c .non)) (.c (.str [32])))) [(.asg (.nm 5) (.m1 .split (.v 1) (.c (.str [47])))), (.ite (.or_ (.cmp .ne (.b1 .len (.v 5)) (.c (.int (2)))) (.cmp .ne (.b1 .len (.ix (.v 5) (.c (.int (1))))) (.c (.int (1))))) [(.ret (.c .non))] []), (.ite (.cmp .ne (.comp [6] (.nm 6) (.sq (.bin .add (.ix (.v 5) (.c (.int (0)))) (.ix (.v 5) (.c (.int (1)))))) (.cmp .notin (.v 6) (.c (.str [48, 49, 50, 51]))) (.v 6)) (.lst [])) [(.ret (.c .non))] []), (.ex (.m1 .append (.v 3) (.b1 .tuple (.comp [6] (.nm 6) (.sq (.ix (.v 5) (.c (.int (0))))) (.c (.bl true)) (.m1 .index (.c (.str [48, 49, 50, 51])) (.v 6)))))), (.ex (.m1 .append (.v 4) (.m1 .index (.c (.str [48, 49, 50, 51])) (.ix (.v 5) (.c (.int (1)))))))]),
  (.asg (.nm 2) (.tup [(.m1 .index (.c (.str [48, 49, 50, 51])) (.ix (.v 0) (.c (.int (0))))), (.b1 .tuple (.v 3)), (.b1 .tuple (.v 4))])),
  (.ret (.ite (.call x_is_machine [(.v 2)]) (.v 2) (.c .non)))]⟩
@[simp] theorem nin_str {c : Nat} {t : List Nat} {h : Hd} : cmpD .notin (.str [c]) (.str t) h = .ok (!decide (c ∈ t)) := rfl
theorem mem_dg {c : Nat} : (decide (c ∈ [48, 49, 50, 51])) = isDg c := by
  unfold isDg
  by_cases h : 48 ≤ c ∧ c ≤ 51
  · have : c = 48 ∨ c = 49 ∨ c = 50 ∨ c = 51 := by omega
    rcases this with rfl | rfl | rfl | rfl <;> rfl
  · rw [Bool.eq_iff_iff]
    simp
    omega
/-- one word's turn -/
theorem pr_word {C : Cl} {w : List Nat} (hw : w.length ≤ 1000) (hc : w.all (· < 0x110000) = true) {t : List Nat} {x2 x5 : Option D} {h g : Hd} {ra la wa : List D} (hr : ra.length ≤ 2000) (hla : la.length ≤ 2000) :
    (good w = false ∧ ∃ h', evSs C pr_body [some (.str t), some (.str w), x2, some (.ob h.length), some (.ob (h.length + 1)), x5, none] (h ++ .lst ra :: .lst la :: .lst wa :: g) = .rt .non h' ∧ ∃ g', h' = h ++ g') ∨
    (good w = true ∧ ∃ y g', evSs C pr_body [some (.str t), some (.str w), x2, some (.ob h.length), some (.ob (h.length + 1)), x5, none] (h ++ .lst ra :: .lst la :: .lst wa :: g) = .nx [some (.str t), some (.str w), x2, some (.ob h.length), some (.ob (h.length + 1)), y, none] (h ++ .lst (ra ++ [.tup (nI (gR w))]) :: .lst (la ++ [.int (gL w : Int)]) :: .lst wa :: g')) := by
  obtain ⟨h1, eh1⟩ : ∃ h1, h1 = h ++ Ob.lst ra :: .lst la :: .lst wa :: g := ⟨_, rfl⟩
  have sp := split_D (c := 47) (by decide) (t := w) (by omega) h1
  obtain ⟨h2, eh2⟩ : ∃ h2, h2 = h1 ++ [Ob.lst ((splitC 47 w).map D.str)] := ⟨_, rfl⟩
  have e2 : h2 = h ++ Ob.lst ra :: .lst la :: .lst wa :: (g ++ [Ob.lst ((splitC 47 w).map D.str)]) := by rw [eh2, eh1]; simp
  have ob : h2[h1.length]? = some (.lst ((splitC 47 w).map D.str)) := by rw [eh2]; simp
  rw [← eh2] at sp
  have q5 := qs_ob ob
  have sl := split_len 47 w
  have ls : ((splitC 47 w).map D.str).length = (splitC 47 w).length := by simp
  have swl := split_wlen 47 w
  have pre : ∃ g', h2 = h ++ g' := ⟨_, e2⟩
  rw [← eh1]
  by_cases c1 : (splitC 47 w).length = 2
  · obtain ⟨a, b, eab⟩ : ∃ a b, splitC 47 w = [a, b] := by
      match splitC 47 w, c1 with
      | [a, b], _ => exact ⟨a, b, rfl⟩
    have la' : a.length ≤ 1000 := by have := swl a (by rw [eab]; simp); omega
    have lb' : b.length ≤ 1000 := by have := swl b (by rw [eab]; simp); omega
    rw [eab] at ob
    have i0 : ixC (.ob h1.length) (.int 0) h2 = .ok (.str a) := ixD_ob (k := 0) ob rfl
    have i1 : ixC (.ob h1.length) (.int 1) h2 = .ok (.str b) := ixD_ob (k := 1) ob rfl
    have lb := len_s (x := b) h2 (le_sizeL (by omega))
    have c1' : ¬ ¬ ((splitC 47 w).length : Int) = 2 := by rw [c1]; simp
    by_cases c2 : b.length = 1
    · obtain ⟨c, rfl⟩ : ∃ c, b = [c] := by
        match b, c2 with
        | [c], _ => exact ⟨c, rfl⟩
      have jw := split_join 47 w
      rw [eab] at jw
      have awc : ∀ x ∈ a ++ [c], x < 0x110000 := fun x hx => by
        have : x ∈ w := by
          rw [← jw]
          simp [joinS] at hx ⊢
          rcases hx with hx | hx
          · exact .inl hx
          · exact .inr (.inr hx)
        simpa using List.all_eq_true.mp hc x this
      have bs := bin_str' (s := a) (t := [c]) (h := h2) (by simp; omega)
      have ef := ev_filt (C := C) (i := 6) (it := .sq (.bin .add (.ix (.v 5) (.c (.int (0)))) (.ix (.v 5) (.c (.int (1)))))) (c := .cmp .notin (.v 6) (.c (.str [48, 49, 50, 51]))) (elt := .v 6) (σ := [some (.str t), some (.str w), x2, some (.ob h.length), some (.ob (h.length + 1)), some (.ob h1.length), none]) (h := h2) (h1 := h2) (q := .s (a ++ [c])) (l := a ++ [c]) (φ := fun c => .str [c]) (ψ := fun c => .str [c]) (p := fun c => !isDg c)
        (by simp [i0, i1, bs]) (by simp) (le_sizeL (by simp; omega)) (fun x _ => by simp [← mem_dg]) (fun x _ _ => by simp)
      obtain ⟨fl, efl⟩ : ∃ fl, fl = (a ++ [c]).filter fun c => !isDg c := ⟨_, rfl⟩
      rw [← efl] at ef
      obtain ⟨h3, eh3⟩ : ∃ h3, h3 = h2 ++ [Ob.lst (fl.map fun c => D.str [c])] := ⟨_, rfl⟩
      obtain ⟨h4, eh4⟩ : ∃ h4, h4 = h3 ++ [Ob.lst []] := ⟨_, rfl⟩
      have o2 : h4[h2.length]? = some (.lst ((fl.map fun c => [c]).map D.str)) := by
        rw [eh4, List.getElem?_append_left (by rw [eh3]; simp), eh3, List.map_map]; simp
      have o3 : h4[h3.length]? = some (.lst []) := by rw [eh4]; simp
      have ne := ne_nil_strs (h := h4) (i := h2.length) (j := h3.length) (ss := fl.map fun c => [c]) (fun s hs => by
        obtain ⟨x, hx, rfl⟩ := List.mem_map.mp hs
        have := awc x (by rw [efl] at hx; exact (List.mem_filter.mp hx).1)
        simp; omega) o2 o3
      have cn : cmpC C .ne (.ob h2.length) (.ob h3.length) h4 = .ok (.bl (decide ((fl.map fun c => [c]) ≠ [])), h4) := by rw [cmpC_ne_lst o2, ne]; rfl
      have pre4 : ∃ g', h4 = h ++ g' := by
        obtain ⟨g', e⟩ := pre
        exact ⟨g' ++ [_] ++ [_], by rw [eh4, eh3, e, List.append_assoc, List.append_assoc, List.append_assoc]⟩
      cases c3 : (a ++ [c]).all isDg with
      | false =>
        have gf : good w = false := by unfold good; rw [eab]; exact c3
        have d : (fl.map fun c => [c]) ≠ [] := by
          intro q
          rw [List.map_eq_nil_iff, efl, List.filter_eq_nil_iff] at q
          have : (a ++ [c]).all isDg = true := List.all_eq_true.mpr fun x hx => by have := q x hx; simpa using this
          rw [this] at c3; cases c3
        rw [decide_eq_true d] at cn
        refine .inl ⟨gf, h4, ?_, pre4⟩
        simp [pr_body, sp, q5, c1, i1, lb, ef, ← eh3, ← eh4, cn]
      | true =>
        have gt : good w = true := by unfold good; rw [eab]; exact c3
        have d : (fl.map fun c => [c]) = [] := by
          rw [List.map_eq_nil_iff, efl, List.filter_eq_nil_iff]
          intro x hx
          have := List.all_eq_true.mp c3 x hx
          simp [this]
        have nd : ¬ (fl.map fun c => [c]) ≠ [] := fun z => z d
        rw [decide_eq_false nd] at cn
        have c3' : a.all isDg = true ∧ isDg c = true := by
          rw [List.all_append, Bool.and_eq_true] at c3
          exact ⟨c3.1, by simpa using c3.2⟩
        have eg : gR w = a.map (· - 48) := by unfold gR; rw [eab]
        have el : gL w = c - 48 := by unfold gL; rw [eab]
        have e4 : h4 = h ++ Ob.lst ra :: .lst la :: .lst wa :: (g ++ [Ob.lst ((splitC 47 w).map D.str)] ++ [Ob.lst (fl.map fun c => D.str [c])] ++ [Ob.lst []]) := by rw [eh4, eh3, e2]; simp
        have ob4 : h4[h1.length]? = some (.lst [D.str a, D.str [c]]) := by
          rw [eh4, eh3, List.getElem?_append_left (by simp; exact Nat.lt_succ_of_lt (get_lt ob)), List.getElem?_append_left (get_lt ob)]; exact ob
        have j0 : ixC (.ob h1.length) (.int 0) h4 = .ok (.str a) := ixD_ob (k := 0) ob4 rfl
        have em := ev_map (C := C) (i := 6) (it := .sq (.ix (.v 5) (.c (.int (0))))) (elt := .m1 .index (.c (.str [48, 49, 50, 51])) (.v 6)) (σ := [some (.str t), some (.str w), x2, some (.ob h.length), some (.ob (h.length + 1)), some (.ob h1.length), none]) (h := h4) (h1 := h4) (q := .s a) (l := a) (φ := fun c => .str [c]) (ψ := fun c => .int ((c : Int) - 48))
          (by simp [j0]) rfl (by simp) (le_sizeL (by omega)) (fun x hx => by simp [ix0123 (List.all_eq_true.mp c3'.1 x hx)])
        have er : a.map (fun (c : Nat) => D.int ((c : Int) - 48)) = nI (gR w) := by
          rw [eg]
          unfold nI
          rw [List.map_map]
          refine List.map_congr_left fun x hx => ?_
          have := isDg_le (List.all_eq_true.mp c3'.1 x hx)
          show D.int ((x : Int) - 48) = D.int (((x - 48 : Nat)) : Int)
          congr 1; omega
        rw [er] at em
        have k0 : h4[h.length]? = some (.lst ra) := by rw [e4]; exact getC0
        have a0 := append_ob (k := h.length) (d := .tup (nI (gR w))) k0 (lt_sizeL (by omega))
        have s0 : h4.set h.length (.lst (ra ++ [.tup (nI (gR w))])) = h ++ Ob.lst (ra ++ [.tup (nI (gR w))]) :: .lst la :: .lst wa :: (g ++ [Ob.lst ((splitC 47 w).map D.str)] ++ [Ob.lst (fl.map fun c => D.str [c])] ++ [Ob.lst []]) := by rw [e4]; exact setC0
        obtain ⟨h5, eh5⟩ : ∃ h5, h5 = h4.set h.length (.lst (ra ++ [.tup (nI (gR w))])) := ⟨_, rfl⟩
        rw [← eh5] at a0 s0
        have k1 : h5[h.length + 1]? = some (.lst la) := by rw [s0]; exact getC1
        have ne1 : h.length ≠ h1.length := by rw [eh1]; simp
        have ob5 : h5[h1.length]? = some (.lst [D.str a, D.str [c]]) := by rw [eh5, List.getElem?_set_ne ne1]; exact ob4
        have j1 : ixC (.ob h1.length) (.int 1) h5 = .ok (.str [c]) := ixD_ob (k := 1) ob5 rfl
        have a1 := append_ob (k := h.length + 1) (d := .int ((c : Int) - 48)) k1 (lt_sizeL (by omega))
        have s1 : h5.set (h.length + 1) (.lst (la ++ [.int ((c : Int) - 48)])) = h ++ Ob.lst (ra ++ [.tup (nI (gR w))]) :: .lst (la ++ [.int ((c : Int) - 48)]) :: .lst wa :: (g ++ [Ob.lst ((splitC 47 w).map D.str)] ++ [Ob.lst (fl.map fun c => D.str [c])] ++ [Ob.lst []]) := by rw [s0]; exact setC1
        rw [s1] at a1
        have eL : ((c : Int) - 48) = (gL w : Int) := by have := isDg_le c3'.2; rw [el]; omega
        refine .inr ⟨gt, some (.ob h1.length), g ++ [Ob.lst ((splitC 47 w).map D.str)] ++ [Ob.lst (fl.map fun c => D.str [c])] ++ [Ob.lst []], ?_⟩
        rw [← eL]
        simp [pr_body, sp, q5, c1, i1, lb, ef, ← eh3, ← eh4, cn, rcv_append k0, em, a0, rcv_append k1, j1, ix0123 c3'.2]
        simp [a1]
    · have gf : good w = false := by
        unfold good; rw [eab]
        split
        · rename_i a c e; injection e with e1 e2; injection e2 with e2 e3; rw [e2] at c2; exact absurd rfl c2
        · rfl
      have c2' : ¬ (b.length : Int) = 1 := by omega
      refine .inl ⟨gf, h2, ?_, pre⟩
      simp [pr_body, sp, q5, c1, i1, lb, c2']
  · have gf : good w = false := by
      unfold good
      split
      · rename_i a c e; rw [e] at c1; exact absurd rfl c1
      · rfl
    have c1' : ¬ ((splitC 47 w).length : Int) = 2 := by omega
    refine .inl ⟨gf, h2, ?_, pre⟩
    simp [pr_body, sp, q5, c1']
end
end Mp
set_option maxHeartbeats 4000000
namespace Mp
section
variable {P : Pg}
theorem ix_str0 {c : Nat} {r : List Nat} (hl : (c :: r).length ≤ 1000000) (h : Hd) : ixC (.str (c :: r)) (.int 0) h = .ok (.str [c]) := by
  have e : L2.ixN ((c :: r).map fun c => D.str [c]).length 0 = some 0 := ixN_nat (k := 0) (by simp)
  show (if decide ((c :: r).length ≤ sizeL) = true then R.of ((L2.ixN ((c :: r).map fun c => D.str [c]).length 0).bind fun j => ((c :: r).map fun c => D.str [c])[j]?) else R.no) = _
  rw [e, if_pos (decide_eq_true (le_sizeL hl))]
  rfl
theorem tx_words {b : Nat} {m : Mc} {W : List (List Nat)} (eb : m.b = b) (er : m.rows = W.map gR) (el : m.lets = W.map gL) (hW : ∀ w ∈ W, good w = true) : m.tx = [48 + b, 58, 32] ++ joinS [32] W := by
  have e : m.words = W := by
    unfold Mc.words
    rw [er, el]
    clear er el
    induction W with
    | nil => rfl
    | cons w W ih =>
      rw [List.map_cons, List.map_cons, List.zip_cons_cons, List.map_cons, ih fun x hx => hW x (List.mem_cons_of_mem _ hx), ← good_eq (hW w List.mem_cons_self)]
  unfold Mc.tx
  rw [e, eb]
theorem words_good {m : Mc} (o : m.ok) : (∀ w ∈ m.words, good w = true) ∧ m.words.map gR = m.rows ∧ m.words.map gL = m.lets := by
  obtain ⟨z1, z2⟩ := zip_fst (xs := m.rows) (ys := m.lets) o.ll
  refine ⟨fun w hw => ?_, ?_, ?_⟩
  · obtain ⟨p, hp, rfl⟩ := List.mem_map.mp hw
    obtain ⟨_, a, b⟩ := o.zip hp
    exact (good_wd a (by omega)).1
  · unfold Mc.words
    rw [List.map_map]
    conv => rhs; rw [← z1]
    refine List.map_congr_left fun p hp => ?_
    obtain ⟨_, a, b⟩ := o.zip hp
    exact (good_wd a (by omega)).2.1
  · unfold Mc.words
    rw [List.map_map]
    conv => rhs; rw [← z2]
    refine List.map_congr_left fun p hp => ?_
    obtain ⟨_, a, b⟩ := o.zip hp
    exact (good_wd a (by omega)).2.2
theorem nI_ofNat (xs : List Nat) : nI xs = iI (xs.map Int.ofNat) := by unfold nI iI; rw [List.map_map]; rfl
theorem rD_ofNat (rows : List (List Nat)) : rD' rows = rI (rows.map (·.map Int.ofNat)) := by
  unfold rD' rI
  rw [List.map_map]
  refine List.map_congr_left fun r _ => ?_
  show D.tup (nI r) = D.tup (iI (r.map Int.ofNat))
  rw [nI_ofNat]
theorem gR_len {w : List Nat} : (gR w).length ≤ w.length := by
  unfold gR
  split
  · rename_i a c e
    have := split_wlen 47 w a (by rw [e]; simp)
    simpa using this
  · simp
theorem plain_ok {f fi f0 : Nat} (hf : P.df f = some (b__law_plain_read fi)) (hi : P.df fi = some (b_is_machine f0)) (h0 : P.df f0 = some b_is_between) (n : Nat) {t : List Nat} (hl : t.length ≤ 1000) (hc : t.all (· < 0x110000) = true) (h : Hd) :
    (∃ m : Mc, m.ok ∧ m.tx = t ∧ callF P (n + 3) f [.str t] h = .ok (m.d, h)) ∨ ((∀ m : Mc, m.ok → m.tx ≠ t) ∧ callF P (n + 3) f [.str t] h = .ok (.non, h)) := by
  rw [callF_at hf rfl]
  have e3 := sl_to (t := t) (k := 3) (h := h) (by omega)
  have e3' : slD (.str t) .non (.int 3) h = .ok (.str (t.take 3), h) := e3
  have nin := nin_strs (t.take 3) [[50, 58, 32], [51, 58, 32]] h
  simp only [List.map_cons, List.map_nil] at nin
  obtain ⟨tk, etk⟩ : ∃ tk, tk = t.take 3 := ⟨_, rfl⟩
  rw [← etk] at e3' nin
  by_cases c1 : tk ∈ [[50, 58, 32], [51, 58, 32]]
  · rw [decide_eq_true c1] at nin
    obtain ⟨b, hb, r, rfl⟩ : ∃ b, (b = 2 ∨ b = 3) ∧ ∃ r, t = (48 + b) :: 58 :: 32 :: r := by
      have : t = t.take 3 ++ t.drop 3 := (List.take_append_drop 3 t).symm
      simp at c1
      rcases c1 with q | q
      · exact ⟨2, .inl rfl, t.drop 3, by rw [this, ← etk, q]; rfl⟩
      · exact ⟨3, .inr rfl, t.drop 3, by rw [this, ← etk, q]; rfl⟩
    have hd : ((48 + b) :: 58 :: 32 :: r).drop 3 = r := rfl
    have hlr : r.length ≤ 997 := by simp at hl; omega
    have hcr : r.all (· < 0x110000) = true := by simp only [List.all_cons, Bool.and_eq_true] at hc; exact hc.2.2.2
    have wl1 : (splitC 32 r).length ≤ 1001 := by have := split_len 32 r; omega
    have wl2 := split_wlen 32 r
    have wc : ∀ w ∈ splitC 32 r, w.all (· < 0x110000) = true := by
      have key : ∀ (r : List Nat), r.all (· < 0x110000) = true → ∀ w ∈ splitC 32 r, w.all (· < 0x110000) = true := by
        intro r
        induction r with
        | nil => intro _ w hw; simp [splitC] at hw; subst hw; rfl
        | cons x xs ih =>
          intro hx w hw
          rw [List.all_cons, Bool.and_eq_true] at hx
          have ih := ih hx.2
          simp only [splitC] at hw
          split at hw
          · rcases List.mem_cons.mp hw with rfl | hw
            · rfl
            · exact ih w hw
          · split at hw
            · rename_i e; exact absurd e (splitC_ne 32 xs)
            · rename_i p ps e
              rcases List.mem_cons.mp hw with rfl | hw
              · rw [List.all_cons, hx.1, ih p (by rw [e]; exact List.mem_cons_self)]; rfl
              · exact ih w (by rw [e]; exact List.mem_cons_of_mem _ hw)
      exact key r hcr
    have sp := split_D (c := 32) (by decide) (t := r) (by omega) (h ++ [Ob.lst [], .lst []])
    have en : (h ++ [Ob.lst [], .lst []]).length = h.length + 2 := by simp
    rw [en] at sp
    have ea : (h ++ [Ob.lst [], Ob.lst []]) ++ [Ob.lst ((splitC 32 r).map D.str)] = h ++ Ob.lst [] :: .lst [] :: .lst ((splitC 32 r).map D.str) :: [] := by simp
    rw [ea] at sp
    have sl3 := sl_from (t := (48 + b) :: 58 :: 32 :: r) (k := 3) (h := h ++ [Ob.lst [], .lst []]) (by omega)
    rw [hd] at sl3
    have jw := split_join 32 r
    obtain ⟨W, eW⟩ : ∃ W, W = splitC 32 r := ⟨_, rfl⟩
    rw [← eW] at wl1 wl2 wc sp jw ea
    have gq : sqOf (h ++ Ob.lst [] :: .lst [] :: .lst (W.map D.str) :: []) (.ob (h.length + 2)) = some (.l (some (h.length + 2)) (W.map D.str)) := by simp only [sqOf, getC2]
    -- no machine's text but with these words
    have noT : ∀ m : Mc, m.ok → m.tx = (48 + b) :: 58 :: 32 :: r → m.words = W ∧ m.b = b := fun m o q => by
      have := tx_split o
      rw [q, hd] at this
      refine ⟨by rw [← this, eW], ?_⟩
      have : m.tx.take 1 = [48 + b] := by rw [q]; rfl
      have : [48 + m.b] = [48 + b] := this
      injection this with this
      omega
    rcases ev_forE (C := P.cl (n + 2)) (t := .nm 1) (it := (.sq (.m1 .split (.sl (.v 0) (.c (.int (3))) (.c .non)) (.c (.str [32]))))) (b := pr_body) (σ := [some (.str ((48 + b) :: 58 :: 32 :: r)), none, none, some (.ob h.length), some (.ob (h.length + 1)), none, none]) (h := h ++ [Ob.lst [], .lst []]) (h1 := h ++ Ob.lst [] :: .lst [] :: .lst (W.map D.str) :: []) (q := .l (some (h.length + 2)) (W.map D.str)) (l := W) (φ := D.str)
      (fun l σ h' => ∃ x y done g, σ = [some (.str ((48 + b) :: 58 :: 32 :: r)), x, none, some (.ob h.length), some (.ob (h.length + 1)), y, none] ∧ h' = h ++ Ob.lst (rD' (done.map gR)) :: .lst (nI (done.map gL)) :: .lst (W.map D.str) :: g ∧ done ++ l = W ∧ ∀ w ∈ done, good w = true)
      (fun l v h' => v = .non ∧ (∃ g', h' = h ++ g') ∧ ∃ w ∈ W, good w = false)
      (by
        have sl3' : slD (.str ((48 + b) :: 58 :: 32 :: r)) (.int 3) .non (h ++ [Ob.lst [], .lst []]) = .ok (.str r, h ++ [.lst [], .lst []]) := sl3
        simp only [evI_sq, evR_split, evR_sl, evR_v, getV_z, R.ok_bind, vl_v, evR_c, prtR_int, numR_int, prtR_non, sl3', rv_ok, rcv_split, sp]
        simp only [qs, R.ok_bind, gq, items_l, lockH_l])
      (fun w l σ h' ⟨x, y, done, g, es, eh, ed, hg⟩ => by
        subst es; subst eh
        have hw : w ∈ W := by rw [← ed]; simp
        have hdn : done.length ≤ 1001 := by rw [← ed] at wl1; simp at wl1; omega
        refine ⟨[some (.str ((48 + b) :: 58 :: 32 :: r)), some (.str w), none, some (.ob h.length), some (.ob (h.length + 1)), y, none], rfl, ?_⟩
        rcases pr_word (C := P.cl (n + 2)) (w := w) (by have := wl2 w hw; omega) (wc w hw) (t := (48 + b) :: 58 :: 32 :: r) (x2 := none) (x5 := y) (h := h) (g := g) (ra := rD' (done.map gR)) (la := nI (done.map gL)) (wa := W.map D.str) (by simp [rD']; omega) (by simp [nI]; omega) with ⟨gf, h', e, g', eg⟩ | ⟨gt, y', g', e⟩
        · exact .inr ⟨.non, h', e, rfl, ⟨g', eg⟩, w, hw, gf⟩
        · have eR : rD' ((done ++ [w]).map gR) = rD' (done.map gR) ++ [.tup (nI (gR w))] := by simp [rD']
          have eL : nI ((done ++ [w]).map gL) = nI (done.map gL) ++ [.int (gL w : Int)] := by simp [nI]
          refine .inl ⟨_, _, .inl e, by simp [still, getC2], some (.str w), y', done ++ [w], g', rfl, by rw [eR, eL], by simpa using ed, fun x hx => ?_⟩
          rcases List.mem_append.mp hx with hx | hx
          · exact hg x hx
          · rw [List.mem_singleton.mp hx]; exact gt)
      ⟨none, none, [], [], rfl, rfl, rfl, by simp⟩ with ⟨σ', h', e, x, y, done, g, rfl, rfl, ed, hg⟩ | ⟨a, l', v, h', e, rfl, ⟨g', rfl⟩, w, hw, gf⟩
    · rw [List.append_nil] at ed
      rw [ed] at e hg
      have k0 : qs (.ok (.v (.ob h.length), h ++ Ob.lst (rD' (W.map gR)) :: .lst (nI (W.map gL)) :: .lst (W.map D.str) :: g)) = .ok (.l (some h.length) (rD' (W.map gR)), h ++ Ob.lst (rD' (W.map gR)) :: .lst (nI (W.map gL)) :: .lst (W.map D.str) :: g) := qs_ob getC0
      have k1 : qs (.ok (.v (.ob (h.length + 1)), h ++ Ob.lst (rD' (W.map gR)) :: .lst (nI (W.map gL)) :: .lst (W.map D.str) :: g)) = .ok (.l (some (h.length + 1)) (nI (W.map gL)), h ++ Ob.lst (rD' (W.map gR)) :: .lst (nI (W.map gL)) :: .lst (W.map D.str) :: g) := qs_ob getC1
      have i0 := ix_str0 (c := 48 + b) (r := 58 :: 32 :: r) (by omega) (h ++ Ob.lst (rD' (W.map gR)) :: .lst (nI (W.map gL)) :: .lst (W.map D.str) :: g)
      have id := ix0123 (c := 48 + b) (by rcases hb with rfl | rfl <;> rfl) (h ++ Ob.lst (rD' (W.map gR)) :: .lst (nI (W.map gL)) :: .lst (W.map D.str) :: g)
      have eb : ((48 + b : Nat) : Int) - 48 = (b : Int) := by omega
      rw [eb] at id
      have im := is_machine_all hi h0 n (b : Int) ((W.map gR).map (·.map Int.ofNat)) ((W.map gL).map Int.ofNat) (by simp; omega) (fun q hq => by
        obtain ⟨q', hq', rfl⟩ := List.mem_map.mp hq
        obtain ⟨w, hw, rfl⟩ := List.mem_map.mp hq'
        have := gR_len (w := w)
        have := wl2 w hw
        simp; omega) (h ++ Ob.lst (rD' (W.map gR)) :: .lst (nI (W.map gL)) :: .lst (W.map D.str) :: g)
      have efd : D.tup [.int (b : Int), .tup (rD' (W.map gR)), .tup (nI (W.map gL))] = fD (b : Int) ((W.map gR).map (·.map Int.ofNat)) ((W.map gL).map Int.ofNat) := by rw [rD_ofNat, nI_ofNat]; rfl
      have pb : pr_body = pr_body := rfl
      unfold pr_body at e
      cases c : isM (b : Int) ((W.map gR).map (·.map Int.ofNat)) ((W.map gL).map Int.ofNat) with
      | true =>
        rw [c] at im
        obtain ⟨m, o, em, q1, q2, q3⟩ := isM_mc c
        rw [em] at im efd
        have tq : m.tx = (48 + b) :: 58 :: 32 :: r := by
          rw [tx_words (b := b) (W := W) (by omega) (ofNat_injs q2.symm) (ofNat_inj q3.symm) hg, jw]
          rfl
        have g : gc h m.d (h ++ Ob.lst (rD' (W.map gR)) :: .lst (nI (W.map gL)) :: .lst (W.map D.str) :: g) = (m.d, h) := gc_app m.lo
        exact .inl ⟨m, o, tq, by simp [b__law_plain_read, e3', nin, e, i0, id, k0, k1, efd, im, g, -List.map_map]⟩
      | false =>
        rw [c] at im
        refine .inr ⟨fun m o q => ?_, by simp [b__law_plain_read, e3', nin, e, i0, id, k0, k1, efd, im, -List.map_map]⟩
        obtain ⟨n1, n2⟩ := noT m o q
        obtain ⟨_, w2, w3⟩ := words_good o
        rw [n1] at w2 w3
        rw [w2, w3, ← n2, mc_isM o] at c
        cases c
    · unfold pr_body at e
      refine .inr ⟨fun m o q => ?_, by simp [b__law_plain_read, e3', nin, e]⟩
      obtain ⟨n1, n2⟩ := noT m o q
      have := (words_good o).1 w (by rw [n1]; exact hw)
      rw [gf] at this; cases this
  · rw [decide_eq_false c1] at nin
    refine .inr ⟨fun m o q => c1 ?_, by simp [b__law_plain_read, e3', nin]⟩
    subst q
    have hb2 := o.b2
    have hb3 := o.b3
    have : m.tx.take 3 = [48 + m.b, 58, 32] := rfl
    rw [etk, this]
    have : m.b = 2 ∨ m.b = 3 := by omega
    rcases this with e | e <;> rw [e] <;> simp
end
end Mp
set_option maxHeartbeats 4000000
namespace Mp
open PySem
/-! ### plain values and their equality -/
mutual
def cP : D → PyData
  | .int i => .int i
  | .str s => .str ⟨s.toArray⟩
  | .tup xs => .tuple (cPs xs)
  | _ => .none
def cPs : List D → List PyData
  | [] => []
  | x :: xs => cP x :: cPs xs
end
mutual
/-- nothing but None, whole numbers, texts, tuples, to a depth -/
def pln : Nat → D → Bool
  | 0, _ => false
  | _ + 1, .non => true
  | _ + 1, .int _ => true
  | _ + 1, .str s => s.all (· < 0x110000)
  | n + 1, .tup xs => plns n xs
  | _ + 1, _ => false
def plns : Nat → List D → Bool
  | _, [] => true
  | n, x :: xs => pln n x && plns n xs
end
mutual
theorem toP_cP (h : Hd) : ∀ (n : Nat) (d : D), pln n d = true → toP h n d = some (cP d)
  | 0, _, e => by simp [pln] at e
  | n + 1, .non, _ => rfl
  | n + 1, .int _, _ => rfl
  | n + 1, .str s, e => by
    show (if s.all (· < 0x110000) then some (PyData.str ⟨s.toArray⟩) else none) = _
    rw [if_pos (show s.all (· < 0x110000) = true by simpa [pln] using e)]; rfl
  | n + 1, .tup xs, e => by
    show (xs.mapM (toP h n)).map PyData.tuple = _
    rw [toP_cPs h n xs (by simpa [pln] using e)]; rfl
  | n + 1, .bl _, e => by simp [pln] at e
  | n + 1, .ob _, e => by simp [pln] at e
  | n + 1, .fn _, e => by simp [pln] at e
  | n + 1, .ex _, e => by simp [pln] at e
  | n + 1, .clo _ _, e => by simp [pln] at e
  | n + 1, .junk, e => by simp [pln] at e
theorem toP_cPs (h : Hd) : ∀ (n : Nat) (xs : List D), plns n xs = true → xs.mapM (toP h n) = some (cPs xs)
  | n, [], _ => rfl
  | n, x :: xs, e => by
    simp only [plns, Bool.and_eq_true] at e
    rw [List.mapM_cons, toP_cP h n x e.1, toP_cPs h n xs e.2]; rfl
end
mutual
theorem eqv_cP : ∀ (n m : Nat) (a b : D), pln n a = true → pln m b = true → PyData.eqv (cP a) (cP b) = decide (a = b)
  | 0, _, _, _, e, _ => by simp [pln] at e
  | _ + 1, 0, _, _, _, e => by simp [pln] at e
  | n + 1, m + 1, a, b, ea, eb => by
    cases a with
    | non => cases b <;> first | (simp [pln] at eb; done) | (simp [cP, PyData.eqv]; done) | (simp [cP, PyData.eqv]; rfl)
    | int i => cases b <;> first | (simp [pln] at eb; done) | (simp [cP, PyData.eqv]; done) | (simp [cP, PyData.eqv]; rfl)
    | str s =>
      cases b with
      | str t =>
        by_cases c : s = t
        · subst c; simp [cP, PyData.eqv]
        · have : ¬ (⟨s.toArray⟩ : Str) = ⟨t.toArray⟩ := fun e => c (by
            have := congrArg (fun x : Str => x.cps.toList) e
            simpa using this)
          simp [cP, PyData.eqv, c]
      | _ => first | (simp [pln] at eb; done) | (simp [cP, PyData.eqv]; done) | (simp [cP, PyData.eqv]; rfl)
    | tup xs =>
      cases b with
      | tup ys =>
        have := eqv_cPs n m xs ys (by simpa [pln] using ea) (by simpa [pln] using eb)
        simp [cP, PyData.eqv, this]
      | _ => first | (simp [pln] at eb; done) | (simp [cP, PyData.eqv]; done) | (simp [cP, PyData.eqv]; rfl)
    | _ => simp [pln] at ea
theorem eqv_cPs : ∀ (n m : Nat) (a b : List D), plns n a = true → plns m b = true → PyData.eqvAll (cPs a) (cPs b) = decide (a = b)
  | n, m, [], [], _, _ => by simp [cPs, PyData.eqvAll]
  | n, m, [], _ :: _, _, _ => by simp [cPs, PyData.eqvAll]
  | n, m, _ :: _, [], _, _ => by simp [cPs, PyData.eqvAll]
  | n, m, x :: xs, y :: ys, ea, eb => by
    simp only [plns, Bool.and_eq_true] at ea eb
    have h1 := eqv_cP n m x y ea.1 eb.1
    have h2 := eqv_cPs n m xs ys ea.2 eb.2
    simp only [cPs, PyData.eqvAll, h1, h2]
    by_cases c : x = y <;> by_cases c2 : xs = ys <;> simp [c, c2]
end
theorem pyEq_pln (h : Hd) {a b : D} (ha : pln 40 a = true) (hb : pln 40 b = true) : pyEq h a b = some (decide (a = b)) := by
  unfold pyEq
  rw [toP_cP h 40 a ha, toP_cP h 40 b hb]
  show some (PyData.eqv _ _) = _
  rw [eqv_cP 40 40 a b ha hb]
theorem eq_pln {h : Hd} {a b : D} (ha : pln 40 a = true) (hb : pln 40 b = true) : cmpD .eq a b h = .ok (decide (a = b)) := by simp [cmpD, pyEq_pln h ha hb]
theorem ne_pln {h : Hd} {a b : D} (ha : pln 40 a = true) (hb : pln 40 b = true) : cmpD .ne a b h = .ok (!decide (a = b)) := by simp [cmpD, pyEq_pln h ha hb]
theorem plns_nI {n : Nat} : ∀ xs : List Nat, plns (n + 1) (nI xs) = true
  | [] => rfl
  | x :: xs => by show (pln (n + 1) (.int (x : Int)) && plns (n + 1) (nI xs)) = true; rw [plns_nI xs]; rfl
theorem plns_rD {n : Nat} : ∀ xs : List (List Nat), plns (n + 2) (rD' xs) = true
  | [] => rfl
  | x :: xs => by show (plns (n + 1) (nI x) && plns (n + 2) (rD' xs)) = true; rw [plns_nI, plns_rD xs]; rfl
theorem pln_mc {n : Nat} (m : Mc) : pln (n + 4) m.d = true := by
  show (true && (plns (n + 2) (rD' m.rows) && (plns (n + 2) (nI m.lets) && true))) = true
  rw [plns_rD, plns_nI]; rfl
theorem nI_inj : ∀ {xs ys : List Nat}, nI xs = nI ys → xs = ys
  | [], [], _ => rfl
  | [], _ :: _, h => by simp [nI] at h
  | _ :: _, [], h => by simp [nI] at h
  | x :: xs, y :: ys, h => by
    have h' : D.int (x : Int) :: nI xs = D.int (y : Int) :: nI ys := h
    injection h' with h1 h2
    injection h1 with h1
    rw [nI_inj h2]
    congr 1
    exact Int.ofNat.inj h1
theorem rD_inj : ∀ {xs ys : List (List Nat)}, rD' xs = rD' ys → xs = ys
  | [], [], _ => rfl
  | [], _ :: _, h => by simp [rD'] at h
  | _ :: _, [], h => by simp [rD'] at h
  | x :: xs, y :: ys, h => by
    have h' : D.tup (nI x) :: rD' xs = D.tup (nI y) :: rD' ys := h
    injection h' with h1 h2
    injection h1 with h1
    rw [rD_inj h2, nI_inj h1]
theorem mcd_inj {m m' : Mc} (h : m.d = m'.d) : m = m' := by
  unfold Mc.d at h
  injection h with h
  injection h with h1 h
  injection h with h2 h
  injection h with h3 _
  injection h1 with h1
  injection h2 with h2
  injection h3 with h3
  cases m; cases m'
  simp only at *
  rw [Int.ofNat.inj h1, rD_inj h2, nI_inj h3]
end Mp
set_option maxHeartbeats 4000000
namespace Mp
open PySem
section
variable {P : Pg}
def sRet : D := .str [114, 101, 116, 117, 114, 110, 101, 100]
def sRai : D := .str [114, 97, 105, 115, 101, 100]
def b__law_outcome (x_call x_name : Nat) : Df := ⟨2, 5, [
  (.asg (.nm 2) (.c .non)),
  (.asg (.nm 3) (.c .non)),
  (.try_ [(.asg (.nm 3) (.call x_call [(.v 0), (.v 1)]))] 0 4 2),
  (.ite (.cmp .is_ (.v 2) (.c .non)) [(.ret (.tup [(.c (.str [114, 101, 116, 117, 114, 110, 101, 100])), (.v 3)]))] []),
  (.ret (.tup [(.c (.str [114, 97, 105, 115, 101, 100])), (.call x_name [(.v 2)])]))]⟩
@[simp] theorem is_non_non {h : Hd} : cmpD .is_ .non .non h = .ok true := rfl
@[simp] theorem is_non_ex {h : Hd} {c : Nat} : cmpD .is_ (.ex c) .non h = .ok false := rfl
theorem outcome_ret {f fc fn : Nat} (hf : P.df f = some (b__law_outcome fc fn)) (n : Nat) {w a d : D} {h h' : Hd} (e : callF P n fc [w, a] h = .ok (d, h')) : callF P (n + 1) f [w, a] h = .ok (gc h (.tup [sRet, d]) h') := by
  rw [callF_at hf rfl]
  simp [b__law_outcome, e, tryF, sRet]
theorem outcome_ex {f fc fn : Nat} (hf : P.df f = some (b__law_outcome fc fn)) (n : Nat) {w a : D} {c : Nat} {h h' h'' : Hd} {i : Int} (e : callF P n fc [w, a] h = .ex c h') (hs : P.sub c 0 = true) (en : callF P n fn [.ex c] h' = .ok (.int i, h'')) : callF P (n + 1) f [w, a] h = .ok (gc h (.tup [sRai, .int i]) h'') := by
  rw [callF_at hf rfl]
  have hs' : (P.cl n).sub c 0 = true := hs
  simp [b__law_outcome, e, tryF, sRai, hs', en]
/-! ### the exceptions' names -/
theorem bl_mapM (h : Hd) (n : Nat) : ∀ xs : List Bool, (xs.map D.bl).mapM (toP h (n + 1)) = some (xs.map PyData.bool)
  | [] => rfl
  | x :: xs => by rw [List.map_cons, List.mapM_cons, bl_mapM h n xs]; rfl
theorem eqv_true (b : Bool) : PyData.eqv (.bool b) (.bool true) = b := by cases b <;> simp [PyData.eqv]
theorem count_true {h : Hd} {i : Nat} {xs : List Bool} (e : h[i]? = some (.lst (xs.map D.bl))) : m1D .count (.ob i) (.bl true) h = .ok (.int (xs.countP id : Nat), h) := by
  simp only [m1D, e, bl_mapM h 38]
  show R.ok (D.int ((List.countP (fun z => PyData.eqv z (.bool true)) (xs.map PyData.bool) : Nat) : Int), h) = _
  rw [List.countP_map]
  congr 4
  congr 1
  funext b
  exact eqv_true b
theorem index_true {h : Hd} {i j : Nat} {xs : List Bool} (e : h[i]? = some (.lst (xs.map D.bl))) (ej : xs.findIdx? id = some j) : m1D .index (.ob i) (.bl true) h = .ok (.int (j : Nat), h) := by
  simp only [m1D, e, bl_mapM h 38]
  show (match List.findIdx? (fun z => PyData.eqv z (.bool true)) (xs.map PyData.bool) with
    | some j => R.ok (D.int ((j : Nat) : Int), h)
    | none => .no) = _
  have : List.findIdx? (fun z => PyData.eqv z (.bool true)) (xs.map PyData.bool) = some j := by
    rw [List.findIdx?_map, ← ej]
    congr 1
    funext b
    exact eqv_true b
  rw [this]
theorem rcv_count {k xs} {h : Hd} (e : h[k]? = some (.lst xs)) : rcv .count (.ob k) h = .ok () := by simp [rcv, lstOf, e]
theorem rcv_indexL {k xs} {h : Hd} (e : h[k]? = some (.lst xs)) : rcv .index (.ob k) h = .ok () := by simp [rcv, lstOf, e]
def lst_ex (l : List Nat) : E := .lst (l.map fun c => .isi (.v 0) [.own c])
def nm_st (l : List Nat) : S := .asg (.nm 1) (.bin .add (.v 1) (lst_ex l))
theorem ev_isis {C : Cl} {k : Nat} {h : Hd} {r : Sl} : ∀ l : List Nat, evEs C (l.map fun c => E.isi (.v 0) [.own c]) (some (.ex k) :: r) h = .ok ((l.map fun c => C.sub k c).map D.bl, h)
  | [] => rfl
  | c :: l => by
    have e : vl (evR C (.isi (.v 0) [.own c]) (some (.ex k) :: r) h) = .ok (.bl (C.sub k c), h) := rfl
    rw [List.map_cons, evEs_cons, e, R.ok_bind, ev_isis l]
    rfl
theorem nm_run {C : Cl} {k : Nat} {ss : List S} : ∀ (ll : List (List Nat)) (i : Nat) (h : Hd) (xs : List Bool), h[i]? = some (.lst (xs.map D.bl)) → (∀ l ∈ ll, l.length ≤ 100) → xs.length + ll.flatten.length ≤ 1000 →
    ∃ j g, (h ++ g)[j]? = some (.lst ((xs ++ ll.flatten.map fun c => C.sub k c).map D.bl)) ∧ evSs C (ll.map nm_st ++ ss) [some (.ex k), some (.ob i)] h = evSs C ss [some (.ex k), some (.ob j)] (h ++ g)
  | [], i, h, xs, e, _, _ => ⟨i, [], by simpa using e, by simp⟩
  | l :: ll, i, h, xs, e, hl, hn => by
    have hl0 := hl l List.mem_cons_self
    rw [List.flatten_cons, List.length_append] at hn
    have ei := get_lt e
    have e1 : (h ++ [Ob.lst ((l.map fun c => C.sub k c).map D.bl)])[i]? = some (.lst (xs.map D.bl)) := by rw [List.getElem?_append_left ei]; exact e
    have e2 : (h ++ [Ob.lst ((l.map fun c => C.sub k c).map D.bl)])[h.length]? = some (.lst ((l.map fun c => C.sub k c).map D.bl)) := by simp
    have b := bin_lst e1 e2 (le_sizeL (by simp; omega))
    obtain ⟨j, g, e3, e4⟩ := nm_run (C := C) (k := k) (ss := ss) ll (h.length + 1) (h ++ [Ob.lst ((l.map fun c => C.sub k c).map D.bl)] ++ [Ob.lst ((xs ++ l.map fun c => C.sub k c).map D.bl)]) (xs ++ l.map fun c => C.sub k c) (by rw [List.getElem?_append_right (by simp)]; simp) (fun x hx => hl x (List.mem_cons_of_mem _ hx)) (by rw [List.length_append, List.length_map]; omega)
    refine ⟨j, [Ob.lst ((l.map fun c => C.sub k c).map D.bl)] ++ [Ob.lst ((xs ++ l.map fun c => C.sub k c).map D.bl)] ++ g, ?_, ?_⟩
    · rw [← List.append_assoc, ← List.append_assoc, e3]
      simp
    · rw [← List.append_assoc, ← List.append_assoc, ← e4, List.map_cons, List.cons_append, evSs_cons]
      have st : evS C (nm_st l) [some (.ex k), some (.ob i)] h = .nx [some (.ex k), some (.ob (h.length + 1))] (h ++ [Ob.lst ((l.map fun c => C.sub k c).map D.bl)] ++ [Ob.lst ((xs ++ l.map fun c => C.sub k c).map D.bl)]) := by
        have em : (h ++ [Ob.lst ((l.map fun c => C.sub k c).map D.bl)]).length = h.length + 1 := by simp
        rw [em, ← List.map_append] at b
        have le : evR C (lst_ex l) [some (.ex k), some (.ob i)] h = .ok (.l ((l.map fun c => C.sub k c).map D.bl), h) := by
          unfold lst_ex
          rw [evR_lst, ev_isis]
          simp only [R.ok_bind]
          rw [if_pos (le_sizeL (by simp; omega))]
        unfold nm_st
        rw [evS_asg, evR_bin, evR_v]
        simp only [getV_s, getV_z, R.ok_bind, vl_v, le, vl_l, b, rv_ok, thenF_ok, asgF_eq, asgT_nm]
        rfl
      rw [st, F.seq_nx]
def nmL : List (List Nat) := [[4, 5], [6], [7, 8], [9], [10, 11], [12], [13, 14], [15], [16, 17], [18]]
def b__law_name : Df := ⟨1, 2, [
  (.ite (.nt (.isi (.v 0) [.verr])) [(.ret (.neg (.c (.int (1)))))] []),
  (.asg (.nm 1) (.lst [(.isi (.v 0) [(.own 1)]), (.isi (.v 0) [(.own 2)]), (.isi (.v 0) [(.own 3)])])),
  (.asg (.nm 1) (.bin .add (.v 1) (.lst [(.isi (.v 0) [(.own 4)]), (.isi (.v 0) [(.own 5)])]))),
  (.asg (.nm 1) (.bin .add (.v 1) (.lst [(.isi (.v 0) [(.own 6)])]))),
  (.asg (.nm 1) (.bin .add (.v 1) (.lst [(.isi (.v 0) [(.own 7)]), (.isi (.v 0) [(.own 8)])]))),
  (.asg (.nm 1) (.bin .add (.v 1) (.lst [(.isi (.v 0) [(.own 9)])]))),
  (.asg (.nm 1) (.bin .add (.v 1) (.lst [(.isi (.v 0) [(.own 10)]), (.isi (.v 0) [(.own 11)])]))),
  (.asg (.nm 1) (.bin .add (.v 1) (.lst [(.isi (.v 0) [(.own 12)])]))),
  (.asg (.nm 1) (.bin .add (.v 1) (.lst [(.isi (.v 0) [(.own 13)]), (.isi (.v 0) [(.own 14)])]))),
  (.asg (.nm 1) (.bin .add (.v 1) (.lst [(.isi (.v 0) [(.own 15)])]))),
  (.asg (.nm 1) (.bin .add (.v 1) (.lst [(.isi (.v 0) [(.own 16)]), (.isi (.v 0) [(.own 17)])]))),
  (.asg (.nm 1) (.bin .add (.v 1) (.lst [(.isi (.v 0) [(.own 18)])]))),
  (.ret (.ite (.cmp .eq (.m1 .count (.v 1) (.c (.bl true))) (.c (.int (1)))) (.m1 .index (.v 1) (.c (.bl true))) (.neg (.c (.int (1))))))]⟩
theorem law_name_ok {f : Nat} (hf : P.df f = some b__law_name) (n : Nat) {k : Nat} (h1 : 1 ≤ k) (h18 : k ≤ 18) (hs : ∀ c, 1 ≤ c → c ≤ 18 → P.sub k c = decide (k = c)) (h : Hd) : callF P (n + 1) f [.ex k] h = .ok (.int ((k : Int) - 1), h) := by
  rw [callF_at hf rfl]
  have e0 : (h ++ [Ob.lst ([P.sub k 1, P.sub k 2, P.sub k 3].map D.bl)])[h.length]? = some (.lst ([P.sub k 1, P.sub k 2, P.sub k 3].map D.bl)) := by simp
  obtain ⟨j, g, e1, e2⟩ := nm_run (C := P.cl n) (k := k) (ss := [(.ret (.ite (.cmp .eq (.m1 .count (.v 1) (.c (.bl true))) (.c (.int (1)))) (.m1 .index (.v 1) (.c (.bl true))) (.neg (.c (.int (1))))))]) nmL h.length _ _ e0 (by decide) (by show 3 + 15 ≤ 1000; decide)
  obtain ⟨xs, ex⟩ : ∃ xs, xs = [P.sub k 1, P.sub k 2, P.sub k 3] ++ nmL.flatten.map fun c => (P.cl n).sub k c := ⟨_, rfl⟩
  rw [← ex] at e1
  have ex' : xs = [decide (k = 1), decide (k = 2), decide (k = 3), decide (k = 4), decide (k = 5), decide (k = 6), decide (k = 7), decide (k = 8), decide (k = 9), decide (k = 10), decide (k = 11), decide (k = 12), decide (k = 13), decide (k = 14), decide (k = 15), decide (k = 16), decide (k = 17), decide (k = 18)] := by
    rw [ex]
    show [P.sub k 1, P.sub k 2, P.sub k 3, P.sub k 4, P.sub k 5, P.sub k 6, P.sub k 7, P.sub k 8, P.sub k 9, P.sub k 10, P.sub k 11, P.sub k 12, P.sub k 13, P.sub k 14, P.sub k 15, P.sub k 16, P.sub k 17, P.sub k 18] = _
    simp only [hs _ (show 1 ≤ 1 by decide) (by decide), hs 2 (by decide) (by decide), hs 3 (by decide) (by decide), hs 4 (by decide) (by decide), hs 5 (by decide) (by decide), hs 6 (by decide) (by decide), hs 7 (by decide) (by decide), hs 8 (by decide) (by decide), hs 9 (by decide) (by decide), hs 10 (by decide) (by decide), hs 11 (by decide) (by decide), hs 12 (by decide) (by decide), hs 13 (by decide) (by decide), hs 14 (by decide) (by decide), hs 15 (by decide) (by decide), hs 16 (by decide) (by decide), hs 17 (by decide) (by decide), hs 18 (by decide) (by decide)]
  have hk : xs.countP id = 1 ∧ xs.findIdx? id = some (k - 1) := by
    rw [ex']
    have : k = 1 ∨ k = 2 ∨ k = 3 ∨ k = 4 ∨ k = 5 ∨ k = 6 ∨ k = 7 ∨ k = 8 ∨ k = 9 ∨ k = 10 ∨ k = 11 ∨ k = 12 ∨ k = 13 ∨ k = 14 ∨ k = 15 ∨ k = 16 ∨ k = 17 ∨ k = 18 := by omega
    rcases this with rfl | rfl | rfl | rfl | rfl | rfl | rfl | rfl | rfl | rfl | rfl | rfl | rfl | rfl | rfl | rfl | rfl | rfl <;> decide
  have c1 := count_true e1
  rw [hk.1] at c1
  have i1 := index_true e1 hk.2
  have body : b__law_name.body = (.ite (.nt (.isi (.v 0) [.verr])) [(.ret (.neg (.c (.int (1)))))] []) :: (.asg (.nm 1) (.lst [(.isi (.v 0) [(.own 1)]), (.isi (.v 0) [(.own 2)]), (.isi (.v 0) [(.own 3)])])) :: (nmL.map nm_st ++ [(.ret (.ite (.cmp .eq (.m1 .count (.v 1) (.c (.bl true))) (.c (.int (1)))) (.m1 .index (.v 1) (.c (.bl true))) (.neg (.c (.int (1))))))]) := rfl
  have v0 : isiD (P.cl n) [.verr] (.ex k) h = .ok (.bl true) := rfl
  have o0 : ∀ c h, isiD (P.cl n) [.own c] (.ex k) h = .ok (.bl (P.sub k c)) := fun _ _ => rfl
  rw [body]
  simp only [start_eq]
  show endF h (evSs (P.cl n) _ [some (.ex k), none] h) = _
  rw [evSs_cons]
  have e2' : evSs (P.cl n) (nmL.map nm_st ++ [(.ret (.ite (.cmp .eq (.m1 .count (.v 1) (.c (.bl true))) (.c (.int (1)))) (.m1 .index (.v 1) (.c (.bl true))) (.neg (.c (.int (1))))))]) [some (.ex k), some (.ob h.length)] (h ++ [.lst [.bl (P.sub k 1), .bl (P.sub k 2), .bl (P.sub k 3)]]) = _ := e2
  have sub1 : ((k - 1 : Nat) : Int) = (k : Int) - 1 := by omega
  rw [sub1] at i1
  have gg : gc h (.int ((k : Int) - 1)) (h ++ ([Ob.lst ([P.sub k 1, P.sub k 2, P.sub k 3].map D.bl)] ++ g)) = (.int ((k : Int) - 1), h) := gc_int2
  rw [← List.append_assoc] at gg
  simp [v0, o0, -List.map_cons, -List.append_assoc]
  rw [e2']
  simp [rcv_count e1, c1, rcv_indexL e1, i1, -List.append_assoc, -List.map_cons, -List.map_nil]
  exact gg
end
end Mp
set_option maxHeartbeats 4000000
namespace Mp
open PySem
section
variable {P : Pg}
theorem eqv_str (s t : List Nat) : PyData.eqv (.str ⟨s.toArray⟩) (.str ⟨t.toArray⟩) = decide (s = t) := by
  by_cases c : s = t
  · subst c; simp [PyData.eqv]
  · have : ¬ (⟨s.toArray⟩ : Str) = ⟨t.toArray⟩ := fun e => c (by
      have := congrArg (fun x : Str => x.cps.toList) e
      simpa using this)
    simp [PyData.eqv, c]
theorem index_strs {h : Hd} {i j : Nat} {ss : List (List Nat)} {s : List Nat} (hs : ∀ s ∈ ss, s.all (· < 0x110000) = true) (hs2 : s.all (· < 0x110000) = true) (e : h[i]? = some (.lst (ss.map D.str))) (ej : ss.findIdx? (fun t => decide (t = s)) = some j) : m1D .index (.ob i) (.str s) h = .ok (.int (j : Nat), h) := by
  have e1 : toP h 40 (.str s) = some (.str ⟨s.toArray⟩) := by
    show (if s.all (· < 0x110000) then some (PyData.str ⟨s.toArray⟩) else none) = _
    rw [if_pos hs2]
  simp only [m1D, e, strs_mapM h 38 hs, e1]
  have : List.findIdx? (fun z => PyData.eqv z (.str ⟨s.toArray⟩)) (ss.map fun s => PyData.str ⟨s.toArray⟩) = some j := by
    rw [List.findIdx?_map, ← ej]
    congr 1
    funext t
    exact eqv_str t s
  rw [this]
def nm1 : List (List Nat) := [[109, 97, 99, 104, 105, 110, 101], [110, 117, 109, 98, 101, 114], [108, 101, 116, 116, 101, 114], [119, 101, 105, 103, 104, 116, 115], [115, 104, 105, 102, 116], [100, 105, 103, 105, 116, 115], [108, 101, 110, 103, 116, 104], [119, 111, 114, 100], [112, 101, 114, 105, 111, 100]]
def nm2 : List (List Nat) := [[108, 101, 118, 101, 108], [115, 97, 109, 112, 108, 101, 115], [108, 105, 109, 105, 116], [115, 116, 97, 116, 101], [116, 101, 120, 116], [117, 110, 108, 105, 107, 101], [108, 97, 114, 103, 101], [99, 111, 110, 116, 114, 97, 100, 105, 99, 116, 105, 111, 110], [117, 110, 100, 111]]
def b__law_raises : Df := ⟨1, 2, [
  (.asg (.nm 1) (.lst [(.c (.str [109, 97, 99, 104, 105, 110, 101])), (.c (.str [110, 117, 109, 98, 101, 114])), (.c (.str [108, 101, 116, 116, 101, 114])), (.c (.str [119, 101, 105, 103, 104, 116, 115])), (.c (.str [115, 104, 105, 102, 116])), (.c (.str [100, 105, 103, 105, 116, 115])), (.c (.str [108, 101, 110, 103, 116, 104])), (.c (.str [119, 111, 114, 100])), (.c (.str [112, 101, 114, 105, 111, 100]))])),
  (.asg (.nm 1) (.bin .add (.v 1) (.lst [(.c (.str [108, 101, 118, 101, 108])), (.c (.str [115, 97, 109, 112, 108, 101, 115])), (.c (.str [108, 105, 109, 105, 116])), (.c (.str [115, 116, 97, 116, 101])), (.c (.str [116, 101, 120, 116])), (.c (.str [117, 110, 108, 105, 107, 101])), (.c (.str [108, 97, 114, 103, 101])), (.c (.str [99, 111, 110, 116, 114, 97, 100, 105, 99, 116, 105, 111, 110])), (.c (.str [117, 110, 100, 111]))]))),
  (.ret (.tup [(.c (.str [114, 97, 105, 115, 101, 100])), (.m1 .index (.v 1) (.v 0))]))]⟩
theorem ev_strs {C : Cl} {σ : Sl} {h : Hd} : ∀ ss : List (List Nat), evEs C (ss.map fun s => E.c (.str s)) σ h = .ok (ss.map .str, h)
  | [] => rfl
  | s :: ss => by rw [List.map_cons, evEs_cons, evR_c, vl_v, R.ok_bind, ev_strs ss]; rfl
theorem raises_ok {f : Nat} (hf : P.df f = some b__law_raises) (n : Nat) {s : List Nat} {j : Nat} (hs : s.all (· < 0x110000) = true) (hj : (nm1 ++ nm2).findIdx? (fun t => decide (t = s)) = some j) (h : Hd) : callF P (n + 1) f [.str s] h = .ok (.tup [sRai, .int (j : Nat)], h) := by
  rw [callF_at hf rfl]
  have l1 : evR (P.cl n) (.lst (nm1.map fun s => E.c (.str s))) [some (.str s), none] h = .ok (.l (nm1.map .str), h) := by
    rw [evR_lst, ev_strs]
    simp only [R.ok_bind]
    rw [if_pos (le_sizeL (by simp; decide))]
  have l2 : ∀ h x, evR (P.cl n) (.lst (nm2.map fun s => E.c (.str s))) [some (.str s), some x] h = .ok (.l (nm2.map .str), h) := fun h x => by
    rw [evR_lst, ev_strs]
    simp only [R.ok_bind]
    rw [if_pos (le_sizeL (by simp; decide))]
  have e1 : ((h ++ [Ob.lst (nm1.map .str)]) ++ [Ob.lst (nm2.map .str)])[h.length]? = some (.lst (nm1.map .str)) := by rw [List.getElem?_append_left (by simp)]; simp
  have e2 : ((h ++ [Ob.lst (nm1.map .str)]) ++ [Ob.lst (nm2.map .str)])[h.length + 1]? = some (.lst (nm2.map .str)) := by rw [List.getElem?_append_right (by simp)]; simp
  have b := bin_lst e1 e2 (le_sizeL (by simp; decide))
  rw [← List.map_append] at b
  have eo : (((h ++ [Ob.lst (nm1.map .str)]) ++ [Ob.lst (nm2.map .str)]) ++ [Ob.lst ((nm1 ++ nm2).map D.str)])[((h ++ [Ob.lst (nm1.map .str)]) ++ [Ob.lst (nm2.map .str)]).length]? = some (.lst ((nm1 ++ nm2).map D.str)) := by simp
  have ix := index_strs (s := s) (ss := nm1 ++ nm2) (by decide) hs eo hj
  have body : b__law_raises.body = [.asg (.nm 1) (.lst (nm1.map fun s => E.c (.str s))), .asg (.nm 1) (.bin .add (.v 1) (.lst (nm2.map fun s => E.c (.str s)))), (.ret (.tup [(.c (.str [114, 97, 105, 115, 101, 100])), (.m1 .index (.v 1) (.v 0))]))] := rfl
  have sz : ([D.str [114, 97, 105, 115, 101, 100], D.int (j : Nat)] : List D).length ≤ sizeL := sz2
  have en : (h ++ [Ob.lst (nm1.map .str)]).length = h.length + 1 := by simp
  rw [body]
  show endF h (evSs (P.cl n) _ [some (.str s), none] h) = _
  simp only [evSs_cons, evS_asg, l1, vl_l, thenF_ok, asgF_eq, asgT_nm, List.length_cons, List.length_nil, Nat.zero_add, Nat.reduceAdd, Nat.reduceLT, if_true, List.set_cons_succ, List.set_cons_zero, nxO_some, F.seq_nx, evR_bin, evR_v, getV_s, getV_z, R.ok_bind, vl_v, l2, en, b, rv_ok, evS_ret, evR_tup, evEs_cons, evR_c, evR_index, rcv_indexL eo, ix, evEs_nil, evSs_nil, F.seq_rt, endF_rt, sz]
  have g := gc_app (g := [Ob.lst (nm1.map .str)] ++ [Ob.lst (nm2.map .str)] ++ [Ob.lst ((nm1 ++ nm2).map D.str)]) (h := h) (d := .tup [.str [114, 97, 105, 115, 101, 100], .int (j : Nat)]) rfl
  rw [← List.append_assoc, ← List.append_assoc] at g
  exact congrArg R.ok g
def b__law_call82 (x_parse x_format : Nat) : Df := ⟨2, 2, [
  (.ret (.ite (.cmp .eq (.v 0) (.c (.int (0)))) (.call x_parse [(.v 1)]) (.call x_format [(.v 1)])))]⟩
/-- what a call gives is what the body gives, where nothing is left behind -/
theorem call82_0 {f fp ff : Nat} (hf : P.df f = some (b__law_call82 fp ff)) (n : Nat) {a : D} {h : Hd} : (∀ d, D.lo h.length d = true → callF P n fp [a] h = .ok (d, h) → callF P (n + 1) f [.int 0, a] h = .ok (d, h)) ∧ ∀ c, callF P n fp [a] h = .ex c h → callF P (n + 1) f [.int 0, a] h = .ex c h := by
  constructor
  · intro d hd e
    rw [callF_at hf rfl]
    simp [b__law_call82, e, gc_self hd]
  · intro c e
    rw [callF_at hf rfl]
    simp [b__law_call82, e]
theorem call82_1 {f fp ff : Nat} (hf : P.df f = some (b__law_call82 fp ff)) (n : Nat) {a : D} {h : Hd} {c : Nat} (e : callF P n ff [a] h = .ex c h) : callF P (n + 1) f [.int 1, a] h = .ex c h := by
  rw [callF_at hf rfl]
  simp [b__law_call82, e]
def b__law_pick (x__law_draw : Nat) : Df := ⟨3, 3, [
  (.ret (.ix (.v 2) (.call x__law_draw [(.v 0), (.v 1), (.b1 .len (.v 2))])))]⟩
theorem pick_ok {f fd : Nat} (hf : P.df f = some (b__law_pick fd)) (hd : P.df fd = some b__law_draw) (n : Nat) {ns : List Int} (hn : ns.length ≤ 63) {k B i : Nat} {ys cs : List D} {h : Hd} (h0 : h[0]? = some (scrD ns)) (hk : h[k]? = some (.lst ys)) (t : Twn ns.length B ys) (hB : B ≤ 1000000) (hi : h[i]? = some (.lst cs)) (hik : i ≠ k) (hc : 1 ≤ cs.length) (hc2 : cs.length ≤ 1000) (hlo : ∀ c ∈ cs, ∀ m, D.lo m c = true) :
    ∃ (d : D) (zs : List D), d ∈ cs ∧ Twn ns.length (B + 1) zs ∧ callF P (n + 2) f [.ob 0, .ob k, .ob i] h = .ok (d, h.set k (.lst zs)) := by
  rw [callF_at hf rfl]
  obtain ⟨r, zs, hr, tz, e⟩ := law_draw_ok hd n hn h0 hk t hB hc (by omega)
  have e1 : cs[r]? = some cs[r] := List.getElem?_eq_getElem hr
  have hi2 : (h.set k (.lst zs))[i]? = some (.lst cs) := by rw [List.getElem?_set_ne (Ne.symm hik)]; exact hi
  have ix := ixD_ob hi2 e1
  refine ⟨cs[r], zs, List.getElem_mem _, tz, ?_⟩
  have g := gc_set (h := h) (k := k) (g := []) (tz.los (m := h.length)) (hlo _ (List.getElem_mem hr) h.length)
  rw [List.append_nil] at g
  simp [b__law_pick, qs_ob hi, e, ix, g]
end
end Mp
set_option maxHeartbeats 4000000
/-! class Session: its methods' runs -/
namespace Mp
def btw (d : D) (lo hi : Int) : Bool := match d with
  | .int i => decide (lo ≤ i) && decide (i ≤ hi)
  | _ => false
def pl0 : D → Bool
  | .non => true | .bl _ => true | .int _ => true | .str _ => true | .tup _ => true
  | _ => false
theorem is_between_all {P : Pg} {f : Nat} (hf : P.df f = some b_is_between) (n : Nat) {d : D} (hd : pl0 d = true) (lo hi : Int) (h : Hd) : callF P (n + 1) f [d, .int lo, .int hi] h = .ok (.bl (btw d lo hi), h) := by
  cases d with
  | int v => exact is_between_ok hf n v lo hi h
  | non => rw [callF_at hf rfl]; simp [b_is_between, isiD, isTy, kindD, kdTy, btw]
  | bl b => rw [callF_at hf rfl]; simp [b_is_between, isiD, isTy, kindD, kdTy, btw]
  | str s => rw [callF_at hf rfl]; simp [b_is_between, isiD, isTy, kindD, kdTy, btw]
  | tup xs => rw [callF_at hf rfl]; simp [b_is_between, isiD, isTy, kindD, kdTy, btw]
  | _ => cases hd
def b_check_letter (x_is_between e_InvalidLetter : Nat) : Df := ⟨1, 1, [
  (.ite (.nt (.call x_is_between [(.v 0), (.c (.int (0))), (.c (.int (2)))])) [(.raise e_InvalidLetter)] [])]⟩
theorem check_letter_all {P : Pg} {f f0 c : Nat} (hf : P.df f = some (b_check_letter f0 c)) (h0 : P.df f0 = some b_is_between) (n : Nat) {d : D} (hd : pl0 d = true) (h : Hd) : callF P (n + 2) f [d] h = if btw d 0 2 then .ok (.non, h) else .ex c h := by
  rw [callF_at hf rfl]
  simp [b_check_letter, is_between_all h0 n hd]
  cases btw d 0 2 <;> simp
theorem check_number_all {P : Pg} {f f0 c : Nat} (hf : P.df f = some (b_check_number f0 c)) (h0 : P.df f0 = some b_is_between) (n : Nat) {d : D} (hd : pl0 d = true) (h : Hd) : callF P (n + 2) f [d] h = if btw d 0 1000000000000000000 then .ok (.non, h) else .ex c h := by
  rw [callF_at hf rfl]
  simp [b_check_number, is_between_all h0 n hd]
  cases btw d 0 1000000000000000000 <;> simp
def b_ses_init (x_check_machine : Nat) : Df := ⟨2, 2, [
  (.ex (.call x_check_machine [(.v 1)])),
  (.setFld (.v 0) 13 (.v 1)),
  (.setFld (.v 0) 14 (.v 1)),
  (.setFld (.v 0) 15 (.lst [])),
  (.setFld (.v 0) 16 (.lst [])),
  (.setFld (.v 0) 17 (.lst []))]⟩
def b_ses_len : Df := ⟨1, 1, [
  (.ret (.b1 .len (.ix (.fld (.v 0) 14) (.c (.int (1))))))]⟩
def b_ses_eq : Df := ⟨2, 2, [
  (.ret (.and_ (.isi (.v 1) [(.cls 0)]) (.and_ (.cmp .eq (.fld (.v 0) 13) (.fld (.v 1) 13)) (.cmp .eq (.fld (.v 0) 16) (.fld (.v 1) 16)))))]⟩
def b_ses_str : Df := ⟨1, 1, [
  (.ret (.fs [(.c (.str [98, 97, 115, 101, 32])), (.ix (.fld (.v 0) 14) (.c (.int (0)))), (.c (.str [44, 32])), (.b1 .len (.ix (.fld (.v 0) 14) (.c (.int (1))))), (.c (.str [32, 115, 116, 97, 116, 101, 115]))]))]⟩
def b_ses_check_state (x_is_between : Nat) : Df := ⟨3, 3, [
  (.ite (.nt (.call x_is_between [(.v 1), (.c (.int (0))), (.bin .add (.bin .sub (.b1 .len (.ix (.fld (.v 0) 14) (.c (.int (1))))) (.c (.int (1)))) (.v 2))])) [(.raise 13)] [])]⟩
def b_ses_perform : Df := ⟨3, 3, [
  (.ex (.m1 .append (.fld (.v 0) 15) (.fld (.v 0) 14))),
  (.setFld (.v 0) 14 (.v 1)),
  (.ex (.m1 .append (.fld (.v 0) 16) (.v 2))),
  (.setFld (.v 0) 17 (.lst []))]⟩
def b_ses_redirect (x_is_between : Nat) : Df := ⟨4, 9, [
  (.ex (.um 4 (.v 0) [(.v 1), (.c (.int (0)))])),
  (.asg (.tp [(.nm 6), (.nm 7), (.nm 8)]) (.fld (.v 0) 14)),
  (.ite (.nt (.call x_is_between [(.v 2), (.c (.int (0))), (.bin .sub (.v 6) (.c (.int (1))))])) [(.raise 6)] []),
  (.ex (.um 4 (.v 0) [(.v 3), (.c (.int (0)))])),
  (.ite (.and_ (.cmp .eq (.v 1) (.c (.int (0)))) (.and_ (.cmp .eq (.v 2) (.c (.int (0)))) (.cmp .ne (.v 3) (.c (.int (0)))))) [(.raise 13)] []),
  (.asg (.nm 4) (.bin .add (.bin .add (.sl (.ix (.v 7) (.v 1)) (.c .non) (.v 2)) (.tup [(.v 3)])) (.sl (.ix (.v 7) (.v 1)) (.bin .add (.v 2) (.c (.int (1)))) (.c .non)))),
  (.asg (.nm 5) (.tup [(.v 6), (.bin .add (.bin .add (.sl (.v 7) (.c .non) (.v 1)) (.tup [(.v 4)])) (.sl (.v 7) (.bin .add (.v 1) (.c (.int (1)))) (.c .non))), (.v 8)])),
  (.ex (.um 5 (.v 0) [(.v 5), (.tup [(.c (.str [114, 101, 100, 105, 114, 101, 99, 116])), (.tup [(.v 1), (.v 2), (.v 3)])])]))]⟩
def b_ses_relabel (x_check_letter : Nat) : Df := ⟨3, 6, [
  (.ex (.um 4 (.v 0) [(.v 1), (.c (.int (0)))])),
  (.ex (.call x_check_letter [(.v 2)])),
  (.asg (.tp [(.nm 3), (.nm 4), (.nm 5)]) (.fld (.v 0) 14)),
  (.ex (.um 5 (.v 0) [(.tup [(.v 3), (.v 4), (.bin .add (.bin .add (.sl (.v 5) (.c .non) (.v 1)) (.tup [(.v 2)])) (.sl (.v 5) (.bin .add (.v 1) (.c (.int (1)))) (.c .non)))]), (.tup [(.c (.str [114, 101, 108, 97, 98, 101, 108])), (.tup [(.v 1), (.v 2)])])]))]⟩
def b_ses_add_state (x_check_letter : Nat) : Df := ⟨3, 7, [
  (.asg (.tp [(.nm 4), (.nm 5), (.nm 6)]) (.fld (.v 0) 14)),
  (.ite (.or_ (.nt (.isi (.v 1) [.tuple])) (.cmp .ne (.b1 .len (.v 1)) (.v 4))) [(.raise 13)] []),
  (.for_ (.nm 3) (.sq (.v 1)) [(.ex (.um 4 (.v 0) [(.v 3), (.c (.int (1)))]))]),
  (.ex (.call x_check_letter [(.v 2)])),
  (.ite (.cmp .eq (.b1 .len (.v 5)) (.gc "" (.int (4)))) [(.raise 16)] []),
  (.ex (.um 5 (.v 0) [(.tup [(.v 4), (.bin .add (.v 5) (.tup [(.v 1)])), (.bin .add (.v 6) (.tup [(.v 2)]))]), (.tup [(.c (.str [97, 100, 100, 95, 115, 116, 97, 116, 101])), (.tup [(.v 1), (.v 2)])])]))]⟩
def b_ses_machine : Df := ⟨1, 1, [
  (.ret (.fld (.v 0) 14))]⟩
def b_ses_changed (x_check_number x_prefix_sum x_digits_of : Nat) : Df := ⟨2, 13, [
  (.ex (.call x_check_number [(.v 1)])),
  (.asg (.tp [(.nm 5), (.nm 6), (.nm 7)]) (.fld (.v 0) 13)),
  (.asg (.nm 2) (.b1 .len (.ix (.fld (.v 0) 14) (.c (.int (1)))))),
  (.asg (.nm 3) (.lst [])),
  (.asg (.nm 4) (.lst [])),
  (.for_ (.tp [(.nm 8), (.nm 9)]) (.en (.v 6)) [(.for_ (.tp [(.nm 10), (.nm 11)]) (.en (.ix (.fld (.v 0) 14) (.c (.int (1))))) [(.ex (.m1 .append (.v 3) (.b1 .tuple (.comp [12] (.nm 12) (.rng (.c (.int (0))) (.v 5)) (.c (.bl true)) (.bin .add (.bin .mul (.ix (.v 9) (.v 12)) (.v 2)) (.ix (.v 11) (.v 12))))))), (.ex (.m1 .append (.v 4) (.b1 .int_ (.cmp .ne (.ix (.v 7) (.v 8)) (.ix (.ix (.fld (.v 0) 14) (.c (.int (2)))) (.v 10))))))])]),
  (.ret (.call x_prefix_sum [(.v 3), (.v 4), (.call x_digits_of [(.v 5), (.v 1)])]))]⟩
def b_ses_undo : Df := ⟨1, 2, [
  (.ite (.cmp .eq (.fld (.v 0) 16) (.lst [])) [(.raise 18)] []),
  (.asg (.nm 1) (.m0 .pop (.fld (.v 0) 16))),
  (.ex (.m1 .append (.fld (.v 0) 17) (.tup [(.v 1), (.fld (.v 0) 14)]))),
  (.setFld (.v 0) 14 (.m0 .pop (.fld (.v 0) 15))),
  (.ret (.ix (.v 1) (.c (.int (0)))))]⟩
def b_ses_redo : Df := ⟨1, 3, [
  (.ite (.cmp .eq (.fld (.v 0) 17) (.lst [])) [(.raise 18)] []),
  (.asg (.tp [(.nm 1), (.nm 2)]) (.m0 .pop (.fld (.v 0) 17))),
  (.ex (.m1 .append (.fld (.v 0) 15) (.fld (.v 0) 14))),
  (.setFld (.v 0) 14 (.v 2)),
  (.ex (.m1 .append (.fld (.v 0) 16) (.v 1))),
  (.ret (.ix (.v 1) (.c (.int (0)))))]⟩
/-- the defs' numbers -/
structure SN where
  (isb ism chm chn chl dig bls prs ini len eq str cst per red rel add mac chg und rdo : Nat)
structure SesP (P : Pg) (N : SN) : Prop where
  isb : P.df N.isb = some b_is_between
  ism : P.df N.ism = some (b_is_machine N.isb)
  chm : P.df N.chm = some (b_check_machine N.ism 1)
  chn : P.df N.chn = some (b_check_number N.isb 2)
  chl : P.df N.chl = some (b_check_letter N.isb 3)
  dig : P.df N.dig = some b_digits_of
  bls : P.df N.bls = some b_block_sums
  prs : P.df N.prs = some (b_prefix_sum N.bls)
  ini : P.df N.ini = some (b_ses_init N.chm)
  len : P.df N.len = some b_ses_len
  eq : P.df N.eq = some b_ses_eq
  str : P.df N.str = some b_ses_str
  cst : P.df N.cst = some (b_ses_check_state N.isb)
  per : P.df N.per = some b_ses_perform
  red : P.df N.red = some (b_ses_redirect N.isb)
  rel : P.df N.rel = some (b_ses_relabel N.chl)
  add : P.df N.add = some (b_ses_add_state N.chl)
  mac : P.df N.mac = some b_ses_machine
  chg : P.df N.chg = some (b_ses_changed N.chn N.prs N.dig)
  und : P.df N.und = some b_ses_undo
  rdo : P.df N.rdo = some b_ses_redo
  m0 : P.meth 0 0 = some N.ini
  m1 : P.meth 0 1 = some N.len
  m2 : P.meth 0 2 = some N.eq
  m3 : P.meth 0 3 = some N.str
  m4 : P.meth 0 4 = some N.cst
  m5 : P.meth 0 5 = some N.per
  m6 : P.meth 0 6 = some N.red
  m7 : P.meth 0 7 = some N.rel
  m8 : P.meth 0 8 = some N.add
  m9 : P.meth 0 9 = some N.mac
  m10 : P.meth 0 10 = some N.chg
  m11 : P.meth 0 11 = some N.und
  m12 : P.meth 0 12 = some N.rdo
  na : ∀ f, 13 ≤ f → f ≤ 17 → P.noat 0 f = true
  fuel : 100 ≤ P.fuel
def L5 (b c : D) (e d u : Nat) : List (Nat × D) := [(13, b), (14, c), (15, .ob e), (16, .ob d), (17, .ob u)]
section
variable {P : Pg} {N : SN} {h : Hd} {k e d u : Nat} {b c : D} {n : Nat}
@[simp] theorem Pg.cl_noat (P : Pg) (n : Nat) : (P.cl n).noat = P.noat := rfl
@[simp] theorem Pg.cl_meth (P : Pg) (n : Nat) : (P.cl n).meth = P.meth := rfl
theorem f13 (hp : SesP P N) (i : h[k]? = some (.ins 0 (L5 b c e d u))) : fldD (P.cl n) (.ob k) 13 h = .ok b := fldD_at _ i (hp.na 13 (by omega) (by omega)) rfl
theorem f14 (hp : SesP P N) (i : h[k]? = some (.ins 0 (L5 b c e d u))) : fldD (P.cl n) (.ob k) 14 h = .ok c := fldD_at _ i (hp.na 14 (by omega) (by omega)) rfl
theorem f15 (hp : SesP P N) (i : h[k]? = some (.ins 0 (L5 b c e d u))) : fldD (P.cl n) (.ob k) 15 h = .ok (.ob e) := fldD_at _ i (hp.na 15 (by omega) (by omega)) rfl
theorem f16 (hp : SesP P N) (i : h[k]? = some (.ins 0 (L5 b c e d u))) : fldD (P.cl n) (.ob k) 16 h = .ok (.ob d) := fldD_at _ i (hp.na 16 (by omega) (by omega)) rfl
theorem f17 (hp : SesP P N) (i : h[k]? = some (.ins 0 (L5 b c e d u))) : fldD (P.cl n) (.ob k) 17 h = .ok (.ob u) := fldD_at _ i (hp.na 17 (by omega) (by omega)) rfl
theorem len_tp {xs : List D} (h : Hd) : b1D .len (.t xs) h = .ok (.int (xs.length : Nat), h) := rfl
theorem cst_ok (hp : SesP P N) (n : Nat) {m : Mc} (i : h[k]? = some (.ins 0 (L5 b m.d e d u))) {s : D} (hs : pl0 s = true) (more : Int) : callF P (n + 2) N.cst [.ob k, s, .int more] h = if btw s 0 ((m.rows.length : Int) - 1 + more) then .ok (.non, h) else .ex 13 h := by
  rw [callF_at hp.cst rfl]
  simp [b_ses_check_state, f14 hp i, m.ix1, len_tp, rows_len, is_between_all hp.isb n hs]
  cases btw s 0 ((m.rows.length : Int) - 1 + more) <;> simp

theorem app_ok {xs : List D} {i : Nat} {x : D} (e : h[i]? = some (.lst xs)) (hl : xs.length + 1 ≤ 1000000) : m1D .append (.ob i) x h = .ok (.non, h.set i (.lst (xs ++ [x]))) := by
  have : xs.length < sizeL := lt_sizeL (by omega)
  simp [m1D, e, this]
theorem oldOk_ix : ∀ {m : Nat} {h h' : Hd}, oldOk m h h' = true → ∀ (j : Nat) (o : Ob), h[j]? = some o → ∃ o', h'[j]? = some o' ∧ (o = o' ∨ Ob.lo m o' = true)
  | _, [], _, _, _, _, e => by simp at e
  | _, a :: r, [], h, _, _, _ => by simp [oldOk] at h
  | m, a :: r, b :: s, h, 0, o, e => by
    simp only [oldOk, Bool.and_eq_true, Bool.or_eq_true, decide_eq_true_eq] at h
    cases e
    exact ⟨b, rfl, h.1⟩
  | m, a :: r, b :: s, h, j + 1, o, e => by
    simp only [oldOk, Bool.and_eq_true] at h
    exact oldOk_ix h.2 j o e
/-- an instance that holds a new list stays as it is -/
theorem gc_ses {h h' : Hd} {x : D} {u' : Nat} {b' c' : D} {e' d' : Nat} (i : h[k]? = some (.ins 0 (L5 b c e d u))) (i' : h'[k]? = some (.ins 0 (L5 b' c' e' d' u'))) (hu : u < h.length) (hu' : h.length ≤ u') : gc h x h' = (x, h') := by
  have : oldOk h.length h h' = false := by
    cases q : oldOk h.length h h' with
    | false => rfl
    | true =>
      obtain ⟨o', e1, e2⟩ := oldOk_ix q k _ i
      rw [i'] at e1
      cases e1
      rcases e2 with e2 | e2
      · simp [L5] at e2; omega
      · simp [L5, Ob.lo] at e2; omega
  unfold gc
  rw [this]
  rfl
/-- a session -/
structure Ses (h : Hd) (k : Nat) (b c : D) (xe xd xu : List D) (e d u : Nat) : Prop where
  i : h[k]? = some (.ins 0 (L5 b c e d u))
  ie : h[e]? = some (.lst xe)
  id : h[d]? = some (.lst xd)
  iu : h[u]? = some (.lst xu)
  ed : e ≠ d
  eu : e ≠ u
  du : d ≠ u
def Frm (S : List Nat) (h h' : Hd) : Prop := h.length ≤ h'.length ∧ ∀ j, j < h.length → j ∉ S → h'[j]? = h[j]?
theorem set_get {h : Hd} {i j : Nat} {o : Ob} (hj : j < h.length) : (h.set i o)[j]? = if i = j then some o else h[j]? := by
  by_cases c : i = j
  · subst c; simp [hj]
  · rw [List.getElem?_set_ne c, if_neg c]
theorem per_ok (hp : SesP P N) (n : Nat) {xe xd xu : List D} (s : Ses h k b c xe xd xu e d u) (he : xe.length ≤ 1000) (hd : xd.length ≤ 1000) (c' op : D) : ∃ h', callF P (n + 1) N.per [.ob k, c', op] h = .ok (.non, h') ∧ Ses h' k b c' (xe ++ [c]) (xd ++ [op]) [] e d h.length ∧ Frm [k, e, d] h h' ∧ h'.length = h.length + 1 := by
  have lk := get_lt s.i
  have le := get_lt s.ie
  have ld := get_lt s.id
  have lu := get_lt s.iu
  have ke : k ≠ e := fun q => by have := s.ie; rw [← q, s.i] at this; cases this
  have kd : k ≠ d := fun q => by have := s.id; rw [← q, s.i] at this; cases this
  have ed := s.ed
  obtain ⟨h1, eh1⟩ : ∃ h1, h1 = h.set e (.lst (xe ++ [c])) := ⟨_, rfl⟩
  have l1 : h1.length = h.length := by rw [eh1, List.length_set]
  have i1 : h1[k]? = some (.ins 0 (L5 b c e d u)) := by rw [eh1, set_get lk, if_neg (Ne.symm ke)]; exact s.i
  obtain ⟨h2, eh2⟩ : ∃ h2, h2 = h1.set k (.ins 0 (L5 b c' e d u)) := ⟨_, rfl⟩
  have l2 : h2.length = h.length := by rw [eh2, List.length_set, l1]
  have i2 : h2[k]? = some (.ins 0 (L5 b c' e d u)) := by rw [eh2, set_get (by omega), if_pos rfl]
  have d2 : h2[d]? = some (.lst xd) := by rw [eh2, set_get (by omega), if_neg kd, eh1, set_get ld, if_neg ed]; exact s.id
  obtain ⟨h3, eh3⟩ : ∃ h3, h3 = h2.set d (.lst (xd ++ [op])) := ⟨_, rfl⟩
  have l3 : h3.length = h.length := by rw [eh3, List.length_set, l2]
  have i3 : h3[k]? = some (.ins 0 (L5 b c' e d u)) := by rw [eh3, set_get (by omega), if_neg (Ne.symm kd)]; exact i2
  obtain ⟨h4, eh4⟩ : ∃ h4, h4 = (h3 ++ [Ob.lst []]).set k (.ins 0 (L5 b c' e d h.length)) := ⟨_, rfl⟩
  have i4 : h4[k]? = some (.ins 0 (L5 b c' e d h.length)) := by rw [eh4, set_get (by simp; omega), if_pos rfl]
  have g4 : ∀ j, j < h.length → j ≠ k → h4[j]? = h3[j]? := fun j hj hn => by rw [eh4, set_get (by simp; omega), if_neg (Ne.symm hn), List.getElem?_append_left (by omega)]
  have g3 : ∀ j, j < h.length → j ≠ d → h3[j]? = h2[j]? := fun j hj hn => by rw [eh3, set_get (by omega), if_neg (Ne.symm hn)]
  have g2 : ∀ j, j < h.length → j ≠ k → h2[j]? = h1[j]? := fun j hj hn => by rw [eh2, set_get (by omega), if_neg (Ne.symm hn)]
  have g1 : ∀ j, j < h.length → j ≠ e → h1[j]? = h[j]? := fun j hj hn => by rw [eh1, set_get (by omega), if_neg (Ne.symm hn)]
  have fp : ∀ f, 13 ≤ f → f ≤ 17 → (P.cl n).noat 0 f = true := hp.na
  refine ⟨h4, ?_, ⟨i4, ?_, ?_, ?_, ed, Nat.ne_of_lt le, Nat.ne_of_lt ld⟩, ⟨by rw [eh4]; simp; omega, fun j hj hn => ?_⟩, by rw [eh4]; simp; omega⟩
  · rw [callF_at hp.per rfl]
    have a3 : (h3 ++ [Ob.lst []])[k]? = some (.ins 0 (L5 b c' e d u)) := by rw [List.getElem?_append_left (by omega)]; exact i3
    have s1 := setFldF_at (P.cl n) (σ := [some (.ob k), some c', some op]) (d := c') (m := 14) i1 (fp 14 (by omega) (by omega)) (show 5 < 1000 by decide)
    have s2 := setFldF_at (P.cl n) (σ := [some (.ob k), some c', some op]) (d := .ob h.length) (m := 17) a3 (fp 17 (by omega) (by omega)) (show 5 < 1000 by decide)
    have p1 : fPut (L5 b c e d u) 14 c' = L5 b c' e d u := rfl
    have p2 : fPut (L5 b c' e d u) 17 (.ob h.length) = L5 b c' e d h.length := rfl
    rw [p1, ← eh2] at s1
    rw [p2, ← eh4] at s2
    simp [b_ses_perform, f14 hp s.i, f15 hp s.i, rcv_append s.ie, app_ok s.ie (by omega : xe.length + 1 ≤ 1000000), ← eh1, s1, f16 hp i2, rcv_append d2, app_ok d2 (by omega : xd.length + 1 ≤ 1000000), ← eh3, l3, s2]
    exact gc_ses s.i i4 lu (Nat.le_refl _)
  · rw [g4 e le (Ne.symm ke), g3 e le ed, g2 e le (Ne.symm ke), eh1, set_get le, if_pos rfl]
  · rw [g4 d ld (Ne.symm kd), eh3, set_get (by omega), if_pos rfl]
  · rw [eh4, set_get (by simp; omega), if_neg (by omega), List.getElem?_append_right (by omega)]; simp [l3]
  · simp at hn
    rw [g4 j hj hn.1, g3 j hj hn.2.2, g2 j hj hn.1, g1 j hj hn.2.1]
end
end Mp
set_option maxHeartbeats 4000000
/-! class Session: the operations' ends -/
namespace Mp
section
variable {α : Type} {C : Cl}
theorem ev_forX {i : Nat} {it : I} {b : List S} {σ : Sl} {h h1 : Hd} {q : Sq} {l : List α} {φ : α → D} {p : α → Bool} {v : Nat} (hi : evI C it σ h = .ok ((q, l.map φ), h1)) (hn : i < σ.length)
    (f : ∀ a ∈ l, evSs C b (σ.set i (some (φ a))) h1 = if p a then .nx (σ.set i (some (φ a))) h1 else .ex v (σ.set i (some (φ a))) h1) (ho : still h1 q = true := by rfl) (hq : ∀ f, openF q f = f := by intro; rfl) :
    (l.all p = true ∧ ∃ x, evS C (.for_ (.nm i) it b) σ h = .nx (σ.set i x) h1) ∨ (l.all p = false ∧ ∃ σ', evS C (.for_ (.nm i) it b) σ h = .ex v σ' h1) := by
  have key : ∀ (l' : List α) (x : Option D), (∀ a ∈ l', a ∈ l) → (l'.all p = true ∧ ∃ y, forF (fun h => still h q) (.nm i) (fun σ h => evSs C b σ h) (l'.map φ) (σ.set i x) h1 = .nx (σ.set i y) h1) ∨ (l'.all p = false ∧ ∃ σ', forF (fun h => still h q) (.nm i) (fun σ h => evSs C b σ h) (l'.map φ) (σ.set i x) h1 = .ex v σ' h1) := by
    intro l'
    induction l' with
    | nil => exact fun x _ => .inl ⟨rfl, x, rfl⟩
    | cons a l' ih =>
      intro x hx
      have e := f a (hx a List.mem_cons_self)
      have e1 : asgT (.nm i) (φ a) (σ.set i x) = some (σ.set i (some (φ a))) := by simp [hn]
      cases c : p a with
      | true =>
        rw [c, if_pos rfl] at e
        rcases ih (some (φ a)) fun b hb => hx b (List.mem_cons_of_mem _ hb) with ⟨c2, y, r⟩ | ⟨c2, y, r⟩
        · exact .inl ⟨by simp [c] at c2 ⊢; exact c2, y, by rw [List.map_cons, forF, e1]; simp only [e, ho, if_true, r]⟩
        · exact .inr ⟨by simp [c] at c2 ⊢; exact c2, y, by rw [List.map_cons, forF, e1]; simp only [e, ho, if_true, r]⟩
      | false =>
        rw [c, if_neg (by decide)] at e
        exact .inr ⟨by simp [c], σ.set i (some (φ a)), by rw [List.map_cons, forF, e1]; simp only [e]⟩
  have fin : evS C (.for_ (.nm i) it b) σ h = forF (fun h => still h q) (.nm i) (fun σ h => evSs C b σ h) (l.map φ) σ h1 := by
    show thenF σ (evI C it σ h) (fun w => openF w.1.1 (forF (fun h => still h w.1.1) (.nm i) (fun σ h => evSs C b σ h) w.1.2 σ w.2)) = _
    rw [hi]
    show openF q _ = _
    rw [hq]
  rw [fin]
  have es : σ = σ.set i σ[i] := by simp
  have k := key l (σ[i]) fun a ha => ha
  rw [← es] at k
  exact k
end
section
variable {P : Pg} {N : SN} {h : Hd} {k e d u : Nat} {b c : D} {n : Nat} {m : Mc}
theorem um4 (hp : SesP P N) (i : h[k]? = some (.ins 0 (L5 b c e d u))) : umQ (P.cl n) 4 (.ob k) h = .ok N.cst := umQ_at _ i hp.m4 rfl
theorem um5 (hp : SesP P N) (i : h[k]? = some (.ins 0 (L5 b c e d u))) : umQ (P.cl n) 5 (.ob k) h = .ok N.per := umQ_at _ i hp.m5 rfl
theorem red_e1 (hp : SesP P N) (n : Nat) (i : h[k]? = some (.ins 0 (L5 b m.d e d u))) {x y z : D} (hx : pl0 x = true) (bx : btw x 0 ((m.rows.length : Int) - 1) = false) : callF P (n + 3) N.red [.ob k, x, y, z] h = .ex 13 h := by
  rw [callF_at hp.red rfl]
  have e1 := cst_ok hp n i hx 0
  rw [Int.add_zero, bx] at e1
  simp [b_ses_redirect, um4 hp i, e1]
theorem red_e2 (hp : SesP P N) (n : Nat) (i : h[k]? = some (.ins 0 (L5 b m.d e d u))) {x y z : D} (hx : pl0 x = true) (bx : btw x 0 ((m.rows.length : Int) - 1) = true) (hy : pl0 y = true) (by' : btw y 0 ((m.b : Int) - 1) = false) : callF P (n + 3) N.red [.ob k, x, y, z] h = .ex 6 h := by
  rw [callF_at hp.red rfl]
  have e1 := cst_ok hp n i hx 0
  rw [Int.add_zero, bx] at e1
  simp [b_ses_redirect, um4 hp i, e1, f14 hp i, Mc.d, is_between_all hp.isb (n + 1) hy, by']
theorem red_e3 (hp : SesP P N) (n : Nat) (i : h[k]? = some (.ins 0 (L5 b m.d e d u))) {x y z : D} (hx : pl0 x = true) (bx : btw x 0 ((m.rows.length : Int) - 1) = true) (hy : pl0 y = true) (by' : btw y 0 ((m.b : Int) - 1) = true) (hz : pl0 z = true) (bz : btw z 0 ((m.rows.length : Int) - 1) = false) : callF P (n + 3) N.red [.ob k, x, y, z] h = .ex 13 h := by
  rw [callF_at hp.red rfl]
  have e1 := cst_ok hp n i hx 0
  have e3 := cst_ok hp n i hz 0
  rw [Int.add_zero, bx] at e1
  rw [Int.add_zero, bz] at e3
  simp [b_ses_redirect, um4 hp i, e1, e3, f14 hp i, Mc.d, is_between_all hp.isb (n + 1) hy, by']
theorem red_e4 (hp : SesP P N) (n : Nat) (i : h[k]? = some (.ins 0 (L5 b m.d e d u))) {z : Int} (hr : 1 ≤ m.rows.length) (hb : 1 ≤ m.b) (hz : 0 < z) (bz : z ≤ (m.rows.length : Int) - 1) : callF P (n + 3) N.red [.ob k, .int 0, .int 0, .int z] h = .ex 13 h := by
  rw [callF_at hp.red rfl]
  have e1 := cst_ok hp n i (s := .int 0) rfl 0
  have e3 := cst_ok hp n i (s := .int z) rfl 0
  have b1 : btw (.int 0) 0 ((m.rows.length : Int) - 1) = true := by simp [btw]; omega
  have b3 : btw (.int z) 0 ((m.rows.length : Int) - 1) = true := by simp [btw]; omega
  have b2 : btw (.int 0) 0 ((m.b : Int) - 1) = true := by simp [btw]; omega
  rw [Int.add_zero, b1] at e1
  rw [Int.add_zero, b3] at e3
  have nz : ¬ z = 0 := by omega
  simp [b_ses_redirect, um4 hp i, e1, e3, f14 hp i, Mc.d, is_between_all hp.isb (n + 1) (d := .int 0) rfl, b2, nz]
theorem rel_e1 (hp : SesP P N) (n : Nat) (i : h[k]? = some (.ins 0 (L5 b m.d e d u))) {x y : D} (hx : pl0 x = true) (bx : btw x 0 ((m.rows.length : Int) - 1) = false) : callF P (n + 3) N.rel [.ob k, x, y] h = .ex 13 h := by
  rw [callF_at hp.rel rfl]
  have e1 := cst_ok hp n i hx 0
  rw [Int.add_zero, bx] at e1
  simp [b_ses_relabel, um4 hp i, e1]
theorem rel_e2 (hp : SesP P N) (n : Nat) (i : h[k]? = some (.ins 0 (L5 b m.d e d u))) {x y : D} (hx : pl0 x = true) (bx : btw x 0 ((m.rows.length : Int) - 1) = true) (hy : pl0 y = true) (by' : btw y 0 2 = false) : callF P (n + 3) N.rel [.ob k, x, y] h = .ex 3 h := by
  rw [callF_at hp.rel rfl]
  have e1 := cst_ok hp n i hx 0
  rw [Int.add_zero, bx] at e1
  have e2 := check_letter_all hp.chl hp.isb n hy h
  rw [by'] at e2
  simp [b_ses_relabel, um4 hp i, e1, e2]
theorem mac_ok (hp : SesP P N) (n : Nat) (i : h[k]? = some (.ins 0 (L5 b m.d e d u))) : callF P (n + 1) N.mac [.ob k] h = .ok (m.d, h) := by
  rw [callF_at hp.mac rfl]
  simp [b_ses_machine, f14 hp i, gc_self m.lo]
/-- add_state of what is no tuple, or a tuple of another length -/
theorem add_e0 (hp : SesP P N) (n : Nat) (i : h[k]? = some (.ins 0 (L5 b m.d e d u))) {x y : D} (hx : ∀ C : Cl, isiD C [.tuple] x h = .ok (.bl false)) : callF P (n + 3) N.add [.ob k, x, y] h = .ex 13 h := by
  rw [callF_at hp.add rfl]
  simp [b_ses_add_state, f14 hp i, Mc.d, hx]
theorem isT (C : Cl) {xs : List D} {h : Hd} : isiD C [.tuple] (.tup xs) h = .ok (.bl true) := by simp [isiD, isTy, kindD, kdTy]
theorem add_e1 (hp : SesP P N) (n : Nat) (i : h[k]? = some (.ins 0 (L5 b m.d e d u))) {xs : List D} {y : D} (hx : xs.length ≠ m.b) : callF P (n + 3) N.add [.ob k, .tup xs, y] h = .ex 13 h := by
  rw [callF_at hp.add rfl]
  have : ¬ ((xs.length : Int) = (m.b : Int)) := by omega
  simp [b_ses_add_state, f14 hp i, Mc.d, isT, len_tp, this]

theorem add_loop (hp : SesP P N) (n : Nat) (i : h[k]? = some (.ins 0 (L5 b m.d e d u))) {xs : List D} {y : D} (hx : ∀ x ∈ xs, pl0 x = true) (r : Sl) (hr : 1 ≤ r.length) :
    (xs.all (fun x => btw x 0 (m.rows.length : Int)) = true ∧ ∃ o, evS (P.cl (n + 2)) (.for_ (.nm 3) (.sq (.v 1)) [(.ex (.um 4 (.v 0) [(.v 3), (.c (.int (1)))]))]) (some (.ob k) :: some (.tup xs) :: some y :: r) h = .nx ((some (.ob k) :: some (.tup xs) :: some y :: r).set 3 o) h) ∨ (xs.all (fun x => btw x 0 (m.rows.length : Int)) = false ∧ ∃ σ', evS (P.cl (n + 2)) (.for_ (.nm 3) (.sq (.v 1)) [(.ex (.um 4 (.v 0) [(.v 3), (.c (.int (1)))]))]) (some (.ob k) :: some (.tup xs) :: some y :: r) h = .ex 13 σ' h) := by
  refine ev_forX (φ := id) (q := .t xs) (by simp) (by simp; omega) fun x hm => ?_
  have c := cst_ok hp n i (hx x hm) 1
  have e1 : ((m.rows.length : Int) - 1 + 1) = (m.rows.length : Int) := by omega
  rw [e1] at c
  cases r with
  | nil => simp at hr
  | cons z r =>
    simp only [List.set_cons_succ, List.set_cons_zero, evSs_cons, evS_ex, evR_um, evR_v, getV_z, getV_s, R.ok_bind, vl_v, um4 hp i, evEs_cons, evEs_nil, evR_c, Pg.cl_call, id_eq, c]
    cases btw x 0 (m.rows.length : Int) <;> simp
theorem add_e2 (hp : SesP P N) (n : Nat) (i : h[k]? = some (.ins 0 (L5 b m.d e d u))) {xs : List D} {y : D} (hl : xs.length = m.b) (hx : ∀ x ∈ xs, pl0 x = true) (hb : xs.all (fun x => btw x 0 (m.rows.length : Int)) = false) : callF P (n + 3) N.add [.ob k, .tup xs, y] h = .ex 13 h := by
  rw [callF_at hp.add rfl]
  rcases add_loop hp n i (y := y) hx [none, some (.int (m.b : Int)), some (.tup (rD' m.rows)), some (.tup (nI m.lets))] (by simp) with ⟨c, _⟩ | ⟨_, σ', lp⟩
  · rw [hb] at c; cases c
  · simp [b_ses_add_state, f14 hp i, Mc.d, isT, len_tp, hl]
    rw [lp]
    simp
theorem add_e3 (hp : SesP P N) (n : Nat) (i : h[k]? = some (.ins 0 (L5 b m.d e d u))) {xs : List D} {y : D} (hl : xs.length = m.b) (hx : ∀ x ∈ xs, pl0 x = true) (hb : xs.all (fun x => btw x 0 (m.rows.length : Int)) = true) (hy : pl0 y = true) (by' : btw y 0 2 = false) : callF P (n + 3) N.add [.ob k, .tup xs, y] h = .ex 3 h := by
  rw [callF_at hp.add rfl]
  have e2 := check_letter_all hp.chl hp.isb n hy h
  rw [by'] at e2
  rcases add_loop hp n i (y := y) hx [none, some (.int (m.b : Int)), some (.tup (rD' m.rows)), some (.tup (nI m.lets))] (by simp) with ⟨_, o, lp⟩ | ⟨c, _⟩
  · simp [b_ses_add_state, f14 hp i, Mc.d, isT, len_tp, hl]
    rw [lp]
    simp [e2]
  · rw [hb] at c; cases c
theorem add_e4 (hp : SesP P N) (n : Nat) (i : h[k]? = some (.ins 0 (L5 b m.d e d u))) {xs : List D} {y : D} (hl : xs.length = m.b) (hx : ∀ x ∈ xs, pl0 x = true) (hb : xs.all (fun x => btw x 0 (m.rows.length : Int)) = true) (hy : pl0 y = true) (by' : btw y 0 2 = true) (h4 : m.rows.length = 4) : callF P (n + 3) N.add [.ob k, .tup xs, y] h = .ex 16 h := by
  rw [callF_at hp.add rfl]
  have e2 := check_letter_all hp.chl hp.isb n hy h
  rw [by'] at e2
  rcases add_loop hp n i (y := y) hx [none, some (.int (m.b : Int)), some (.tup (rD' m.rows)), some (.tup (nI m.lets))] (by simp) with ⟨_, o, lp⟩ | ⟨c, _⟩
  · simp [b_ses_add_state, f14 hp i, Mc.d, isT, len_tp, hl]
    rw [lp]
    simp [e2, len_tp, rows_len, h4]
  · rw [hb] at c; cases c
/-- the machine with one more state -/
def Mc.more (m : Mc) (r : List Nat) (l : Nat) : Mc := ⟨m.b, m.rows ++ [r], m.lets ++ [l]⟩
def opAdd (r : List Nat) (l : Nat) : D := .tup [.str [97, 100, 100, 95, 115, 116, 97, 116, 101], .tup [.tup (nI r), .int (l : Int)]]
theorem tupadd {xs ys : List D} (h : Hd) (hl : xs.length + ys.length ≤ 1000000) : binD .add (.tup xs) (.tup ys) h = .ok (.tup (xs ++ ys), h) := by
  have := le_sizeL hl
  simp [binD, this]
theorem add_ok (hp : SesP P N) (n : Nat) {xe xd xu : List D} (s : Ses h k b m.d xe xd xu e d u) (he : xe.length ≤ 1000) (hd : xd.length ≤ 1000) (o : m.ok) {r : List Nat} {l : Nat} (hl : r.length = m.b) (hb : ∀ t ∈ r, t ≤ m.rows.length) (hy : l ≤ 2) (h4 : m.rows.length < 4) :
    ∃ h', callF P (n + 3) N.add [.ob k, .tup (nI r), .int (l : Int)] h = .ok (.non, h') ∧ Ses h' k b (m.more r l).d (xe ++ [m.d]) (xd ++ [opAdd r l]) [] e d h.length ∧ Frm [k, e, d] h h' ∧ h'.length = h.length + 1 := by
  have e2 := check_letter_all (d := .int (l : Int)) hp.chl hp.isb n rfl h
  have b2 : btw (.int (l : Int)) 0 2 = true := by simp [btw]; omega
  rw [b2] at e2
  have al : (nI r).all (fun x => btw x 0 (m.rows.length : Int)) = true := by
    rw [List.all_eq_true]
    intro x hx
    obtain ⟨t, ht, rfl⟩ := List.mem_map.mp hx
    have := hb t ht
    simp [btw]
    omega
  have pl : ∀ x ∈ nI r, pl0 x = true := fun x hx => by
    obtain ⟨t, ht, rfl⟩ := List.mem_map.mp hx
    rfl
  have hl' : (nI r).length = m.b := by rw [nI_len, hl]
  obtain ⟨h', p1, p2, p3, p4⟩ := per_ok hp (n + 1) s he hd (m.more r l).d (opAdd r l)
  refine ⟨h', ?_, p2, p3, p4⟩
  rw [callF_at hp.add rfl]
  rcases add_loop hp n s.i (y := .int (l : Int)) pl [none, some (.int (m.b : Int)), some (.tup (rD' m.rows)), some (.tup (nI m.lets))] (by simp) with ⟨_, w, lp⟩ | ⟨c, _⟩
  · have n4 : ¬ ((m.rows.length : Int) = 4) := by omega
    have lr : (rD' m.rows).length ≤ 4 := by rw [rows_len]; omega
    have ll : (nI m.lets).length ≤ 4 := by rw [nI_len, o.ll]; omega
    have a1 := tupadd (xs := rD' m.rows) (ys := [.tup (nI r)]) h (by simp; omega)
    have a2 := tupadd (xs := nI m.lets) (ys := [.int (l : Int)]) h (by simp; omega)
    have em : D.tup [.int (m.b : Int), .tup (rD' m.rows ++ [.tup (nI r)]), .tup (nI m.lets ++ [.int (l : Int)])] = (m.more r l).d := by simp [Mc.d, Mc.more, rD', nI]
    simp [b_ses_add_state, f14 hp s.i, Mc.d, isT, len_tp, hl']
    rw [lp]
    simp [e2, len_tp, rows_len, n4, um5 hp s.i, a1, a2]
    rw [em]
    have : D.tup [.str [97, 100, 100, 95, 115, 116, 97, 116, 101], .tup [.tup (nI r), .int (l : Int)]] = opAdd r l := rfl
    rw [this]
    simp [p1]
    exact gc_ses s.i p2.i (get_lt s.iu) (Nat.le_refl _)
  · rw [al] at c; cases c
end
end Mp
set_option maxHeartbeats 4000000
/-! class Session: making one, undo, redo, == -/
namespace Mp
open PySem
instance : DecidableEq Mc := fun a b => decidable_of_iff (a.b = b.b ∧ a.rows = b.rows ∧ a.lets = b.lets) (by cases a; cases b; simp)
section
variable {P : Pg} {N : SN} {h : Hd} {k e d u : Nat} {b c : D} {n : Nat} {m : Mc}
theorem toP_lst {i : Nat} {xs : List D} (e1 : h[i]? = some (.lst xs)) (hx : plns 39 xs = true) : toP h 40 (.ob i) = some (.list (cPs xs)) := by
  show (match h[i]? with
      | some (.lst xs) => (xs.mapM (toP h 39)).map PySem.PyData.list
      | some (.scr xs) => (xs.mapM (toP h 39)).map PySem.PyData.list
      | _ => none) = _
  rw [e1]
  dsimp only
  rw [toP_cPs h 39 xs hx]
  rfl
theorem pyEq_lst {i j : Nat} {xs ys : List D} (e1 : h[i]? = some (.lst xs)) (hx : plns 39 xs = true) (e2 : h[j]? = some (.lst ys)) (hy : plns 39 ys = true) : pyEq h (.ob i) (.ob j) = some (decide (xs = ys)) := by
  unfold pyEq
  rw [toP_lst e1 hx, toP_lst e2 hy]
  show some (PyData.eqvAll _ _) = _
  rw [eqv_cPs 39 39 xs ys hx hy]
theorem eq_lst {C : Cl} {i j : Nat} {xs ys : List D} (e1 : h[i]? = some (.lst xs)) (hx : plns 39 xs = true) (e2 : h[j]? = some (.lst ys)) (hy : plns 39 ys = true) : cmpC C .eq (.ob i) (.ob j) h = .ok (.bl (decide (xs = ys)), h) := by
  rw [cmpC_eq_lst e1]
  simp [cmpD, pyEq_lst e1 hx e2 hy]
/-- at a call's end what lay there stays -/
theorem gc_cut (h : Hd) {x : D} {h2 : Hd} (hx : D.lo h.length x = true) (hl : h.length ≤ h2.length) : ∃ h', gc h x h2 = (x, h') ∧ h.length ≤ h'.length ∧ h'.length ≤ h2.length ∧ ∀ j, j < h.length → h'[j]? = h2[j]? := by
  unfold gc
  by_cases c : oldOk h.length h h2 = true
  · rw [if_pos c, if_pos hx]
    exact ⟨_, rfl, by simp; omega, by simp; omega, fun j hj => by rw [List.getElem?_take, if_pos hj]⟩
  · rw [if_neg c]
    exact ⟨h2, rfl, hl, Nat.le_refl _, fun j hj => rfl⟩
theorem ini_ok (hp : SesP P N) (n : Nat) (o : m.ok) (h : Hd) : callF P (n + 4) N.ini [.ob h.length, m.d] (h ++ [.ins 0 []]) = .ok (.non, h ++ [.ins 0 (L5 m.d m.d (h.length + 1) (h.length + 2) (h.length + 3)), .lst [], .lst [], .lst []]) := by
  rw [callF_at hp.ini rfl]
  have fp : ∀ f, 13 ≤ f → f ≤ 17 → (P.cl (n + 3)).noat 0 f = true := hp.na
  have w : ∀ (g : Hd) (f : Nat) (fs : List (Nat × D)) (x : D) (σ : Sl), 13 ≤ f → f ≤ 17 → fs.length < 1000 → setFldF (P.cl (n + 3)) σ (.ob h.length) f x (h ++ .ins 0 fs :: g) = .nx σ (h ++ .ins 0 (fPut fs f x) :: g) := fun g f fs x σ h1 h2 h3 => by
    rw [setFldF_at _ (c := 0) (fs := fs) (by simp) (fp f h1 h2) h3]
    simp [List.set_append_right]
  have l1 : ∀ (a : Ob) (g : Hd), (h ++ a :: g).length = h.length + (g.length + 1) := by simp
  simp only [b_ses_init, start, List.map_cons, List.map_nil, Nat.sub_self, List.replicate_zero, List.append_nil, List.length_cons, List.length_nil, Nat.zero_add, evSs_cons, evS_ex, evR_call, evEs_cons, evEs_nil, evR_v, getV_z, getV_s, R.ok_bind, vl_v, Pg.cl_call, callD, check_machine_ok hp.chm hp.ism hp.isb n o, rv_ok, thenF_ok, F.seq_nx, evS_setFld, evSs_nil]
  have g1 : gc (h ++ [Ob.ins 0 []]) .non (h ++ [Ob.ins 0 (L5 m.d m.d (h.length + 1) (h.length + 2) (h.length + 3)), .lst [], .lst [], .lst []]) = (.non, h ++ [Ob.ins 0 (L5 m.d m.d (h.length + 1) (h.length + 2) (h.length + 3)), .lst [], .lst [], .lst []]) := by
    have : oldOk (h ++ [Ob.ins 0 []]).length (h ++ [Ob.ins 0 []]) (h ++ [Ob.ins 0 (L5 m.d m.d (h.length + 1) (h.length + 2) (h.length + 3)), .lst [], .lst [], .lst []]) = false := by
      cases q : oldOk (h ++ [Ob.ins 0 []]).length (h ++ [Ob.ins 0 []]) (h ++ [Ob.ins 0 (L5 m.d m.d (h.length + 1) (h.length + 2) (h.length + 3)), .lst [], .lst [], .lst []]) with
      | false => rfl
      | true =>
        obtain ⟨o', e1, e2⟩ := oldOk_ix q h.length (.ins 0 []) (by simp)
        have : o' = .ins 0 (L5 m.d m.d (h.length + 1) (h.length + 2) (h.length + 3)) := by simpa using e1.symm
        subst this
        rcases e2 with e2 | e2
        · simp [L5] at e2
        · simp [L5, Ob.lo] at e2
    unfold gc
    rw [this]
    rfl
  rw [w [] 13 [] m.d _ (by omega) (by omega) (by simp)]
  simp only [F.seq_nx, thenF_ok, evR_v, getV_z, getV_s, R.ok_bind, vl_v]
  rw [w [] 14 _ m.d _ (by omega) (by omega) (by simp [fPut])]
  simp only [F.seq_nx, evR_lst, evEs_nil, R.ok_bind, List.length_nil, Nat.zero_le, if_true, vl_l, thenF_ok, evR_v, getV_z, vl_v, List.append_assoc, List.cons_append, List.nil_append, l1]
  rw [w _ 15 _ _ _ (by omega) (by omega) (by simp [fPut])]
  simp only [F.seq_nx, evR_lst, evEs_nil, R.ok_bind, List.length_nil, List.length_cons, Nat.zero_le, if_true, vl_l, thenF_ok, evR_v, getV_z, vl_v, List.append_assoc, List.cons_append, List.nil_append, l1]
  rw [w _ 16 _ _ _ (by omega) (by omega) (by simp [fPut])]
  simp only [F.seq_nx, evR_lst, evEs_nil, R.ok_bind, List.length_nil, List.length_cons, Nat.zero_le, if_true, vl_l, thenF_ok, evR_v, getV_z, vl_v, List.append_assoc, List.cons_append, List.nil_append, l1]
  rw [w _ 17 _ _ _ (by omega) (by omega) (by simp [fPut])]
  exact congrArg R.ok g1
theorem mkS_ok (hp : SesP P N) (n : Nat) (o : m.ok) (h : Hd) : mkD (P.cl (n + 4)) 0 [m.d] h = .ok (.ob h.length, h ++ [.ins 0 (L5 m.d m.d (h.length + 1) (h.length + 2) (h.length + 3)), .lst [], .lst [], .lst []]) := by
  unfold mkD
  simp only [Pg.cl_meth, hp.m0, Pg.cl_call, ini_ok hp n o h, R.ok_bind, if_true]
theorem mkS_e (hp : SesP P N) (n : Nat) {x : D} (h : Hd) (hx : callF P (n + 3) N.chm [x] (h ++ [.ins 0 []]) = .ex 1 (h ++ [.ins 0 []])) : mkD (P.cl (n + 4)) 0 [x] h = .ex 1 (h ++ [.ins 0 []]) := by
  have e1 : callF P (n + 4) N.ini [.ob h.length, x] (h ++ [.ins 0 []]) = .ex 1 (h ++ [.ins 0 []]) := by
    rw [callF_at hp.ini rfl]
    simp [b_ses_init, hx]
  unfold mkD
  simp only [Pg.cl_meth, hp.m0, Pg.cl_call, e1, R.ex_bind]
theorem eqs_ok (hp : SesP P N) (n : Nat) {k' e' d' u' : Nat} {m' c' : Mc} {c2 : D} {xd xd' : List D} (i : h[k]? = some (.ins 0 (L5 m.d c e d u))) (i' : h[k']? = some (.ins 0 (L5 m'.d c2 e' d' u'))) (id : h[d]? = some (.lst xd)) (id' : h[d']? = some (.lst xd')) (hx : plns 39 xd = true) (hx' : plns 39 xd' = true) :
    callF P (n + 1) N.eq [.ob k, .ob k'] h = .ok (.bl (decide (m = m') && decide (xd = xd')), h) := by
  rw [callF_at hp.eq rfl]
  have is : isiD (P.cl n) [.cls 0] (.ob k') h = .ok (.bl true) := by simp [isiD, i', hp.m0]
  have e1 := eq_pln (h := h) (pln_mc (n := 36) m) (pln_mc (n := 36) m')
  have e2 : decide (m.d = m'.d) = decide (m = m') := by
    by_cases c : m = m'
    · subst c; simp
    · rw [decide_eq_false c, decide_eq_false fun q => c (mcd_inj q)]
  rw [e2] at e1
  have e3 := eq_lst (C := P.cl n) id hx id' hx'
  have cm : cmpC (P.cl n) .eq m.d m'.d h = .ok (.bl (decide (m = m')), h) := by
    show cmpE (cmpD .eq m.d m'.d h) h = _
    rw [e1]; rfl
  simp [b_ses_eq, is, f13 hp i, f13 hp i', f16 hp i, f16 hp i', cm, e3, gc_self]
  by_cases c : m = m' <;> simp [c, e3, f16 hp i, f16 hp i', gc_self]

theorem pop_ok {i : Nat} {xs : List D} {x : D} (e : h[i]? = some (.lst (xs ++ [x]))) : m0D .pop (.ob i) h = .ok (x, h.set i (.lst xs)) := by
  have : (xs ++ [x]).length - 1 = xs.length := by simp
  simp [m0D, e]
theorem und_ok (hp : SesP P N) (n : Nat) {xe xd xu xs : List D} {c0 nm : D} (s : Ses h k b c (xe ++ [c0]) (xd ++ [.tup (nm :: xs)]) xu e d u) (hx : plns 39 (xd ++ [.tup (nm :: xs)]) = true) (hu : xu.length ≤ 1000) (hn : D.lo h.length nm = true) :
    ∃ h', callF P (n + 1) N.und [.ob k] h = .ok (nm, h') ∧ Ses h' k b c0 xe xd (xu ++ [.tup [.tup (nm :: xs), c]]) e d u ∧ Frm [k, e, d, u] h h' ∧ h'.length ≤ h.length + 2 := by
  have lk := get_lt s.i
  have le := get_lt s.ie
  have ld := get_lt s.id
  have lu := get_lt s.iu
  have ke : k ≠ e := fun q => by have := s.ie; rw [← q, s.i] at this; cases this
  have kd : k ≠ d := fun q => by have := s.id; rw [← q, s.i] at this; cases this
  have ku : k ≠ u := fun q => by have := s.iu; rw [← q, s.i] at this; cases this
  have ed := s.ed
  have eu := s.eu
  have du := s.du
  -- the new empty list
  obtain ⟨h0, eh0⟩ : ∃ h0, h0 = h ++ [Ob.lst []] := ⟨_, rfl⟩
  have l0 : h0.length = h.length + 1 := by rw [eh0]; simp
  have g0 : ∀ j, j < h.length → h0[j]? = h[j]? := fun j hj => by rw [eh0, List.getElem?_append_left hj]
  have cq : cmpC (P.cl n) .eq (.ob d) (.ob h.length) h0 = .ok (.bl false, h0) := by
    have := eq_lst (C := P.cl n) (h := h0) (i := d) (j := h.length) (by rw [g0 d ld]; exact s.id) hx (ys := []) (by rw [eh0]; simp) rfl
    rw [this]
    have : decide (xd ++ [D.tup (nm :: xs)] = []) = false := by simp
    rw [this]
  obtain ⟨h1, eh1⟩ : ∃ h1, h1 = h0.set d (.lst xd) := ⟨_, rfl⟩
  have l1 : h1.length = h0.length := by rw [eh1, List.length_set]
  have g1 : ∀ j, j < h.length → j ≠ d → h1[j]? = h0[j]? := fun j hj hn => by rw [eh1, set_get (by omega), if_neg (Ne.symm hn)]
  obtain ⟨h2, eh2⟩ : ∃ h2, h2 = h1.set u (.lst (xu ++ [.tup [.tup (nm :: xs), c]])) := ⟨_, rfl⟩
  have l2 : h2.length = h1.length := by rw [eh2, List.length_set]
  have g2 : ∀ j, j < h.length → j ≠ u → h2[j]? = h1[j]? := fun j hj hn => by rw [eh2, set_get (by omega), if_neg (Ne.symm hn)]
  obtain ⟨h3, eh3⟩ : ∃ h3, h3 = h2.set e (.lst xe) := ⟨_, rfl⟩
  have l3 : h3.length = h2.length := by rw [eh3, List.length_set]
  have g3 : ∀ j, j < h.length → j ≠ e → h3[j]? = h2[j]? := fun j hj hn => by rw [eh3, set_get (by omega), if_neg (Ne.symm hn)]
  obtain ⟨h4, eh4⟩ : ∃ h4, h4 = h3.set k (.ins 0 (L5 b c0 e d u)) := ⟨_, rfl⟩
  have l4 : h4.length = h3.length := by rw [eh4, List.length_set]
  have g4 : ∀ j, j < h.length → j ≠ k → h4[j]? = h3[j]? := fun j hj hn => by rw [eh4, set_get (by omega), if_neg (Ne.symm hn)]
  have i0 : h0[k]? = some (.ins 0 (L5 b c e d u)) := by rw [g0 k lk]; exact s.i
  have i1 : h1[k]? = some (.ins 0 (L5 b c e d u)) := by rw [g1 k lk kd]; exact i0
  have i2 : h2[k]? = some (.ins 0 (L5 b c e d u)) := by rw [g2 k lk ku]; exact i1
  have i3 : h3[k]? = some (.ins 0 (L5 b c e d u)) := by rw [g3 k lk ke]; exact i2
  have d0 : h0[d]? = some (.lst (xd ++ [.tup (nm :: xs)])) := by rw [g0 d ld]; exact s.id
  have u1 : h1[u]? = some (.lst xu) := by rw [g1 u lu (Ne.symm du), g0 u lu]; exact s.iu
  have e2 : h2[e]? = some (.lst (xe ++ [c0])) := by rw [g2 e le eu, g1 e le ed, g0 e le]; exact s.ie
  have fp : ∀ f, 13 ≤ f → f ≤ 17 → (P.cl n).noat 0 f = true := hp.na
  obtain ⟨h', gc', q1, q2, q3⟩ := gc_cut h (h2 := h4) hn (by omega)
  refine ⟨h', ?_, ⟨?_, ?_, ?_, ?_, ed, eu, du⟩, ⟨q1, fun j hj hnj => ?_⟩, by omega⟩
  · rw [callF_at hp.und rfl]
    have s1 := setFldF_at (P.cl n) (σ := [some (.ob k), some (.tup (nm :: xs))]) (d := c0) (m := 14) i3 (fp 14 (by omega) (by omega)) (show 5 < 1000 by decide)
    have p1 : fPut (L5 b c e d u) 14 c0 = L5 b c0 e d u := rfl
    rw [p1, ← eh4] at s1
    have ix : ixC (.tup (nm :: xs)) (.int 0) h4 = .ok nm := ixD_nat (k := 0) h4 rfl
    simp [b_ses_undo, f16 hp s.i, ← eh0, cq, f16 hp i0, pop_ok d0, ← eh1, f17 hp i1, rcv_append u1, f14 hp i1, app_ok u1 (by omega : xu.length + 1 ≤ 1000000), ← eh2, f15 hp i2, pop_ok e2, ← eh3, s1, ix, gc', sz2]
  · rw [q3 k lk, eh4, set_get (by omega), if_pos rfl]
  · rw [q3 e le, g4 e le (Ne.symm ke), eh3, set_get (by omega), if_pos rfl]
  · rw [q3 d ld, g4 d ld (Ne.symm kd), g3 d ld (Ne.symm ed), g2 d ld du, eh1, set_get (by omega), if_pos rfl]
  · rw [q3 u lu, g4 u lu (Ne.symm ku), g3 u lu (Ne.symm eu), eh2, set_get (by omega), if_pos rfl]
  · simp at hnj
    rw [q3 j hj, g4 j hj hnj.1, g3 j hj hnj.2.1, g2 j hj hnj.2.2.2, g1 j hj hnj.2.2.1, g0 j hj]
end
end Mp
set_option maxHeartbeats 4000000
/-! class Session: redirect, relabel, redo -/
namespace Mp
open PySem
section
variable {P : Pg} {N : SN} {h : Hd} {k e d u : Nat} {b c : D} {n : Nat} {m : Mc}
theorem stepS {C : Cl} {s : S} {ss : List S} {σ σ' : Sl} {h h' : Hd} (e : evS C s σ h = .nx σ' h') : evSs C (s :: ss) σ h = evSs C ss σ' h' := by rw [evSs_cons, e]; rfl
theorem sl_drop {xs : List D} {j : Nat} (h : Hd) : slD (.tup xs) (.int (j : Int)) .non h = .ok (.tup (xs.drop j), h) := by
  have e : sIx xs.length 0 (.int (j : Int)) = some (min j xs.length) := by
    simp only [sIx]
    rw [if_neg (by omega)]
    simp
  have e0 : sIx xs.length xs.length .non = some xs.length := rfl
  have : slD (.tup xs) (.int (j : Int)) .non h = .ok (.tup (cut xs (min j xs.length) xs.length), h) := by
    unfold slD
    simp only [e, e0]
  rw [this]
  have : cut xs (min j xs.length) xs.length = xs.drop j := by
    simp only [cut]
    rcases Nat.le_total j xs.length with h1 | h1
    · rw [Nat.min_eq_left h1, List.take_of_length_le (by simp)]
    · rw [Nat.min_eq_right h1, List.drop_of_length_le h1]
      simp
  rw [this]
theorem sl_drop' {xs : List D} {j : Nat} (h : Hd) : slD (.tup xs) (.int ((j : Int) + 1)) .non h = .ok (.tup (xs.drop (j + 1)), h) := sl_drop (j := j + 1) h
/-- the thing at i replaced -/
def repl {α : Type} (xs : List α) (i : Nat) (x : α) : List α := (xs.take i ++ [x]) ++ xs.drop (i + 1)
def Mc.redir (m : Mc) (s x t : Nat) : Mc := ⟨m.b, repl m.rows s (repl (m.rw s) x t), m.lets⟩
def Mc.relab (m : Mc) (s l : Nat) : Mc := ⟨m.b, m.rows, repl m.lets s l⟩
def opRed (s x t : Nat) : D := .tup [.str [114, 101, 100, 105, 114, 101, 99, 116], .tup [.int (s : Int), .int (x : Int), .int (t : Int)]]
def opRel (s l : Nat) : D := .tup [.str [114, 101, 108, 97, 98, 101, 108], .tup [.int (s : Int), .int (l : Int)]]
theorem repl_map {α β : Type} (f : α → β) (xs : List α) (i : Nat) (x : α) : (repl xs i x).map f = repl (xs.map f) i (f x) := by simp [repl, List.map_take, List.map_drop]
theorem repl_len {α : Type} {xs : List α} {i : Nat} {x : α} (hi : i < xs.length) : (repl xs i x).length = xs.length := by simp [repl]; omega
theorem red_ok (hp : SesP P N) (n : Nat) {xe xd xu : List D} (w : Ses h k b m.d xe xd xu e d u) (he : xe.length ≤ 1000) (hd : xd.length ≤ 1000) (o : m.ok) {s x t : Nat} (hs : s < m.rows.length) (hx : x < m.b) (ht : t < m.rows.length) (hz : ¬ (s = 0 ∧ x = 0 ∧ t ≠ 0)) :
    ∃ h', callF P (n + 3) N.red [.ob k, .int (s : Int), .int (x : Int), .int (t : Int)] h = .ok (.non, h') ∧ Ses h' k b (m.redir s x t).d (xe ++ [m.d]) (xd ++ [opRed s x t]) [] e d h.length ∧ Frm [k, e, d] h h' ∧ h'.length = h.length + 1 := by
  obtain ⟨h', p1, p2, p3, p4⟩ := per_ok hp (n + 1) w he hd (m.redir s x t).d (opRed s x t)
  refine ⟨h', ?_, p2, p3, p4⟩
  rw [callF_at hp.red rfl]
  have e1 := cst_ok hp n w.i (s := .int (s : Int)) rfl 0
  have e3 := cst_ok hp n w.i (s := .int (t : Int)) rfl 0
  have b1 : btw (.int (s : Int)) 0 ((m.rows.length : Int) - 1) = true := by simp [btw]; omega
  have b3 : btw (.int (t : Int)) 0 ((m.rows.length : Int) - 1) = true := by simp [btw]; omega
  have b2 : btw (.int (x : Int)) 0 ((m.b : Int) - 1) = true := by simp [btw]; omega
  rw [Int.add_zero, b1] at e1
  rw [Int.add_zero, b3] at e3
  have e2 := is_between_all hp.isb (n + 1) (d := .int (x : Int)) rfl 0 ((m.b : Int) - 1) h
  rw [b2] at e2
  obtain ⟨rl, _⟩ := o.row hs
  have r4 := o.r4
  have b3' := o.b3
  have c1 : ((x : Int) + 1) = ((x + 1 : Nat) : Int) := by omega
  have c2 : ((s : Int) + 1) = ((s + 1 : Nat) : Int) := by omega
  have a1 := tupadd (xs := (nI (m.rw s)).take x) (ys := [.int (t : Int)]) h (by simp [nI_len]; omega)
  have a2 := tupadd (xs := (nI (m.rw s)).take x ++ [.int (t : Int)]) (ys := (nI (m.rw s)).drop (x + 1)) h (by simp [nI_len]; omega)
  have ir : (nI (m.rw s)).take x ++ [D.int (t : Int)] ++ (nI (m.rw s)).drop (x + 1) = nI (repl (m.rw s) x t) := (repl_map _ _ _ _).symm
  have a3 := tupadd (xs := (rD' m.rows).take s) (ys := [.tup (nI (repl (m.rw s) x t))]) h (by simp [rows_len]; omega)
  have a4 := tupadd (xs := (rD' m.rows).take s ++ [.tup (nI (repl (m.rw s) x t))]) (ys := (rD' m.rows).drop (s + 1)) h (by simp [rows_len]; omega)
  have ir2 : (rD' m.rows).take s ++ [D.tup (nI (repl (m.rw s) x t))] ++ (rD' m.rows).drop (s + 1) = rD' (repl m.rows s (repl (m.rw s) x t)) := (repl_map (fun r => D.tup (nI r)) _ _ _).symm
  rw [ir] at a2
  rw [ir2] at a4
  have ix := row_ix hs h
  have g : gc h .non h' = (.non, h') := gc_ses w.i p2.i (get_lt w.iu) (Nat.le_refl _)
  have em : D.tup [.int (m.b : Int), .tup (rD' (repl m.rows s (repl (m.rw s) x t))), .tup (nI m.lets)] = (m.redir s x t).d := rfl
  have eo : D.tup [.str [114, 101, 100, 105, 114, 101, 99, 116], .tup [.int (s : Int), .int (x : Int), .int (t : Int)]] = opRed s x t := rfl
  have cz : ∀ (C : Cl) (σ : Sl), σ = [some (.ob k), some (.int (s : Int)), some (.int (x : Int)), some (.int (t : Int)), none, none, some (.int (m.b : Int)), some (.tup (rD' m.rows)), some (.tup (nI m.lets))] →
      ts (evR C (.and_ (.cmp .eq (.v 1) (.c (.int (0)))) (.and_ (.cmp .eq (.v 2) (.c (.int (0)))) (.cmp .ne (.v 3) (.c (.int (0)))))) σ h) = .ok (false, h) := fun C σ es => by
    subst es
    by_cases q1 : s = 0
    · by_cases q2 : x = 0
      · have q3 : t = 0 := by omega
        simp [q1, q2, q3]
      · simp [q1, q2]
    · simp [q1]
  show endF h (evSs (P.cl (n + 2)) [_, _, _, _, _, _, _, _] [some (.ob k), some (.int (s : Int)), some (.int (x : Int)), some (.int (t : Int)), none, none, none, none, none]  h) = _
  refine (congrArg (endF h) (stepS (by simp [um4 hp w.i, e1]; exact ⟨rfl, rfl⟩))).trans ?_
  refine (congrArg (endF h) (stepS (by simp [f14 hp w.i, Mc.d]; exact ⟨rfl, rfl⟩))).trans ?_
  refine (congrArg (endF h) (stepS (by simp [e2]; exact ⟨rfl, rfl⟩))).trans ?_
  refine (congrArg (endF h) (stepS (by simp [um4 hp w.i, e3]; exact ⟨rfl, rfl⟩))).trans ?_
  refine (congrArg (endF h) (stepS (by rw [evS_ite, cz _ _ rfl]; simp; exact ⟨rfl, rfl⟩))).trans ?_
  refine (congrArg (endF h) (stepS (by simp [ix, sl_take, sl_drop', a1, a2]; exact ⟨rfl, rfl⟩))).trans ?_
  refine (congrArg (endF h) (stepS (by simp [sl_take, sl_drop', a3, a4]; exact ⟨rfl, rfl⟩))).trans ?_
  rw [em]
  refine (congrArg (endF h) (stepS (by simp [um5 hp w.i, eo, p1]; exact ⟨rfl, rfl⟩))).trans ?_
  simp [g]
theorem rel_ok (hp : SesP P N) (n : Nat) {xe xd xu : List D} (w : Ses h k b m.d xe xd xu e d u) (he : xe.length ≤ 1000) (hd : xd.length ≤ 1000) (o : m.ok) {s l : Nat} (hs : s < m.rows.length) (hl : l ≤ 2) :
    ∃ h', callF P (n + 3) N.rel [.ob k, .int (s : Int), .int (l : Int)] h = .ok (.non, h') ∧ Ses h' k b (m.relab s l).d (xe ++ [m.d]) (xd ++ [opRel s l]) [] e d h.length ∧ Frm [k, e, d] h h' ∧ h'.length = h.length + 1 := by
  obtain ⟨h', p1, p2, p3, p4⟩ := per_ok hp (n + 1) w he hd (m.relab s l).d (opRel s l)
  refine ⟨h', ?_, p2, p3, p4⟩
  rw [callF_at hp.rel rfl]
  have e1 := cst_ok hp n w.i (s := .int (s : Int)) rfl 0
  have b1 : btw (.int (s : Int)) 0 ((m.rows.length : Int) - 1) = true := by simp [btw]; omega
  rw [Int.add_zero, b1] at e1
  have e2 := check_letter_all (d := .int (l : Int)) hp.chl hp.isb n rfl h
  have b2 : btw (.int (l : Int)) 0 2 = true := by simp [btw]; omega
  rw [b2] at e2
  have r4 := o.r4
  have ll := o.ll
  have c2 : ((s : Int) + 1) = ((s + 1 : Nat) : Int) := by omega
  have a1 := tupadd (xs := (nI m.lets).take s) (ys := [.int (l : Int)]) h (by simp [nI_len]; omega)
  have a2 := tupadd (xs := (nI m.lets).take s ++ [.int (l : Int)]) (ys := (nI m.lets).drop (s + 1)) h (by simp [nI_len]; omega)
  have ir : (nI m.lets).take s ++ [D.int (l : Int)] ++ (nI m.lets).drop (s + 1) = nI (repl m.lets s l) := (repl_map _ _ _ _).symm
  rw [ir] at a2
  have g : gc h .non h' = (.non, h') := gc_ses w.i p2.i (get_lt w.iu) (Nat.le_refl _)
  have em : D.tup [.int (m.b : Int), .tup (rD' m.rows), .tup (nI (repl m.lets s l))] = (m.relab s l).d := rfl
  have eo : D.tup [.str [114, 101, 108, 97, 98, 101, 108], .tup [.int (s : Int), .int (l : Int)]] = opRel s l := rfl
  show endF h (evSs (P.cl (n + 2)) [_, _, _, _] [some (.ob k), some (.int (s : Int)), some (.int (l : Int)), none, none, none] h) = _
  refine (congrArg (endF h) (stepS (by simp [um4 hp w.i, e1]; exact ⟨rfl, rfl⟩))).trans ?_
  refine (congrArg (endF h) (stepS (by simp [e2]; exact ⟨rfl, rfl⟩))).trans ?_
  refine (congrArg (endF h) (stepS (by simp [f14 hp w.i, Mc.d]; exact ⟨rfl, rfl⟩))).trans ?_
  refine (congrArg (endF h) (stepS (by simp [um5 hp w.i, sl_take, sl_drop', a1, a2, em, eo, p1]; exact ⟨rfl, rfl⟩))).trans ?_
  simp [g]
theorem rdo_ok (hp : SesP P N) (n : Nat) {xe xd xu xs : List D} {c1 nm : D} (s : Ses h k b c xe xd (xu ++ [.tup [.tup (nm :: xs), c1]]) e d u) (hx : plns 39 (xu ++ [.tup [.tup (nm :: xs), c1]]) = true) (he : xe.length ≤ 1000) (hd : xd.length ≤ 1000) (hn : D.lo h.length nm = true) :
    ∃ h', callF P (n + 1) N.rdo [.ob k] h = .ok (nm, h') ∧ Ses h' k b c1 (xe ++ [c]) (xd ++ [.tup (nm :: xs)]) xu e d u ∧ Frm [k, e, d, u] h h' ∧ h'.length ≤ h.length + 2 := by
  have lk := get_lt s.i
  have le := get_lt s.ie
  have ld := get_lt s.id
  have lu := get_lt s.iu
  have ke : k ≠ e := fun q => by have := s.ie; rw [← q, s.i] at this; cases this
  have kd : k ≠ d := fun q => by have := s.id; rw [← q, s.i] at this; cases this
  have ku : k ≠ u := fun q => by have := s.iu; rw [← q, s.i] at this; cases this
  have ed := s.ed
  have eu := s.eu
  have du := s.du
  obtain ⟨h0, eh0⟩ : ∃ h0, h0 = h ++ [Ob.lst []] := ⟨_, rfl⟩
  have l0 : h0.length = h.length + 1 := by rw [eh0]; simp
  have g0 : ∀ j, j < h.length → h0[j]? = h[j]? := fun j hj => by rw [eh0, List.getElem?_append_left hj]
  have cq : cmpC (P.cl n) .eq (.ob u) (.ob h.length) h0 = .ok (.bl false, h0) := by
    have := eq_lst (C := P.cl n) (h := h0) (i := u) (j := h.length) (by rw [g0 u lu]; exact s.iu) hx (ys := []) (by rw [eh0]; simp) rfl
    rw [this]
    have : decide (xu ++ [D.tup [.tup (nm :: xs), c1]] = []) = false := by simp
    rw [this]
  obtain ⟨h1, eh1⟩ : ∃ h1, h1 = h0.set u (.lst xu) := ⟨_, rfl⟩
  have l1 : h1.length = h0.length := by rw [eh1, List.length_set]
  have g1 : ∀ j, j < h.length → j ≠ u → h1[j]? = h0[j]? := fun j hj hn => by rw [eh1, set_get (by omega), if_neg (Ne.symm hn)]
  obtain ⟨h2, eh2⟩ : ∃ h2, h2 = h1.set e (.lst (xe ++ [c])) := ⟨_, rfl⟩
  have l2 : h2.length = h1.length := by rw [eh2, List.length_set]
  have g2 : ∀ j, j < h.length → j ≠ e → h2[j]? = h1[j]? := fun j hj hn => by rw [eh2, set_get (by omega), if_neg (Ne.symm hn)]
  obtain ⟨h3, eh3⟩ : ∃ h3, h3 = h2.set k (.ins 0 (L5 b c1 e d u)) := ⟨_, rfl⟩
  have l3 : h3.length = h2.length := by rw [eh3, List.length_set]
  have g3 : ∀ j, j < h.length → j ≠ k → h3[j]? = h2[j]? := fun j hj hn => by rw [eh3, set_get (by omega), if_neg (Ne.symm hn)]
  obtain ⟨h4, eh4⟩ : ∃ h4, h4 = h3.set d (.lst (xd ++ [.tup (nm :: xs)])) := ⟨_, rfl⟩
  have l4 : h4.length = h3.length := by rw [eh4, List.length_set]
  have g4 : ∀ j, j < h.length → j ≠ d → h4[j]? = h3[j]? := fun j hj hn => by rw [eh4, set_get (by omega), if_neg (Ne.symm hn)]
  have i0 : h0[k]? = some (.ins 0 (L5 b c e d u)) := by rw [g0 k lk]; exact s.i
  have i1 : h1[k]? = some (.ins 0 (L5 b c e d u)) := by rw [g1 k lk ku]; exact i0
  have i2 : h2[k]? = some (.ins 0 (L5 b c e d u)) := by rw [g2 k lk ke]; exact i1
  have i3 : h3[k]? = some (.ins 0 (L5 b c1 e d u)) := by rw [eh3, set_get (by omega), if_pos rfl]
  have u0 : h0[u]? = some (.lst (xu ++ [.tup [.tup (nm :: xs), c1]])) := by rw [g0 u lu]; exact s.iu
  have e1 : h1[e]? = some (.lst xe) := by rw [g1 e le eu, g0 e le]; exact s.ie
  have d3 : h3[d]? = some (.lst xd) := by rw [g3 d ld (Ne.symm kd), g2 d ld (Ne.symm ed), g1 d ld du, g0 d ld]; exact s.id
  have fp : ∀ f, 13 ≤ f → f ≤ 17 → (P.cl n).noat 0 f = true := hp.na
  obtain ⟨h', gc', q1, q2, q3⟩ := gc_cut h (h2 := h4) hn (by omega)
  refine ⟨h', ?_, ⟨?_, ?_, ?_, ?_, ed, eu, du⟩, ⟨q1, fun j hj hnj => ?_⟩, by omega⟩
  · rw [callF_at hp.rdo rfl]
    have s1 := setFldF_at (P.cl n) (σ := [some (.ob k), some (.tup (nm :: xs)), some c1]) (d := c1) (m := 14) i2 (fp 14 (by omega) (by omega)) (show 5 < 1000 by decide)
    have p1 : fPut (L5 b c e d u) 14 c1 = L5 b c1 e d u := rfl
    rw [p1, ← eh3] at s1
    have ix : ixC (.tup (nm :: xs)) (.int 0) h4 = .ok nm := ixD_nat (k := 0) h4 rfl
    simp [b_ses_redo, f17 hp s.i, ← eh0, cq, f17 hp i0, pop_ok u0, ← eh1, f15 hp i1, rcv_append e1, f14 hp i1, app_ok e1 (by omega : xe.length + 1 ≤ 1000000), ← eh2, s1, f16 hp i3, rcv_append d3, app_ok d3 (by omega : xd.length + 1 ≤ 1000000), ← eh4, ix, gc']
  · rw [q3 k lk, g4 k lk kd, eh3, set_get (by omega), if_pos rfl]
  · rw [q3 e le, g4 e le ed, g3 e le (Ne.symm ke), eh2, set_get (by omega), if_pos rfl]
  · rw [q3 d ld, eh4, set_get (by omega), if_pos rfl]
  · rw [q3 u lu, g4 u lu (Ne.symm du), g3 u lu (Ne.symm ku), g2 u lu (Ne.symm eu), eh1, set_get (by omega), if_pos rfl]
  · simp at hnj
    rw [q3 j hj, g4 j hj hnj.2.2.1, g3 j hj hnj.1, g2 j hj hnj.2.1, g1 j hj hnj.2.2.2, g0 j hj]
end
end Mp
set_option maxHeartbeats 4000000
/-! class Session: changed -/
namespace Mp
open PySem
theorem enum_rD : ∀ (rows : List (List Nat)) (i : Nat), enumD i (rD' rows) = (List.range' i rows.length).map fun j => .tup [.int (j : Int), .tup (nI (rows.getD (j - i) []))]
  | [], i => rfl
  | r :: rows, i => by
    show D.tup [.int (i : Int), .tup (nI r)] :: enumD (i + 1) (rD' rows) = _
    rw [enum_rD rows (i + 1), List.length_cons, List.range'_succ, List.map_cons]
    congr 1
    · simp
    · refine List.map_congr_left fun j hj => ?_
      obtain ⟨hj1, _⟩ := List.mem_range'_1.mp hj
      have : j - i = (j - (i + 1)) + 1 := by omega
      rw [this]
      simp
theorem enum_rw (m : Mc) : enumD 0 (rD' m.rows) = (List.range m.rows.length).map fun j => .tup [.int (j : Int), .tup (nI (m.rw j))] := by
  rw [enum_rD, List.range_eq_range']
  rfl
section
variable {P : Pg} {N : SN} {h : Hd} {k e d u : Nat} {b c : D} {n : Nat} {m m2 : Mc}
/-- the rows and marks of the pairs of states -/
def prow (m m2 : Mc) (r : Nat) : List Nat := (List.range m.b).map fun x => m.st (r / m2.rows.length) x * m2.rows.length + m2.st (r % m2.rows.length) x
def pwt (m m2 : Mc) (r : Nat) : Int := if gn m.lets (r / m2.rows.length) ≠ gn m2.lets (r % m2.rows.length) then 1 else 0
def Mc.prod (m m2 : Mc) : Mc := ⟨m.b, (List.range (m.rows.length * m2.rows.length)).map (prow m m2), []⟩
def pH (m m2 : Mc) (h : Hd) (r : Nat) : Hd := h ++ [.lst ((List.range r).map fun j => .tup (nI (prow m m2 j))), .lst (iL r (pwt m m2))]
theorem pH_0 {r : Nat} : (pH m m2 h r)[h.length]? = some (.lst ((List.range r).map fun j => .tup (nI (prow m m2 j)))) := by simp [pH]
theorem pH_1 {r : Nat} : (pH m m2 h r)[h.length + 1]? = some (.lst (iL r (pwt m m2))) := by rw [pH, List.getElem?_append_right (by omega)]; simp
theorem pH_g {r j : Nat} {o : Ob} (e : h[j]? = some o) : (pH m m2 h r)[j]? = some o := by rw [pH, List.getElem?_append_left (get_lt e)]; exact e
def c_app1 : S := (.ex (.m1 .append (.v 3) (.b1 .tuple (.comp [12] (.nm 12) (.rng (.c (.int (0))) (.v 5)) (.c (.bl true)) (.bin .add (.bin .mul (.ix (.v 9) (.v 12)) (.v 2)) (.ix (.v 11) (.v 12)))))))
def c_app2 : S := (.ex (.m1 .append (.v 4) (.b1 .int_ (.cmp .ne (.ix (.v 7) (.v 8)) (.ix (.ix (.fld (.v 0) 14) (.c (.int (2)))) (.v 10))))))
theorem c_turn (hp : SesP P N) (n : Nat) (i : h[k]? = some (.ins 0 (L5 b m2.d e d u))) (o : m.ok) (o2 : m2.ok) (eb : m2.b = m.b) {p q : Nat} (hq : p < m.rows.length) (hq2 : q < m2.rows.length) (T : D) :
    evSs (P.cl n) [c_app1, c_app2] [some (.ob k), some T, some (.int (m2.rows.length : Int)), some (.ob h.length), some (.ob (h.length + 1)), some (.int (m.b : Int)), some (.tup (rD' m.rows)), some (.tup (nI m.lets)), some (.int (p : Int)), some (.tup (nI (m.rw p))), some (.int (q : Int)), some (.tup (nI (m2.rw q))), none] (pH m m2 h (p * m2.rows.length + q)) = .nx [some (.ob k), some T, some (.int (m2.rows.length : Int)), some (.ob h.length), some (.ob (h.length + 1)), some (.int (m.b : Int)), some (.tup (rD' m.rows)), some (.tup (nI m.lets)), some (.int (p : Int)), some (.tup (nI (m.rw p))), some (.int (q : Int)), some (.tup (nI (m2.rw q))), none] (pH m m2 h (p * m2.rows.length + q + 1)) := by
  have dv : (p * m2.rows.length + q) / m2.rows.length = p := by rw [Nat.mul_comm, Nat.mul_add_div (by omega), Nat.div_eq_of_lt hq2]; omega
  have md : (p * m2.rows.length + q) % m2.rows.length = q := by rw [Nat.mul_comm, Nat.mul_add_mod, Nat.mod_eq_of_lt hq2]
  have r4 := o.r4
  have r42 := o2.r4
  have b3 := o.b3
  have bound : p * m2.rows.length + q < 20 := by
    have : p * m2.rows.length ≤ 3 * 4 := Nat.mul_le_mul (by omega) r42
    omega
  generalize hr : p * m2.rows.length + q = r at *
  have er : prow m m2 r = (List.range m.b).map fun x => m.st p x * m2.rows.length + m2.st q x := by unfold prow; rw [dv, md]
  have ew : pwt m m2 r = if gn m.lets p ≠ gn m2.lets q then 1 else 0 := by unfold pwt; rw [dv, md]
  obtain ⟨h1, eh1⟩ : ∃ h1, h1 = (pH m m2 h r).set h.length (.lst ((List.range (r + 1)).map fun j => .tup (nI (prow m m2 j)))) := ⟨_, rfl⟩
  have g1 : h1[h.length + 1]? = some (.lst (iL r (pwt m m2))) := by rw [eh1, List.getElem?_set_ne (by omega)]; exact pH_1
  have e2 : h1.set (h.length + 1) (.lst (iL (r + 1) (pwt m m2))) = pH m m2 h (r + 1) := by
    rw [eh1, pH, pH, List.set_append_right _ _ (by omega), List.set_append_right _ _ (by omega)]
    simp
  have i1 : h1[k]? = some (.ins 0 (L5 b m2.d e d u)) := by
    have := get_lt i
    rw [eh1, List.getElem?_set_ne (by omega)]; exact pH_g i
  have a1 := app_ok (pH_0 (m := m) (m2 := m2) (h := h) (r := r)) (x := .tup (nI (prow m m2 r))) (by simp; omega)
  have l1 : (((List.range r).map fun j => D.tup (nI (prow m m2 j))) ++ [.tup (nI (prow m m2 r))]) = (List.range (r + 1)).map fun j => .tup (nI (prow m m2 j)) := by rw [List.range_succ, List.map_append]; rfl
  rw [l1, ← eh1] at a1
  have a2 := app_ok g1 (x := .int (pwt m m2 r)) (by rw [iL_len]; omega)
  have l2 : iL r (pwt m m2) ++ [.int (pwt m m2 r)] = iL (r + 1) (pwt m m2) := by unfold iL; rw [List.range_succ, List.map_append]; rfl
  rw [l2, e2] at a2
  have cmp := ev_map (C := P.cl n) (i := 12) (it := (.rng (.c (.int (0))) (.v 5))) (elt := (.bin .add (.bin .mul (.ix (.v 9) (.v 12)) (.v 2)) (.ix (.v 11) (.v 12)))) (σ := [some (.ob k), some T, some (.int (m2.rows.length : Int)), some (.ob h.length), some (.ob (h.length + 1)), some (.int (m.b : Int)), some (.tup (rD' m.rows)), some (.tup (nI m.lets)), some (.int (p : Int)), some (.tup (nI (m.rw p))), some (.int (q : Int)), some (.tup (nI (m2.rw q))), none])
    (h := pH m m2 h r) (h1 := pH m m2 h r) (q := .t []) (l := List.range m.b) (φ := fun (x : Nat) => .int (x : Int)) (ψ := fun x => .int ((m.st p x * m2.rows.length + m2.st q x : Nat) : Int)) (by simp [rng0 (n := m.b) (by omega)]) rfl (by simp) (le_sizeL (by simp; omega)) (fun x hx => by
      have hx := List.mem_range.mp hx
      have h1 := (o.row hq).1
      have h2 := (o2.row hq2).1
      have sm : small ((m2.rows.length : Nat) : Int) = true := small_of (by omega) (by omega)
      have bm : ∀ (z : Int) (hh : Hd), binD .mul (.int z) (.int ((m2.rows.length : Nat) : Int)) hh = .ok (.int (z * (m2.rows.length : Nat)), hh) := fun z hh => bin_mul (by rw [sm]; simp)
      simp [bm, nI_ix (xs := m.rw p) (d := x) (by omega), nI_ix (xs := m2.rw q) (d := x) (by omega), Mc.st])
  have em : ((List.range m.b).map fun x => D.int ((m.st p x * m2.rows.length + m2.st q x : Nat) : Int)) = nI (prow m m2 r) := by rw [er]; simp [nI]
  rw [em] at cmp
  refine (stepS (σ' := [some (.ob k), some T, some (.int (m2.rows.length : Int)), some (.ob h.length), some (.ob (h.length + 1)), some (.int (m.b : Int)), some (.tup (rD' m.rows)), some (.tup (nI m.lets)), some (.int (p : Int)), some (.tup (nI (m.rw p))), some (.int (q : Int)), some (.tup (nI (m2.rw q))), none]) (h' := h1) ?_).trans ?_
  · simp [c_app1, rcv_append pH_0, cmp, a1]
  · refine (stepS (σ' := [some (.ob k), some T, some (.int (m2.rows.length : Int)), some (.ob h.length), some (.ob (h.length + 1)), some (.int (m.b : Int)), some (.tup (rD' m.rows)), some (.tup (nI m.lets)), some (.int (p : Int)), some (.tup (nI (m.rw p))), some (.int (q : Int)), some (.tup (nI (m2.rw q))), none]) (h' := pH m m2 h (r + 1)) ?_).trans rfl
    have x1 := nI_ix (xs := m.lets) (d := p) (by rw [o.ll]; exact hq) h1
    have x2 := nI_ix (xs := m2.lets) (d := q) (by rw [o2.ll]; exact hq2) h1
    by_cases cc : gn m.lets p = gn m2.lets q
    · have : pwt m m2 r = 0 := by rw [ew, if_neg (by simpa using cc)]
      rw [this] at a2
      simp [c_app2, rcv_append g1, x1, x2, f14 hp i1, Mc.ix2, cc, b1V, a2]
    · have : pwt m m2 r = 1 := by rw [ew, if_pos cc]
      rw [this] at a2
      have cc' : ¬ ((gn m.lets p : Nat) : Int) = ((gn m2.lets q : Nat) : Int) := by omega
      simp [c_app2, cc', rcv_append g1, x1, x2, f14 hp i1, Mc.ix2, cc, b1V, a2]
end
end Mp
set_option maxHeartbeats 4000000
/-! class Session: changed -/
namespace Mp
open PySem
section
variable {P : Pg} {N : SN} {h : Hd} {k e d u : Nat} {b c : D} {n : Nat} {m m2 : Mc}
def ch_in : S := .for_ (.tp [(.nm 10), (.nm 11)]) (.en (.ix (.fld (.v 0) 14) (.c (.int (1))))) [c_app1, c_app2]
def cσ (m m2 : Mc) (k : Nat) (h : Hd) (T : D) (w8 w9 w10 w11 : Option D) : Sl := [some (.ob k), some T, some (.int (m2.rows.length : Int)), some (.ob h.length), some (.ob (h.length + 1)), some (.int (m.b : Int)), some (.tup (rD' m.rows)), some (.tup (nI m.lets)), w8, w9, w10, w11, none]
theorem range'_split {a b : Nat} {l : List Nat} {s n : Nat} (h : a :: l = List.range' s n) : a = s ∧ 1 ≤ n ∧ l = List.range' (s + 1) (n - 1) := by
  cases n with
  | zero => simp at h
  | succ n =>
    rw [List.range'_succ, List.cons.injEq] at h
    exact ⟨h.1, by omega, h.2⟩
theorem c_inner (hp : SesP P N) (n : Nat) (i : h[k]? = some (.ins 0 (L5 b m2.d e d u))) (o : m.ok) (o2 : m2.ok) (eb : m2.b = m.b) {p : Nat} (hq : p < m.rows.length) (T : D) (w10 w11 : Option D) :
    ∃ w w', evS (P.cl n) ch_in (cσ m m2 k h T (some (.int (p : Int))) (some (.tup (nI (m.rw p)))) w10 w11) (pH m m2 h (p * m2.rows.length)) = .nx (cσ m m2 k h T (some (.int (p : Int))) (some (.tup (nI (m.rw p)))) w w') (pH m m2 h ((p + 1) * m2.rows.length)) := by
  obtain ⟨σ', h', ev, l0, w, w', rfl, q, hq', hl, rfl⟩ := ev_for (C := P.cl n) (t := .tp [(.nm 10), (.nm 11)]) (it := .en (.ix (.fld (.v 0) 14) (.c (.int (1))))) (b := [c_app1, c_app2]) (σ := cσ m m2 k h T (some (.int (p : Int))) (some (.tup (nI (m.rw p)))) w10 w11) (h := pH m m2 h (p * m2.rows.length)) (h1 := pH m m2 h (p * m2.rows.length))
    (q := .t []) (l := List.range' 0 m2.rows.length) (φ := fun j => .tup [.int (j : Int), .tup (nI (m2.rw j))])
    (fun l σ hh => True ∧ ∃ w w', σ = cσ m m2 k h T (some (.int (p : Int))) (some (.tup (nI (m.rw p)))) w w' ∧ ∃ q, q + l.length = m2.rows.length ∧ l = List.range' q l.length ∧ hh = pH m m2 h (p * m2.rows.length + q))
    (by
      have i' := pH_g (m := m) (m2 := m2) (r := p * m2.rows.length) i
      simp [cσ, f14 hp i', Mc.ix1, enum_rw, List.range_eq_range'])
    (fun a l σ hh ⟨_, w, w', es, q, hl, hr, eh⟩ => by
      subst es; subst eh
      obtain ⟨ea, _, er⟩ := range'_split (b := 0) hr
      subst ea
      rw [List.length_cons] at hl er
      refine ⟨cσ m m2 k h T (some (.int (p : Int))) (some (.tup (nI (m.rw p)))) (some (.int (a : Int))) (some (.tup (nI (m2.rw a)))), cσ m m2 k h T (some (.int (p : Int))) (some (.tup (nI (m.rw p)))) (some (.int (a : Int))) (some (.tup (nI (m2.rw a)))), pH m m2 h (p * m2.rows.length + a + 1), by simp [cσ], .inl (c_turn hp n i o o2 eb hq (by omega) T), rfl, trivial, _, _, rfl, a + 1, by omega, by simpa using er, rfl⟩)
    ⟨trivial, w10, w11, rfl, 0, by simp, by simp, rfl⟩
  refine ⟨w, w', ?_⟩
  rw [ch_in, ev]
  have : q = m2.rows.length := by simpa using hq'
  subst this
  rw [Nat.succ_mul]
def ch_out : S := .for_ (.tp [(.nm 8), (.nm 9)]) (.en (.v 6)) [ch_in]
theorem c_outer (hp : SesP P N) (n : Nat) (i : h[k]? = some (.ins 0 (L5 b m2.d e d u))) (o : m.ok) (o2 : m2.ok) (eb : m2.b = m.b) (T : D) :
    ∃ w8 w9 w w', evS (P.cl n) ch_out (cσ m m2 k h T none none none none) (pH m m2 h 0) = .nx (cσ m m2 k h T w8 w9 w w') (pH m m2 h (m.rows.length * m2.rows.length)) := by
  obtain ⟨σ', h', ev, l0, w8, w9, w, w', rfl, p, hp', hl, rfl⟩ := ev_for (C := P.cl n) (t := .tp [(.nm 8), (.nm 9)]) (it := .en (.v 6)) (b := [ch_in]) (σ := cσ m m2 k h T none none none none) (h := pH m m2 h 0) (h1 := pH m m2 h 0)
    (q := .t []) (l := List.range' 0 m.rows.length) (φ := fun j => .tup [.int (j : Int), .tup (nI (m.rw j))])
    (fun l σ hh => True ∧ ∃ w8 w9 w w', σ = cσ m m2 k h T w8 w9 w w' ∧ ∃ p, p + l.length = m.rows.length ∧ l = List.range' p l.length ∧ hh = pH m m2 h (p * m2.rows.length))
    (by simp [cσ, enum_rw, List.range_eq_range'])
    (fun a l σ hh ⟨_, w8, w9, w, w', es, q, hl, hr, eh⟩ => by
      subst es; subst eh
      obtain ⟨ea, _, er⟩ := range'_split (b := 0) hr
      subst ea
      rw [List.length_cons] at hl er
      obtain ⟨v, v', e1⟩ := c_inner hp n i o o2 eb (p := a) (by omega) T w w'
      refine ⟨cσ m m2 k h T (some (.int (a : Int))) (some (.tup (nI (m.rw a)))) w w', cσ m m2 k h T (some (.int (a : Int))) (some (.tup (nI (m.rw a)))) v v', pH m m2 h ((a + 1) * m2.rows.length), by simp [cσ], .inl ?_, rfl, trivial, _, _, _, _, rfl, a + 1, by omega, by simpa using er, rfl⟩
      exact (stepS e1).trans rfl)
    ⟨trivial, none, none, none, none, rfl, 0, by simp, by simp, by rw [Nat.zero_mul]⟩
  refine ⟨w8, w9, w, w', ?_⟩
  rw [ch_out, ev]
  have : p = m.rows.length := by simpa using hp'
  subst this
  rfl
theorem prod_rows : (m.prod m2).rows.length = m.rows.length * m2.rows.length := by simp [Mc.prod]
theorem prod_okw (o : m.ok) (o2 : m2.ok) (eb : m2.b = m.b) : (m.prod m2).okw := by
  have r1 := o.r1
  have r2 := o2.r1
  have a4 := o.r4
  have b4 := o2.r4
  refine ⟨o.b3, ?_, ?_, ?_, ?_⟩
  · rw [prod_rows]; exact Nat.mul_pos r1 r2
  · rw [prod_rows]; exact Nat.le_trans (Nat.mul_le_mul a4 b4) (by decide)
  · intro r hr
    obtain ⟨j, hj, rfl⟩ := List.mem_map.mp hr
    simp [prow, Mc.prod]
  · intro r hr t ht
    obtain ⟨j, hj, rfl⟩ := List.mem_map.mp hr
    have hj := List.mem_range.mp hj
    obtain ⟨x, hx, rfl⟩ := List.mem_map.mp ht
    have hx := List.mem_range.mp hx
    have h1 : j / m2.rows.length < m.rows.length := Nat.div_lt_of_lt_mul (by rw [Nat.mul_comm]; exact hj)
    have h2 : j % m2.rows.length < m2.rows.length := Nat.mod_lt _ (by omega)
    have g1 := o.st h1 hx
    have g2 := o2.st h2 (d := x) (by omega)
    rw [prod_rows]
    calc m.st (j / m2.rows.length) x * m2.rows.length + m2.st (j % m2.rows.length) x < m.st (j / m2.rows.length) x * m2.rows.length + m2.rows.length := by omega
      _ = (m.st (j / m2.rows.length) x + 1) * m2.rows.length := by rw [Nat.succ_mul]
      _ ≤ m.rows.length * m2.rows.length := Nat.mul_le_mul_right _ g1
/-- how many letters below a number differ -/
def Mc.chg (m m2 : Mc) (t : Nat) : Int := (m.prod m2).ps (pwt m m2) 0 (dgz m.b t)
theorem chg_ok (hp : SesP P N) (n : Nat) (i : h[k]? = some (.ins 0 (L5 m.d m2.d e d u))) (o : m.ok) (o2 : m2.ok) (eb : m2.b = m.b) {t : Nat} (ht : t ≤ 1000000000000000000) : callF P (n + 3) N.chg [.ob k, .int (t : Int)] h = .ok (.int (m.chg m2 t), h) := by
  rw [callF_at hp.chg rfl]
  have cn := check_number_ok hp.chn hp.isb n (v := (t : Int)) (by omega) (by omega) h
  obtain ⟨w8, w9, w, w', lp⟩ := c_outer hp (n + 2) i o o2 eb (.int (t : Int))
  have dg := digits_of_ok hp.dig hp.fuel (n + 1) (b := m.b) (N := t) o.b2 o.b3 (by omega) (pH m m2 h (m.rows.length * m2.rows.length))
  obtain ⟨hE, ehE⟩ : ∃ hE, hE = pH m m2 h (m.rows.length * m2.rows.length) ++ [Ob.lst (nI (dgz m.b t))] := ⟨_, rfl⟩
  have lE : (pH m m2 h (m.rows.length * m2.rows.length)).length = h.length + 2 := by simp [pH]
  have g0 : hE[h.length]? = some (.lst (rD' (m.prod m2).rows)) := by
    rw [ehE, List.getElem?_append_left (by omega), pH_0]
    simp [rD', Mc.prod]
  have g1 : hE[h.length + 1]? = some (.lst (iL (m.prod m2).rows.length (pwt m m2))) := by
    rw [ehE, List.getElem?_append_left (by omega), pH_1, prod_rows]
  have g2 : hE[h.length + 2]? = some (.lst (nI (dgz m.b t))) := by
    rw [ehE, List.getElem?_append_right (by omega), lE]; simp
  have pr := prefix_sum_w hp.prs hp.bls n (prod_okw o o2 eb) (wt := pwt m m2) (k := h.length + 1) (kd := h.length + 2) (ds := dgz m.b t) (Nat.le_trans dgz_len (by decide)) (dgz_lt o.b2) hE (RwA.lst g0) g1 g2
  have pE : ∃ g, hE = h ++ g := ⟨_, by rw [ehE, pH, List.append_assoc]⟩
  obtain ⟨g, eg⟩ := pE
  rw [lE, ← ehE] at dg
  show endF h (evSs (P.cl (n + 2)) [_, _, _, _, _, ch_out, _] [some (.ob k), some (.int (t : Int)), none, none, none, none, none, none, none, none, none, none, none] h) = _
  refine (congrArg (endF h) (stepS (by simp [cn]; exact ⟨rfl, rfl⟩))).trans ?_
  refine (congrArg (endF h) (stepS (by simp [f13 hp i, Mc.d]; exact ⟨rfl, rfl⟩))).trans ?_
  refine (congrArg (endF h) (stepS (by simp [f14 hp i, Mc.ix1, len_tp, rows_len]; exact ⟨rfl, rfl⟩))).trans ?_
  refine (congrArg (endF h) (stepS (by simp; exact ⟨rfl, rfl⟩))).trans ?_
  refine (congrArg (endF h) (stepS (σ' := cσ m m2 k h (.int (t : Int)) none none none none) (h' := pH m m2 h 0) (by simp [cσ, pH, iL]))).trans ?_
  refine (congrArg (endF h) (stepS lp)).trans ?_
  simp [cσ, dg, pr, Mc.chg]
  rw [eg]
  simp
end
end Mp
set_option maxHeartbeats 4000000
/-! class Session: what changed counts -/
namespace Mp
open PySem
section
variable {m m2 : Mc}
theorem prod_st (o : m.ok) (o2 : m2.ok) (eb : m2.b = m.b) {p q x : Nat} (hp : p < m.rows.length) (hq : q < m2.rows.length) (hx : x < m.b) : (m.prod m2).st (p * m2.rows.length + q) x = m.st p x * m2.rows.length + m2.st q x := by
  have dv : (p * m2.rows.length + q) / m2.rows.length = p := by rw [Nat.mul_comm, Nat.mul_add_div (by omega), Nat.div_eq_of_lt hq]; omega
  have md : (p * m2.rows.length + q) % m2.rows.length = q := by rw [Nat.mul_comm, Nat.mul_add_mod, Nat.mod_eq_of_lt hq]
  have lt : p * m2.rows.length + q < m.rows.length * m2.rows.length := by
    calc p * m2.rows.length + q < p * m2.rows.length + m2.rows.length := by omega
      _ = (p + 1) * m2.rows.length := by rw [Nat.succ_mul]
      _ ≤ m.rows.length * m2.rows.length := Nat.mul_le_mul_right _ hp
  have er : (m.prod m2).rw (p * m2.rows.length + q) = prow m m2 (p * m2.rows.length + q) := by
    simp [Mc.rw, Mc.prod, List.getD, lt]
  unfold Mc.st
  rw [er]
  unfold prow
  rw [dv, md]
  simp [gn, List.getD, hx, Mc.st]
theorem prod_okz (o : m.ok) (o2 : m2.ok) (eb : m2.b = m.b) : (m.prod m2).okz := by
  refine ⟨o.b2, prod_okw o o2 eb, ?_⟩
  have h := prod_st o o2 eb (p := 0) (q := 0) (x := 0) (by have := o.r1; omega) (by have := o2.r1; omega) (by have := o.b2; omega)
  rw [st_zero o, st_zero o2] at h
  simpa using h
theorem prod_go (o : m.ok) (o2 : m2.ok) (eb : m2.b = m.b) : ∀ {ds : List Nat} {p q : Nat}, (∀ d ∈ ds, d < m.b) → p < m.rows.length → q < m2.rows.length → (m.prod m2).go (p * m2.rows.length + q) ds = m.go p ds * m2.rows.length + m2.go q ds
  | [], p, q, _, _, _ => rfl
  | d :: ds, p, q, hd, hp, hq => by
    have h0 := hd d List.mem_cons_self
    show (m.prod m2).go ((m.prod m2).st _ d) ds = m.go (m.st p d) ds * _ + m2.go (m2.st q d) ds
    rw [prod_st o o2 eb hp hq h0]
    exact prod_go o o2 eb (fun e he => hd e (List.mem_cons_of_mem _ he)) (o.st hp h0) (o2.st hq (by omega))
theorem prod_sn (o : m.ok) (o2 : m2.ok) (eb : m2.b = m.b) (n : Nat) : (m.prod m2).sn n = m.sn n * m2.rows.length + m2.sn n := by
  have := prod_go o o2 eb (ds := dgz m.b n) (p := 0) (q := 0) (dgz_lt o.b2) (by have := o.r1; omega) (by have := o2.r1; omega)
  unfold Mc.sn
  rw [eb]
  show (m.prod m2).go 0 (dgz m.b n) = _
  simpa using this
/-- the letter of a number -/
def Mc.lt (m : Mc) (n : Nat) : Nat := gn m.lets (m.sn n)
theorem chg_eq (o : m.ok) (o2 : m2.ok) (eb : m2.b = m.b) {N : Nat} (hN : N < 2 ^ 60) : m.chg m2 N = sumr (fun n => if m.lt n ≠ m2.lt n then 1 else 0) 0 N := by
  unfold Mc.chg
  rw [show dgz m.b N = dgz (m.prod m2).b N from rfl, ps_all (prod_okz o o2 eb) hN]
  unfold sumr
  refine map_sum_congr fun j _ => ?_
  have s2 := sn_lt o2.okz (0 + j)
  have dv : (m.sn (0 + j) * m2.rows.length + m2.sn (0 + j)) / m2.rows.length = m.sn (0 + j) := by rw [Nat.mul_comm, Nat.mul_add_div (by omega), Nat.div_eq_of_lt s2]; omega
  have md : (m.sn (0 + j) * m2.rows.length + m2.sn (0 + j)) % m2.rows.length = m2.sn (0 + j) := by rw [Nat.mul_comm, Nat.mul_add_mod, Nat.mod_eq_of_lt s2]
  show pwt m m2 ((m.prod m2).sn (0 + j)) = _
  rw [prod_sn o o2 eb]
  unfold pwt
  rw [dv, md]
  rfl
theorem chg_self (o : m.ok) {N : Nat} (hN : N < 2 ^ 60) : m.chg m N = 0 := by
  rw [chg_eq o o rfl hN]
  unfold sumr
  have : ∀ l : List Nat, (l.map fun i => if m.lt (0 + i) ≠ m.lt (0 + i) then (1 : Int) else 0).sum = 0 := fun l => by
    induction l with
    | nil => rfl
    | cons a l ih => rw [List.map_cons, List.sum_cons, ih]; simp
  exact this _
end
end Mp
set_option maxHeartbeats 4000000
namespace Mp
open PySem
/-! ### the script and the town, in the law's own frame -/
structure Stn (ns : List Int) (B : Nat) (h : Hd) : Prop where
  s0 : h[0]? = some (scrD ns)
  s1 : ∃ ys, h[1]? = some (.lst ys) ∧ Twn ns.length B ys
section
variable {ns : List Int} {B : Nat} {h : Hd}
theorem Stn.app (s : Stn ns B h) (g : Hd) : Stn ns B (h ++ g) := by
  obtain ⟨ys, e, t⟩ := s.s1
  exact ⟨by rw [List.getElem?_append_left (get_lt s.s0)]; exact s.s0, ys, by rw [List.getElem?_append_left (get_lt e)]; exact e, t⟩
theorem Stn.mono (s : Stn ns B h) {B' : Nat} (hb : B ≤ B') : Stn ns B' h := by
  obtain ⟨ys, e, t⟩ := s.s1
  exact ⟨s.s0, ys, e, t.mono hb⟩
theorem Stn.len (s : Stn ns B h) : 2 ≤ h.length := by
  obtain ⟨ys, e, t⟩ := s.s1
  exact get_lt e
theorem Stn.set (s : Stn ns B h) {zs : List D} {B' : Nat} (t : Twn ns.length B' zs) : Stn ns B' (h.set 1 (.lst zs)) := by
  obtain ⟨ys, e, _⟩ := s.s1
  exact ⟨by rw [List.getElem?_set_ne (by decide)]; exact s.s0, zs, List.getElem?_set_self (get_lt e), t⟩
theorem draw_s {P : Pg} {f : Nat} (hf : P.df f = some b__law_draw) (n : Nat) (hn : ns.length ≤ 63) (s : Stn ns B h) (hB : B ≤ 1000000) {lim : Nat} (hl : 1 ≤ lim) (hl2 : lim ≤ 1000000) :
    ∃ r zs, r < lim ∧ Stn ns (B + 1) (h.set 1 (.lst zs)) ∧ callF P (n + 1) f [.ob 0, .ob 1, .int (lim : Int)] h = .ok (.int (r : Int), h.set 1 (.lst zs)) := by
  obtain ⟨ys, e, t⟩ := s.s1
  obtain ⟨r, zs, hr, tz, c⟩ := law_draw_ok hf n hn s.s0 e t hB hl hl2
  exact ⟨r, zs, hr, s.set tz, c⟩
theorem pick_s {P : Pg} {f fd : Nat} (hf : P.df f = some (b__law_pick fd)) (hd : P.df fd = some b__law_draw) (n : Nat) (hn : ns.length ≤ 63) (s : Stn ns B h) (hB : B ≤ 1000000) {i : Nat} {cs : List D} (hi : h[i]? = some (.lst cs)) (hik : i ≠ 1) (hc : 1 ≤ cs.length) (hc2 : cs.length ≤ 1000) (hlo : ∀ c ∈ cs, ∀ m, D.lo m c = true) :
    ∃ (d : D) (zs : List D), d ∈ cs ∧ Stn ns (B + 1) (h.set 1 (.lst zs)) ∧ callF P (n + 2) f [.ob 0, .ob 1, .ob i] h = .ok (d, h.set 1 (.lst zs)) := by
  obtain ⟨ys, e, t⟩ := s.s1
  obtain ⟨d, zs, hm, tz, c⟩ := pick_ok hf hd n hn s.s0 e t hB hi hik hc hc2 hlo
  exact ⟨d, zs, hm, s.set tz, c⟩
theorem set_app1 (s : Stn ns B h) {g : Hd} {o : Ob} : (h ++ g).set 1 o = h.set 1 o ++ g := by
  rw [List.set_append_left _ _ (by have := s.len; omega)]
end
theorem step {C : Cl} {s : S} {ss : List S} {σ σ' : Sl} {h h' : Hd} (e : evS C s σ h = .nx σ' h') : evSs C (s :: ss) σ h = evSs C ss σ' h' := by rw [evSs_cons, e]; rfl
theorem stepR {C : Cl} {s : S} {ss : List S} {σ : Sl} {d : D} {h h' : Hd} (e : evS C s σ h = .rt d h') : evSs C (s :: ss) σ h = .rt d h' := by rw [evSs_cons, e]; rfl
def k82_s1 : S := (.asg (.nm 1) (.call 7 [(.v 0)]))
def k82_s2 : S := (.asg (.nm 2) (.call 13 [(.v 0), (.v 1), (.c (.int (4)))]))
def k82_s3 : S := (.asg (.nm 3) (.call 16 [(.v 2)]))
def k82_s4 : S := (.ite (.or_ (.cmp .ne (.call 4 [(.v 2)]) (.v 3)) (.cmp .ne (.call 6 [(.v 3)]) (.v 2))) [(.ret (.c (.bl false)))] [])
def k82_s5 : S := (.for_ (.nm 4) (.rng (.c (.int (0))) (.c (.int (10)))) [(.asg (.nm 6) (.call 8 [(.v 0), (.v 1), (.bin .add (.b1 .len (.v 3)) (.c (.int (1))))])), (.asg (.nm 7) (.call 9 [(.v 0), (.v 1), (.bin .add (.b1 .list (.c (.str [48, 49, 50, 51, 52, 47, 58, 32, 45]))) (.lst [(.c (.str []))]))])), (.asg (.nm 8) (.bin .add (.bin .add (.sl (.v 3) (.c .non) (.v 6)) (.v 7)) (.sl (.v 3) (.bin .add (.v 6) (.call 8 [(.v 0), (.v 1), (.c (.int (2)))])) (.c .non)))), (.asg (.nm 9) (.call 17 [(.v 8)])), (.ite (.cmp .ne (.call 10 [(.c (.int (0))), (.v 8)]) (.ite (.cmp .isnot (.v 9) (.c .non)) (.tup [(.c (.str [114, 101, 116, 117, 114, 110, 101, 100])), (.v 9)]) (.call 12 [(.c (.str [116, 101, 120, 116]))]))) [(.ret (.c (.bl false)))] [])])
def k82_s6 : S := (.asg (.nm 5) (.lst [(.c .non), (.c (.int (5))), (.c (.str [])), (.c (.str [50, 58])), (.c (.str [50, 58, 32])), (.v 2), (.lst [(.v 3)]), (.bin .add (.v 3) (.c (.str [32]))), (.bin .add (.c (.str [32])) (.v 3)), (.bin .add (.v 3) (.c (.str [10]))), (.c (.bl true))]))
def k82_s7 : S := (.ex (.m1 .append (.v 5) (.m2 .replace (.v 3) (.c (.str [32])) (.c (.str [32, 32])))))
def k82_s8 : S := (.ite (.cmp .ne (.comp [10] (.nm 10) (.sq (.v 5)) (.cmp .ne (.call 10 [(.c (.int (0))), (.v 10)]) (.call 12 [(.c (.str [116, 101, 120, 116]))])) (.v 10)) (.lst [])) [(.ret (.c (.bl false)))] [])
def k82_s9 : S := (.ret (.cmp .eq (.call 10 [(.c (.int (1))), (.tup [(.ix (.v 2) (.c (.int (0)))), (.ix (.v 2) (.c (.int (1)))), (.tup [(.c (.int (9)))])])]) (.call 12 [(.c (.str [109, 97, 99, 104, 105, 110, 101]))])))
def b_k82_law : Df := ⟨1, 11, [k82_s1, k82_s2, k82_s3, k82_s4, k82_s5, k82_s6, k82_s7, k82_s8, k82_s9]⟩
def dfs82 : List Df := [b_is_between, b_is_machine 0, b_check_machine 1 1, b_text_of, b_format_machine 2 3, b_digit_of, b_parse_machine 5 1 3 14, b__law_town, b__law_draw, b__law_pick 8, b__law_outcome 15 11, b__law_name, b__law_raises, b__law_machine 8 14, b__law_machine_in 8, b__law_call82 6 4, b__law_text, b__law_plain_read 1, b_k82_law]
def nm19 (k : Nat) : Nat := if k < 19 then k else 0
def sub19 (k c : Nat) : Bool := (nm19 k == nm19 c) || (nm19 c == 0)
def P82 : Pg := ⟨fun f => dfs82[f]?, fun _ _ => none, fun _ _ => false, sub19, 200⟩
theorem sub19_18 {k c : Nat} (h1 : 1 ≤ c) (h2 : c ≤ 18) (hk : k ≤ 18) : sub19 k c = decide (k = c) := by
  unfold sub19 nm19
  rw [if_pos (by omega), if_pos (by omega)]
  by_cases e : k = c
  · subst e; simp
  · have : ¬ c = 0 := by omega
    simp [e, this]
theorem sub19_0 {k : Nat} : sub19 k 0 = true := by unfold sub19; simp [nm19]
theorem tx_inj {m m' : Mc} (o : m.ok) (o' : m'.ok) (h : m.tx = m'.tx) : m = m' := by
  obtain ⟨a, b, c⟩ := fnd_tx o
  obtain ⟨a', b', c'⟩ := fnd_tx o'
  rw [h] at a b c
  exact mc_inj a b c a' b' c'
theorem tx_len {m : Mc} (o : m.ok) : m.tx.length ≤ 300 ∧ 4 ≤ m.tx.length := by
  have wl := words_len o
  have jl := joinS_len (sep := [32]) m.words
  obtain ⟨w, ws, e⟩ : ∃ w ws, m.words = w :: ws := by
    cases h : m.words with
    | nil => exact absurd h (words_ne o)
    | cons w ws => exact ⟨w, ws, rfl⟩
  have hw : 2 ≤ w.length := by
    have : w ∈ m.words := by rw [e]; exact List.mem_cons_self
    obtain ⟨p, _, rfl⟩ := List.mem_map.mp this
    simp [wdT]
  have hj : 2 ≤ (joinS [32] m.words).length := by
    rw [e]
    cases ws with
    | nil => exact hw
    | cons w2 ws => rw [joinS]; simp; omega; intro z; cases z
  have hs : (m.words.map List.length).sum + m.words.length * 1 ≤ 200 := by
    have key : ∀ l : List (List Nat × Nat), (∀ p ∈ l, p.1.length ≤ 3) → ((l.map fun p => wdT p.1 p.2).map List.length).sum ≤ 5 * l.length := by
      intro l
      induction l with
      | nil => intro _; simp
      | cons p l ih =>
        intro h
        have := ih fun q hq => h q (List.mem_cons_of_mem _ hq)
        have := h p List.mem_cons_self
        rw [List.map_cons, List.map_cons, List.sum_cons]
        have e : (wdT p.1 p.2).length = p.1.length + 2 := by simp [wdT]
        rw [e, List.length_cons]
        omega
    have := key _ fun p hp => (o.zip hp).1
    have := o.zl
    unfold Mc.words
    rw [List.length_map]
    omega
  simp only [List.length_cons, List.length_nil, Nat.zero_add] at jl
  constructor
  · show ([48 + m.b, 58, 32] ++ joinS [32] m.words).length ≤ 300
    simp; omega
  · show 4 ≤ ([48 + m.b, 58, 32] ++ joinS [32] m.words).length
    simp; omega
end Mp
set_option maxHeartbeats 4000000
namespace Mp
open PySem
def r81_s1 : S := (.asg (.nm 2) (.lst [(.tup [(.c (.int (0))), (.c (.int (0))), (.c (.int (0))), (.ite (.cmp .gt (.v 1) (.c (.int (1)))) (.bin .sub (.v 1) (.c (.int (1)))) (.c .non)), (.c (.str [115, 116, 97, 116, 101]))])]))
def r81_s2 : S := (.for_ (.nm 3) (.sq (.tup [(.neg (.c (.int (1)))), (.c .non), (.c (.bl true)), (.c (.str [48])), (.tup [(.c (.int (0)))]), (.v 1)])) [(.asg (.nm 2) (.bin .add (.v 2) (.lst [(.tup [(.c (.int (0))), (.v 3), (.c .non), (.v 3), (.c (.str [115, 116, 97, 116, 101]))]), (.tup [(.c (.int (0))), (.c (.int (0))), (.c (.int (1))), (.v 3), (.c (.str [115, 116, 97, 116, 101]))]), (.tup [(.c (.int (1))), (.v 3), (.c .non), (.c (.int (0))), (.c (.str [115, 116, 97, 116, 101]))])])))])
def r81_s3 : S := (.for_ (.nm 3) (.sq (.tup [(.neg (.c (.int (1)))), (.c .non), (.c (.bl true)), (.c (.str [48])), (.tup [(.c (.int (0)))]), (.bin .add (.v 1) (.c (.int (1))))])) [(.asg (.nm 4) (.bin .mul (.tup [(.c (.int (0)))]) (.bin .sub (.v 0) (.c (.int (1)))))), (.asg (.nm 2) (.bin .add (.v 2) (.lst [(.tup [(.c (.int (2))), (.bin .add (.v 4) (.tup [(.v 3)])), (.c .non), (.c (.int (0))), (.c (.str [115, 116, 97, 116, 101]))]), (.tup [(.c (.int (2))), (.bin .add (.tup [(.v 3)]) (.v 4)), (.c .non), (.c (.int (0))), (.c (.str [115, 116, 97, 116, 101]))])])))])
def r81_s4 : S := (.for_ (.nm 3) (.sq (.tup [(.c .non), (.c (.int (0))), (.tup []), (.tup [(.c (.int (0)))]), (.bin .mul (.tup [(.c (.int (0)))]) (.c (.int (4)))), (.bin .mul (.lst [(.c (.int (0)))]) (.v 0)), (.c (.str [48, 48]))])) [(.ex (.m1 .append (.v 2) (.tup [(.c (.int (2))), (.v 3), (.c .non), (.c (.int (0))), (.c (.str [115, 116, 97, 116, 101]))])))])
def r81_s5 : S := (.for_ (.nm 3) (.sq (.tup [(.neg (.c (.int (1)))), (.c .non), (.c (.bl true)), (.c (.str [49])), (.v 0)])) [(.ex (.m1 .append (.v 2) (.tup [(.c (.int (0))), (.c (.int (0))), (.v 3), (.c .non), (.c (.str [100, 105, 103, 105, 116, 115]))])))])
def r81_s6 : S := (.for_ (.nm 3) (.sq (.tup [(.neg (.c (.int (1)))), (.c (.int (3))), (.c .non), (.c (.bl true)), (.c (.str [49]))])) [(.asg (.nm 2) (.bin .add (.v 2) (.lst [(.tup [(.c (.int (1))), (.c (.int (0))), (.v 3), (.c (.int (0))), (.c (.str [108, 101, 116, 116, 101, 114]))]), (.tup [(.c (.int (2))), (.bin .mul (.tup [(.c (.int (0)))]) (.v 0)), (.v 3), (.c (.int (0))), (.c (.str [108, 101, 116, 116, 101, 114]))])])))])
def r81_s7 : S := (.for_ (.nm 3) (.sq (.tup [(.c .non), (.tup []), (.tup [(.v 0), (.tup [(.bin .mul (.tup [(.c (.int (0)))]) (.v 0))]), (.lst [(.c (.int (0)))])]), (.c (.str [50, 58, 32, 48, 48, 47, 48])), (.tup [(.c (.int (4))), (.tup [(.tup [(.c (.int (0)))])]), (.tup [(.c (.int (0)))])])])) [(.ex (.m1 .append (.v 2) (.tup [(.c (.int (3))), (.v 3), (.c (.int (0))), (.c (.int (0))), (.c (.str [109, 97, 99, 104, 105, 110, 101]))])))])
def r81_s8 : S := (.ret (.bin .add (.v 2) (.comp [3] (.nm 3) (.sq (.tup [(.neg (.c (.int (1)))), (.bin .add (.bin .pow (.c (.int (10))) (.c (.int (18)))) (.c (.int (1)))), (.c (.bl true)), (.c .non)])) (.c (.bl true)) (.tup [(.c (.int (4))), (.v 3), (.c (.int (0))), (.c (.int (0))), (.c (.str [110, 117, 109, 98, 101, 114]))]))))
def b__law_rows : Df := ⟨2, 5, [r81_s1, r81_s2, r81_s3, r81_s4, r81_s5, r81_s6, r81_s7, r81_s8]⟩
def b__law_call81 : Df := ⟨2, 6, [
  (.asg (.tp [(.nm 2), (.nm 3), (.nm 4), (.nm 5)]) (.v 1)),
  (.ite (.cmp .eq (.v 0) (.c (.int (0)))) [(.ret (.um 6 (.v 2) [(.v 3), (.v 4), (.v 5)]))] []),
  (.ite (.cmp .eq (.v 0) (.c (.int (1)))) [(.ret (.um 7 (.v 2) [(.v 3), (.v 4)]))] []),
  (.ite (.cmp .eq (.v 0) (.c (.int (2)))) [(.ret (.um 8 (.v 2) [(.v 3), (.v 4)]))] []),
  (.ret (.ite (.cmp .eq (.v 0) (.c (.int (3)))) (.mk 0 [(.v 3)]) (.um 10 (.v 2) [(.v 3)])))]⟩
def k81_s1 : S := (.asg (.nm 1) (.call 8 [(.v 0)]))
def k81_s2 : S := (.asg (.nm 2) (.call 13 [(.v 0), (.v 1), (.c (.int (4)))]))
def k81_s3 : S := (.par [6, 7] [(.ix (.v 2) (.c (.int (0)))), (.b1 .len (.ix (.v 2) (.c (.int (1)))))])
def k81_s4 : S := (.asg (.nm 3) (.mk 0 [(.v 2)]))
def k81_s5 : S := (.for_ (.tp [(.nm 8), (.nm 9), (.nm 10), (.nm 11), (.nm 12)]) (.sq (.call 16 [(.v 6), (.v 7)])) [(.ite (.cmp .ne (.call 10 [(.v 8), (.tup [(.v 3), (.v 9), (.v 10), (.v 11)])]) (.call 12 [(.v 12)])) [(.ret (.c (.bl false)))] [])])
def k81_s6 : S := (.ite (.or_ (.cmp .ne (.um 9 (.v 3) []) (.v 2)) (.or_ (.cmp .ne (.v 3) (.mk 0 [(.v 2)])) (.cmp .ne (.um 10 (.v 3) [(.bin .pow (.c (.int (10))) (.c (.int (18))))]) (.c (.int (0)))))) [(.ret (.c (.bl false)))] [])
def k81_s7 : S := (.ex (.um 6 (.v 3) [(.c (.int (0))), (.c (.int (0))), (.c (.int (0)))]))
def k81_s8 : S := (.asg (.nm 4) (.call 10 [(.c (.int (2))), (.tup [(.v 3), (.bin .mul (.tup [(.v 7)]) (.v 6)), (.c (.int (2))), (.c (.int (0)))])]))
def k81_s9 : S := (.ite (.cmp .eq (.v 7) (.c (.int (4)))) [(.ret (.and_ (.cmp .eq (.v 4) (.call 12 [(.c (.str [108, 97, 114, 103, 101]))])) (.cmp .eq (.um 9 (.v 3) []) (.v 2))))] [])
def k81_s10 : S := (.asg (.nm 5) (.tup [(.v 6), (.bin .add (.ix (.v 2) (.c (.int (1)))) (.tup [(.bin .mul (.tup [(.v 7)]) (.v 6))])), (.bin .add (.ix (.v 2) (.c (.int (2)))) (.tup [(.c (.int (2)))]))]))
def k81_s11 : S := (.ret (.and_ (.cmp .eq (.v 4) (.tup [(.c (.str [114, 101, 116, 117, 114, 110, 101, 100])), (.c .non)])) (.and_ (.cmp .eq (.um 9 (.v 3) []) (.v 5)) (.cmp .eq (.um 11 (.v 3) []) (.c (.str [97, 100, 100, 95, 115, 116, 97, 116, 101]))))))
def b_k81_law : Df := ⟨1, 13, [k81_s1, k81_s2, k81_s3, k81_s4, k81_s5, k81_s6, k81_s7, k81_s8, k81_s9, k81_s10, k81_s11]⟩
def dfs81 : List Df := [b_is_between, b_is_machine 0, b_check_machine 1 1, b_check_number 0 2, b_check_letter 0 3, b_digits_of, b_block_sums, b_prefix_sum 6, b__law_town, b__law_draw, b__law_outcome 15 11, b__law_name, b__law_raises, b__law_machine 9 14, b__law_machine_in 9, b__law_call81, b__law_rows, b_k81_law, b_ses_init 2, b_ses_len, b_ses_eq, b_ses_str, b_ses_check_state 0, b_ses_perform, b_ses_redirect 0, b_ses_relabel 4, b_ses_add_state 4, b_ses_machine, b_ses_changed 3 7 5, b_ses_undo, b_ses_redo]
def ms81 : List (Nat × Nat × Nat) := [(0, 0, 18), (0, 1, 19), (0, 2, 20), (0, 3, 21), (0, 4, 22), (0, 5, 23), (0, 6, 24), (0, 7, 25), (0, 8, 26), (0, 9, 27), (0, 10, 28), (0, 11, 29), (0, 12, 30)]
def P81 : Pg := ⟨fun f => dfs81[f]?, fun c m => (ms81.find? fun p => p.1 == c && p.2.1 == m).map (·.2.2), fun c f => [(0, 13), (0, 14), (0, 15), (0, 16), (0, 17)].contains (c, f), sub19, 200⟩
def N81 : SN := ⟨0, 1, 2, 3, 4, 5, 6, 7, 18, 19, 20, 21, 22, 23, 24, 25, 26, 27, 28, 29, 30⟩
theorem S81 : SesP P81 N81 where
  isb := rfl
  ism := rfl
  chm := rfl
  chn := rfl
  chl := rfl
  dig := rfl
  bls := rfl
  prs := rfl
  ini := rfl
  len := rfl
  eq := rfl
  str := rfl
  cst := rfl
  per := rfl
  red := rfl
  rel := rfl
  add := rfl
  mac := rfl
  chg := rfl
  und := rfl
  rdo := rfl
  m0 := rfl
  m1 := rfl
  m2 := rfl
  m3 := rfl
  m4 := rfl
  m5 := rfl
  m6 := rfl
  m7 := rfl
  m8 := rfl
  m9 := rfl
  m10 := rfl
  m11 := rfl
  m12 := rfl
  na := fun f h1 h2 => by
    have : f = 13 ∨ f = 14 ∨ f = 15 ∨ f = 16 ∨ f = 17 := by omega
    rcases this with rfl | rfl | rfl | rfl | rfl <;> rfl
  fuel := by decide
section
variable {h : Hd} {k e d u : Nat} {b c : D} {n : Nat} {m : Mc}
/-- what a call raises is what the operation raises -/
theorem call81 {w : Int} {x y z : D} {ex : Nat} (n : Nat) (j : h[k]? = some (.ins 0 (L5 b m.d e d u)))
    (hc : (w = 0 ∧ callF P81 n 24 [.ob k, x, y, z] h = .ex ex h) ∨ (w = 1 ∧ callF P81 n 25 [.ob k, x, y] h = .ex ex h) ∨ (w = 2 ∧ callF P81 n 26 [.ob k, x, y] h = .ex ex h) ∨ (w = 3 ∧ mkD (P81.cl n) 0 [x] h = .ex ex (h ++ [.ins 0 []])) ∨ (w = 4 ∧ callF P81 n 28 [.ob k, x] h = .ex ex h)) :
    callF P81 (n + 1) 15 [.int w, .tup [.ob k, x, y, z]] h = .ex ex h := by
  rw [callF_at (d := b__law_call81) rfl rfl]
  have q6 : umQ (P81.cl n) 6 (.ob k) h = .ok 24 := umQ_at _ j rfl rfl
  have q7 : umQ (P81.cl n) 7 (.ob k) h = .ok 25 := umQ_at _ j rfl rfl
  have q8 : umQ (P81.cl n) 8 (.ob k) h = .ok 26 := umQ_at _ j rfl rfl
  have q10 : umQ (P81.cl n) 10 (.ob k) h = .ok 28 := umQ_at _ j rfl rfl
  rcases hc with ⟨rfl, r⟩ | ⟨rfl, r⟩ | ⟨rfl, r⟩ | ⟨rfl, r⟩ | ⟨rfl, r⟩ <;> simp [b__law_call81, q6, q7, q8, q10, r]
theorem out81 {w a : D} {c n : Nat} {h : Hd} (h1 : 1 ≤ c) (h18 : c ≤ 18) (e : callF P81 (n + 1) 15 [w, a] h = .ex c h) : callF P81 (n + 2) 10 [w, a] h = .ok (.tup [sRai, .int ((c : Int) - 1)], h) := by
  have nm := law_name_ok (P := P81) (f := 11) rfl n h1 h18 (fun x hx hy => sub19_18 hx hy h18) h
  have := outcome_ex (P := P81) (f := 10) (fc := 15) (fn := 11) rfl (n + 1) e sub19_0 nm
  rw [this, gc_self rfl]
end
end Mp
set_option maxHeartbeats 4000000
namespace Mp
open PySem
/-! ### the rows of bad calls -/
/-- the list at i grows; the objects of W stay -/
structure Acc (h0 : Hd) (W : List (Nat × Ob)) (h : Hd) (i : Nat) (xs : List D) : Prop where
  pre : Pre h0 h
  lo : h0.length ≤ i
  at_ : h[i]? = some (.lst xs)
  pin : ∀ p ∈ W, h[p.1]? = some p.2 ∧ p.1 ≠ i
section
variable {h0 h : Hd} {W : List (Nat × Ob)} {i : Nat} {xs : List D} {C : Cl}
theorem Acc.app (a : Acc h0 W h i xs) (g : Hd) : Acc h0 W (h ++ g) i xs := ⟨a.pre.app g, a.lo, by rw [List.getElem?_append_left (get_lt a.at_)]; exact a.at_, fun p hp => ⟨by rw [List.getElem?_append_left (get_lt (a.pin p hp).1)]; exact (a.pin p hp).1, (a.pin p hp).2⟩⟩
theorem Acc.push (a : Acc h0 W h i xs) {ys : List D} (hl : xs.length + 1 ≤ 1000000) (y : D) : ∃ h', m1D .append (.ob i) y h = .ok (.non, h') ∧ Acc h0 W h' i (xs ++ [y]) := by
  refine ⟨_, app_ok a.at_ hl, a.pre.set a.lo _, a.lo, List.getElem?_set_self (get_lt a.at_), fun p hp => ⟨?_, (a.pin p hp).2⟩⟩
  rw [List.getElem?_set_ne (Ne.symm (a.pin p hp).2)]
  exact (a.pin p hp).1
/-- `rows = rows + [..]` -/
theorem Acc.cat (a : Acc h0 W h i xs) {ys : List D} {σ r : Sl} {x0 x1 : Option D} {es : List E} (hs : σ = x0 :: x1 :: some (.ob i) :: r) (he : evEs C es σ h = .ok (ys, h)) (hl : xs.length + ys.length ≤ 1000000) :
    ∃ h' i', evS C (.asg (.nm 2) (.bin .add (.v 2) (.lst es))) σ h = .nx (x0 :: x1 :: some (.ob i') :: r) h' ∧ Acc h0 W h' i' (xs ++ ys) := by
  subst hs
  have s1 := le_sizeL (show ys.length ≤ 1000000 by omega)
  have s2 := le_sizeL hl
  have e1 : (h ++ [Ob.lst ys])[i]? = some (.lst xs) := by rw [List.getElem?_append_left (get_lt a.at_)]; exact a.at_
  have e2 : (h ++ [Ob.lst ys])[h.length]? = some (.lst ys) := by simp
  have b := bin_lst e1 e2 s2
  have ap := (a.app [.lst ys]).app [.lst (xs ++ ys)]
  refine ⟨_, (h ++ [Ob.lst ys]).length, ?_, ⟨ap.pre, ?_, ?_, fun p hp => ⟨(ap.pin p hp).1, ?_⟩⟩⟩
  rotate_left
  · have := a.pre.len; simp; omega
  · simp
  · have := get_lt (a.pin p hp).1; simp; omega
  · simp only [evS_asg, evR_bin, evR_v, getV_s, getV_z, R.ok_bind, vl_v, evR_lst, he, s1, if_true, vl_l, b, rv_ok, thenF_ok, asgF_eq, asgT_nm, List.length_cons]
    rw [if_pos (by omega)]
    simp only [List.set_cons_succ, List.set_cons_zero, nxO_some]
/-- a loop over literals that lets the list grow -/
theorem Acc.loop {f : D → List D} {body : List S} {x0 x1 : Option D} {K : Nat} {it : I} {ds : List D} {hp : Hd} (a : Acc h0 W h i xs) (x3 x4 : Option D) (hi : evI C it (x0 :: x1 :: some (.ob i) :: x3 :: [x4]) hp = .ok ((.t ds, ds), h)) (hf : ∀ x ∈ ds, (f x).length ≤ 10) (hK : xs.length + 10 * ds.length ≤ K) (hK2 : K ≤ 1000000)
    (hb : ∀ x ∈ ds, ∀ h i xs x4, Acc h0 W h i xs → xs.length + 10 ≤ K → ∃ h' i' x4', evSs C body (x0 :: x1 :: some (.ob i) :: some x :: [x4]) h = .nx (x0 :: x1 :: some (.ob i') :: some x :: [x4']) h' ∧ Acc h0 W h' i' (xs ++ f x)) :
    ∃ h' i' x3' x4', evS C (.for_ (.nm 3) it body) (x0 :: x1 :: some (.ob i) :: x3 :: [x4]) hp = .nx (x0 :: x1 :: some (.ob i') :: x3' :: [x4']) h' ∧ Acc h0 W h' i' (xs ++ ds.flatMap f) := by
  have hi' : evI C it (x0 :: x1 :: some (.ob i) :: x3 :: [x4]) hp = .ok ((.t ds, ds.map id), h) := by rw [List.map_id]; exact hi
  obtain ⟨σ', h', e, i', x3', x4', es, done, hd, a', _⟩ := ev_for (C := C) (t := .nm 3) (b := body) (φ := id) (fun l σ hh => ∃ i' x3' x4', σ = x0 :: x1 :: some (.ob i') :: x3' :: [x4'] ∧ ∃ done, ds = done ++ l ∧ Acc h0 W hh i' (xs ++ done.flatMap f) ∧ (xs ++ done.flatMap f).length + 10 * l.length ≤ K) hi'
    (fun x l σ hh ⟨i', x3', x4', es, done, hd, a', hl⟩ => by
      subst es
      have hx : x ∈ ds := by rw [hd]; simp
      rw [List.length_cons] at hl
      obtain ⟨h2, i2, x42, e2, a2⟩ := hb x hx hh i' _ x4' a' (by omega)
      refine ⟨x0 :: x1 :: some (.ob i') :: some x :: [x4'], _, h2, by simp, .inl e2, rfl, i2, some x, x42, rfl, done ++ [x], by rw [hd]; simp, ?_, ?_⟩
      · simpa using a2
      · have := hf x hx
        simp at hl ⊢
        omega)
    ⟨i, x3, x4, rfl, [], rfl, by simpa using a, by simpa using hK⟩
  subst es
  refine ⟨h', i', x3', x4', e, ?_⟩
  have : ds = done := by simpa using hd
  rw [this]
  exact a'
end
def r5 (w : Int) (a b c : D) (nm : List Nat) : D := .tup [.int w, a, b, c, .str nm]
def nSt : List Nat := [115, 116, 97, 116, 101]
def nDg : List Nat := [100, 105, 103, 105, 116, 115]
def nLe : List Nat := [108, 101, 116, 116, 101, 114]
def nMa : List Nat := [109, 97, 99, 104, 105, 110, 101]
def nNu : List Nat := [110, 117, 109, 98, 101, 114]
def zs (b : Nat) : List D := List.replicate b (.int 0)
def f2 (x : D) : List D := [r5 0 x .non x nSt, r5 0 (.int 0) (.int 1) x nSt, r5 1 x .non (.int 0) nSt]
def f3 (b : Nat) (x : D) : List D := [r5 2 (.tup (zs (b - 1) ++ [x])) .non (.int 0) nSt, r5 2 (.tup ([x] ++ zs (b - 1))) .non (.int 0) nSt]
def f4 (x : D) : List D := [r5 2 x .non (.int 0) nSt]
def f5 (x : D) : List D := [r5 0 (.int 0) x .non nDg]
def f6 (b : Nat) (x : D) : List D := [r5 1 (.int 0) x (.int 0) nLe, r5 2 (.tup (zs b)) x (.int 0) nLe]
def f7 (x : D) : List D := [r5 3 x (.int 0) (.int 0) nMa]
def f8 (x : D) : D := r5 4 x (.int 0) (.int 0) nNu
def ds1 (n : Nat) : List D := [r5 0 (.int 0) (.int 0) (if 1 < n then .int ((n : Int) - 1) else .non) nSt]
def ds2 (n : Nat) : List D := [.int (-1), .non, .bl true, .str [48], .tup [.int 0], .int (n : Int)]
def ds3 (n : Nat) : List D := [.int (-1), .non, .bl true, .str [48], .tup [.int 0], .int ((n : Int) + 1)]
def ds4 (w1 : Nat) : List D := [.non, .int 0, .tup [], .tup [.int 0], .tup (zs 4), .ob w1, .str [48, 48]]
def ds5 (b : Nat) : List D := [.int (-1), .non, .bl true, .str [49], .int (b : Int)]
def ds6 : List D := [.int (-1), .int 3, .non, .bl true, .str [49]]
def ds7 (b w2 : Nat) : List D := [.non, .tup [], .tup [.int (b : Int), .tup [.tup (zs b)], .ob w2], .str [50, 58, 32, 48, 48, 47, 48], .tup [.int 4, .tup [.tup [.int 0]], .tup [.int 0]]]
def ds8 : List D := [.int (-1), .int 1000000000000000001, .bl true, .non]
@[simp] theorem sz7 : 7 ≤ sizeL := le_sizeL (by decide)
theorem mulz (k : Nat) (h1 : k ≤ 1000) (h : Hd) : binD .mul (.tup [.int 0]) (.int (k : Int)) h = .ok (.tup (zs k), h) := by
  have e : (List.replicate k [D.int 0]).flatten = zs k := by
    induction k with
    | zero => rfl
    | succ k ih => rw [List.replicate_succ, List.flatten_cons, ih (by omega)]; rfl
  have c : (decide ([D.int 0] ≠ []) && (decide ((0 : Int) ≤ (k : Int)) && (pr ((k : Int) ≤ 1000) && pr ([D.int 0].length ≤ 1000)))) = true := by
    simp only [Bool.and_eq_true, decide_eq_true_eq, pr_eq]
    exact ⟨by simp, by omega, by omega, by simp⟩
  show (if _ then _ else _) = _
  rw [if_pos c, Int.toNat_natCast, e]
section
variable {h0 h : Hd} {W : List (Nat × Ob)} {i : Nat} {xs : List D} {C : Cl}
theorem r81_1 (b n : Nat) (h : Hd) : ∃ h' i', evS C r81_s1 [some (.int (b : Int)), some (.int (n : Int)), none, none, none] h = .nx [some (.int (b : Int)), some (.int (n : Int)), some (.ob i'), none, none] h' ∧ Acc h [] h' i' (ds1 n) := by
  refine ⟨h ++ [.lst (ds1 n)], h.length, ?_, ⟨⟨_, rfl⟩, Nat.le_refl _, by simp, by simp⟩⟩
  by_cases c : 1 < n
  · have : (1 : Int) < (n : Int) := by omega
    simp [r81_s1, ds1, r5, nSt, c, this]
  · have : ¬ (1 : Int) < (n : Int) := by omega
    simp [r81_s1, ds1, r5, nSt, c, this]
theorem r81_2 (a : Acc h0 W h i xs) (b n : Nat) (hl : xs.length ≤ 1000) (x3 x4 : Option D) : ∃ h' i' x3' x4', evS C r81_s2 [some (.int (b : Int)), some (.int (n : Int)), some (.ob i), x3, x4] h = .nx [some (.int (b : Int)), some (.int (n : Int)), some (.ob i'), x3', x4'] h' ∧ Acc h0 W h' i' (xs ++ (ds2 n).flatMap f2) := by
  refine Acc.loop (K := 10000) (f := f2) a x3 x4 (by simp [ds2]) (fun x _ => by simp [f2]) (by simp [ds2]; omega) (by omega) fun x hx h i xs x4 a hl => ?_
  obtain ⟨h', i', e, a'⟩ := a.cat (C := C) (ys := f2 x) (σ := [some (.int (b : Int)), some (.int (n : Int)), some (.ob i), some x, x4]) (es := [(.tup [(.c (.int (0))), (.v 3), (.c .non), (.v 3), (.c (.str [115, 116, 97, 116, 101]))]), (.tup [(.c (.int (0))), (.c (.int (0))), (.c (.int (1))), (.v 3), (.c (.str [115, 116, 97, 116, 101]))]), (.tup [(.c (.int (1))), (.v 3), (.c .non), (.c (.int (0))), (.c (.str [115, 116, 97, 116, 101]))])]) rfl (by simp [f2, r5, nSt]) (by simp [f2]; omega)
  exact ⟨h', i', x4, (stepS e).trans rfl, a'⟩

theorem r81_3 (a : Acc h0 W h i xs) {b : Nat} (hb1 : 1 ≤ b) (hb3 : b ≤ 3) (n : Nat) (hl : xs.length ≤ 1000) (x3 x4 : Option D) : ∃ h' i' x3' x4', evS C r81_s3 [some (.int (b : Int)), some (.int (n : Int)), some (.ob i), x3, x4] h = .nx [some (.int (b : Int)), some (.int (n : Int)), some (.ob i'), x3', x4'] h' ∧ Acc h0 W h' i' (xs ++ (ds3 n).flatMap (f3 b)) := by
  refine Acc.loop (K := 10000) (f := f3 b) a x3 x4 (by simp [ds3]) (fun x _ => by simp [f3]) (by simp [ds3]; omega) (by omega) fun x hx h i xs x4 a hl => ?_
  have m := mulz (b - 1) (by omega) h
  have eb : ((b - 1 : Nat) : Int) = (b : Int) - 1 := by omega
  rw [eb] at m
  have zl : (zs (b - 1)).length = b - 1 := by simp [zs]
  have t1 := tupadd (xs := zs (b - 1)) (ys := [x]) h (by rw [zl]; simp; omega)
  have t2 := tupadd (xs := [x]) (ys := zs (b - 1)) h (by rw [zl]; simp; omega)
  obtain ⟨h', i', e, a'⟩ := a.cat (C := C) (ys := f3 b x) (σ := [some (.int (b : Int)), some (.int (n : Int)), some (.ob i), some x, some (.tup (zs (b - 1)))]) (es := [(.tup [(.c (.int (2))), (.bin .add (.v 4) (.tup [(.v 3)])), (.c .non), (.c (.int (0))), (.c (.str [115, 116, 97, 116, 101]))]), (.tup [(.c (.int (2))), (.bin .add (.tup [(.v 3)]) (.v 4)), (.c .non), (.c (.int (0))), (.c (.str [115, 116, 97, 116, 101]))])]) rfl (by simp [f3, r5, nSt, t1, t2]) (by simp [f3]; omega)
  refine ⟨h', i', some (.tup (zs (b - 1))), (stepS (σ' := [some (.int (b : Int)), some (.int (n : Int)), some (.ob i), some x, some (.tup (zs (b - 1)))]) (h' := h) (by simp [m])).trans ((stepS e).trans rfl), a'⟩
theorem r81_4 (a : Acc h0 W h i xs) {b : Nat} (hb1 : 1 ≤ b) (hb3 : b ≤ 3) (n : Nat) (hl : xs.length ≤ 1000) (x3 x4 : Option D) : ∃ h' i' x3' x4' w1, evS C r81_s4 [some (.int (b : Int)), some (.int (n : Int)), some (.ob i), x3, x4] h = .nx [some (.int (b : Int)), some (.int (n : Int)), some (.ob i'), x3', x4'] h' ∧ Acc h0 ((w1, .lst (zs b)) :: W) h' i' (xs ++ (ds4 w1).flatMap f4) ∧ h0.length ≤ w1 := by
  have m4 := mulz 4 (by omega) h
  have ml : binD .mul (.ob h.length) (.int (b : Int)) (h ++ [.lst [.int 0]]) = .ok (.ob (h.length + 1), (h ++ [.lst [.int 0]]) ++ [.lst (zs b)]) := by
    have e : (List.replicate b [D.int 0]).flatten = zs b := by
      unfold zs
      have : b = 1 ∨ b = 2 ∨ b = 3 := by omega
      rcases this with rfl | rfl | rfl <;> rfl
    have c : (pr (-(2 ^ 63) ≤ (b : Int)) && (pr ((b : Int) < 2 ^ 63) && pr ([D.int 0].length * (b : Int).toNat ≤ sizeL))) = true := by
      simp only [Bool.and_eq_true, pr_eq]
      refine ⟨by omega, by omega, ?_⟩
      exact le_sizeL (by simp; omega)
    have lo : lstOf (h ++ [Ob.lst [D.int 0]]) (.ob h.length) = some [.int 0] := by simp [lstOf]
    show (match lstOf (h ++ [Ob.lst [D.int 0]]) (.ob h.length) with
      | some xs => if pr (-(2 ^ 63) ≤ (b : Int)) && (pr ((b : Int) < 2 ^ 63) && pr (xs.length * (b : Int).toNat ≤ sizeL)) then new (.lst (List.replicate (b : Int).toNat xs).flatten) (h ++ [Ob.lst [D.int 0]]) else .no
      | none => .no) = _
    rw [lo]
    dsimp only
    rw [if_pos c, Int.toNat_natCast, e]
    simp [new]
  have a2 := (a.app [.lst [.int 0]]).app [.lst (zs b)]
  have a3 : Acc h0 ((h.length + 1, .lst (zs b)) :: W) ((h ++ [.lst [.int 0]]) ++ [.lst (zs b)]) i xs := ⟨a2.pre, a2.lo, a2.at_, fun p hp => by
    rcases List.mem_cons.mp hp with rfl | hp
    · refine ⟨by rw [List.getElem?_append_right (by simp)]; simp, ?_⟩
      have := get_lt a.at_
      show h.length + 1 ≠ i
      omega
    · exact a2.pin p hp⟩
  obtain ⟨h', i', x3', x4', e, a'⟩ := Acc.loop (K := 10000) (C := C) (x0 := some (.int (b : Int))) (x1 := some (.int (n : Int))) (it := (.sq (.tup [(.c .non), (.c (.int (0))), (.tup []), (.tup [(.c (.int (0)))]), (.bin .mul (.tup [(.c (.int (0)))]) (.c (.int (4)))), (.bin .mul (.lst [(.c (.int (0)))]) (.v 0)), (.c (.str [48, 48]))]))) (body := [(.ex (.m1 .append (.v 2) (.tup [(.c (.int (2))), (.v 3), (.c .non), (.c (.int (0))), (.c (.str [115, 116, 97, 116, 101]))])))]) (ds := ds4 (h.length + 1)) (hp := h) (f := f4) a3 x3 x4
    (by
      have m4' : binD .mul (.tup [.int 0]) (.int 4) h = .ok (.tup (zs 4), h) := m4
      simp [ds4, m4', ml])
    (fun x _ => by simp [f4]) (by simp [ds4]; omega) (by omega) fun x hx h i xs x4 a hl => by
      obtain ⟨h', e, a'⟩ := a.push (ys := []) (by omega) (r5 2 x .non (.int 0) nSt)
      refine ⟨h', i, x4, ?_, a'⟩
      have e' : m1D .append (.ob i) (.tup [.int 2, x, .non, .int 0, .str [115, 116, 97, 116, 101]]) h = .ok (.non, h') := e
      simp [rcv_append a.at_, e']
  exact ⟨h', i', x3', x4', h.length + 1, e, a', by have := a.pre.len; omega⟩

theorem r81_5 (a : Acc h0 W h i xs) (b n : Nat) (hl : xs.length ≤ 1000) (x3 x4 : Option D) : ∃ h' i' x3' x4', evS C r81_s5 [some (.int (b : Int)), some (.int (n : Int)), some (.ob i), x3, x4] h = .nx [some (.int (b : Int)), some (.int (n : Int)), some (.ob i'), x3', x4'] h' ∧ Acc h0 W h' i' (xs ++ (ds5 b).flatMap f5) := by
  refine Acc.loop (K := 10000) (f := f5) a x3 x4 (by simp [ds5]) (fun x _ => by simp [f5]) (by simp [ds5]; omega) (by omega) fun x hx h i xs x4 a hl => ?_
  obtain ⟨h', e, a'⟩ := a.push (ys := []) (by omega) (r5 0 (.int 0) x .non nDg)
  refine ⟨h', i, x4, ?_, a'⟩
  have e' : m1D .append (.ob i) (.tup [.int 0, .int 0, x, .non, .str [100, 105, 103, 105, 116, 115]]) h = .ok (.non, h') := e
  simp [rcv_append a.at_, e']
theorem r81_6 (a : Acc h0 W h i xs) {b : Nat} (hb3 : b ≤ 3) (n : Nat) (hl : xs.length ≤ 1000) (x3 x4 : Option D) : ∃ h' i' x3' x4', evS C r81_s6 [some (.int (b : Int)), some (.int (n : Int)), some (.ob i), x3, x4] h = .nx [some (.int (b : Int)), some (.int (n : Int)), some (.ob i'), x3', x4'] h' ∧ Acc h0 W h' i' (xs ++ ds6.flatMap (f6 b)) := by
  refine Acc.loop (K := 10000) (f := f6 b) a x3 x4 (by simp [ds6]) (fun x _ => by simp [f6]) (by simp [ds6]; omega) (by omega) fun x hx h i xs x4 a hl => ?_
  have m := mulz b (by omega) h
  obtain ⟨h', i', e, a'⟩ := a.cat (C := C) (ys := f6 b x) (σ := [some (.int (b : Int)), some (.int (n : Int)), some (.ob i), some x, x4]) (es := [(.tup [(.c (.int (1))), (.c (.int (0))), (.v 3), (.c (.int (0))), (.c (.str [108, 101, 116, 116, 101, 114]))]), (.tup [(.c (.int (2))), (.bin .mul (.tup [(.c (.int (0)))]) (.v 0)), (.v 3), (.c (.int (0))), (.c (.str [108, 101, 116, 116, 101, 114]))])]) rfl (by simp [f6, r5, nLe, m]) (by simp [f6]; omega)
  exact ⟨h', i', x4, (stepS e).trans rfl, a'⟩
theorem r81_7 (a : Acc h0 W h i xs) {b : Nat} (hb3 : b ≤ 3) (n : Nat) (hl : xs.length ≤ 1000) (x3 x4 : Option D) : ∃ h' i' x3' x4' w2, evS C r81_s7 [some (.int (b : Int)), some (.int (n : Int)), some (.ob i), x3, x4] h = .nx [some (.int (b : Int)), some (.int (n : Int)), some (.ob i'), x3', x4'] h' ∧ Acc h0 ((w2, .lst [.int 0]) :: W) h' i' (xs ++ (ds7 b w2).flatMap f7) := by
  have m := mulz b (by omega) h
  have a2 := a.app [.lst [.int 0]]
  have a3 : Acc h0 ((h.length, .lst [.int 0]) :: W) (h ++ [.lst [.int 0]]) i xs := ⟨a2.pre, a2.lo, a2.at_, fun p hp => by
    rcases List.mem_cons.mp hp with rfl | hp
    · refine ⟨by simp, ?_⟩
      have := get_lt a.at_
      show h.length ≠ i
      omega
    · exact a2.pin p hp⟩
  obtain ⟨h', i', x3', x4', e, a'⟩ := Acc.loop (K := 10000) (C := C) (x0 := some (.int (b : Int))) (x1 := some (.int (n : Int))) (it := (.sq (.tup [(.c .non), (.tup []), (.tup [(.v 0), (.tup [(.bin .mul (.tup [(.c (.int (0)))]) (.v 0))]), (.lst [(.c (.int (0)))])]), (.c (.str [50, 58, 32, 48, 48, 47, 48])), (.tup [(.c (.int (4))), (.tup [(.tup [(.c (.int (0)))])]), (.tup [(.c (.int (0)))])])]))) (body := [(.ex (.m1 .append (.v 2) (.tup [(.c (.int (3))), (.v 3), (.c (.int (0))), (.c (.int (0))), (.c (.str [109, 97, 99, 104, 105, 110, 101]))])))]) (ds := ds7 b h.length) (hp := h) (f := f7) a3 x3 x4
    (by simp [ds7, m])
    (fun x _ => by simp [f7]) (by simp [ds7]; omega) (by omega) fun x hx h i xs x4 a hl => by
      obtain ⟨h', e, a'⟩ := a.push (ys := []) (by omega) (r5 3 x (.int 0) (.int 0) nMa)
      refine ⟨h', i, x4, ?_, a'⟩
      have e' : m1D .append (.ob i) (.tup [.int 3, x, .int 0, .int 0, .str [109, 97, 99, 104, 105, 110, 101]]) h = .ok (.non, h') := e
      simp [rcv_append a.at_, e']
  exact ⟨h', i', x3', x4', h.length, e, a'⟩
def rows81 (b n w1 w2 : Nat) : List D := ds1 n ++ (ds2 n).flatMap f2 ++ (ds3 n).flatMap (f3 b) ++ (ds4 w1).flatMap f4 ++ (ds5 b).flatMap f5 ++ ds6.flatMap (f6 b) ++ (ds7 b w2).flatMap f7 ++ ds8.map f8
theorem r81_8 (a : Acc h0 W h i xs) (b n : Nat) (hl : xs.length ≤ 1000) (x3 x4 : Option D) : ∃ h' i', evS C r81_s8 [some (.int (b : Int)), some (.int (n : Int)), some (.ob i), x3, x4] h = .rt (.ob i') h' ∧ Acc h0 W h' i' (xs ++ ds8.map f8) := by
  have pw : binD .pow (.int 10) (.int 18) h = .ok (.int 1000000000000000000, h) := bin_pow (by decide) (by decide) (by decide)
  have cm := ev_map (C := C) (i := 3) (it := (.sq (.tup [(.neg (.c (.int (1)))), (.bin .add (.bin .pow (.c (.int (10))) (.c (.int (18)))) (.c (.int (1)))), (.c (.bl true)), (.c .non)]))) (elt := (.tup [(.c (.int (4))), (.v 3), (.c (.int (0))), (.c (.int (0))), (.c (.str [110, 117, 109, 98, 101, 114]))])) (σ := [some (.int (b : Int)), some (.int (n : Int)), some (.ob i), x3, x4]) (h := h) (h1 := h) (q := .t ds8) (l := ds8) (φ := id) (ψ := f8) (by simp [pw, ds8]) rfl (by simp) (le_sizeL (by simp [ds8])) (fun x hx => by simp [f8, r5, nNu])
  have e1 : (h ++ [Ob.lst (ds8.map f8)])[i]? = some (.lst xs) := by rw [List.getElem?_append_left (get_lt a.at_)]; exact a.at_
  have e2 : (h ++ [Ob.lst (ds8.map f8)])[h.length]? = some (.lst (ds8.map f8)) := by simp
  have bn := bin_lst e1 e2 (le_sizeL (by simp [ds8]; omega))
  have ap := (a.app [.lst (ds8.map f8)]).app [.lst (xs ++ ds8.map f8)]
  refine ⟨_, (h ++ [Ob.lst (ds8.map f8)]).length, ?_, ⟨ap.pre, ?_, ?_, fun p hp => ⟨(ap.pin p hp).1, ?_⟩⟩⟩
  rotate_left
  · have := a.pre.len; simp; omega
  · simp
  · have := get_lt (a.pin p hp).1; simp; omega
  · simp only [r81_s8, evS_ret, evR_bin, evR_v, getV_s, getV_z, R.ok_bind, vl_v, cm, vl_l, bn, rv_ok, thenF_ok]

theorem rows_ok {P : Pg} {f : Nat} (hf : P.df f = some b__law_rows) (n' : Nat) {b n : Nat} (hb1 : 1 ≤ b) (hb3 : b ≤ 3) (h : Hd) :
    ∃ h' i w1 w2, callF P (n' + 1) f [.int (b : Int), .int (n : Int)] h = .ok (.ob i, h') ∧ Acc h [(w2, .lst [.int 0]), (w1, .lst (zs b))] h' i (rows81 b n w1 w2) := by
  obtain ⟨h1, i1, e1, a1⟩ := r81_1 (C := P.cl n') b n h
  obtain ⟨h2, i2, x2, y2, e2, a2⟩ := r81_2 (C := P.cl n') a1 b n (by simp [ds1]) none none
  obtain ⟨h3, i3, x3, y3, e3, a3⟩ := r81_3 (C := P.cl n') a2 hb1 hb3 n (by simp [ds1, ds2, f2]) x2 y2
  obtain ⟨h4, i4, x4, y4, w1, e4, a4, l1⟩ := r81_4 (C := P.cl n') a3 hb1 hb3 n (by simp [ds1, ds2, f2, ds3, f3]) x3 y3
  obtain ⟨h5, i5, x5, y5, e5, a5⟩ := r81_5 (C := P.cl n') a4 b n (by simp [ds1, ds2, f2, ds3, f3, ds4, f4]) x4 y4
  obtain ⟨h6, i6, x6, y6, e6, a6⟩ := r81_6 (C := P.cl n') a5 hb3 n (by simp [ds1, ds2, f2, ds3, f3, ds4, f4, ds5, f5]) x5 y5
  obtain ⟨h7, i7, x7, y7, w2, e7, a7⟩ := r81_7 (C := P.cl n') a6 hb3 n (by simp [ds1, ds2, f2, ds3, f3, ds4, f4, ds5, f5, ds6, f6]) x6 y6
  obtain ⟨h8, i8, e8, a8⟩ := r81_8 (C := P.cl n') a7 b n (by simp [ds1, ds2, f2, ds3, f3, ds4, f4, ds5, f5, ds6, f6, ds7, f7]) x7 y7
  refine ⟨h8, i8, w1, w2, ?_, a8⟩
  rw [callF_at hf rfl]
  have body : evSs (P.cl n') b__law_rows.body [some (.int (b : Int)), some (.int (n : Int)), none, none, none] h = .rt (.ob i8) h8 :=
    (step e1).trans ((step e2).trans ((step e3).trans ((step e4).trans ((step e5).trans ((step e6).trans ((step e7).trans (stepR e8)))))))
  have nl : D.los h.length (rows81 b n w1 w2) = false := by
    cases q : D.los h.length (rows81 b n w1 w2) with
    | false => rfl
    | true =>
      have mem : ∀ (xs : List D) (x : D), x ∈ xs → D.los h.length xs = true → D.lo h.length x = true := by
        intro xs
        induction xs with
        | nil => intro x hx; cases hx
        | cons y ys ih =>
          intro x hx hq
          rw [los_cons, Bool.and_eq_true] at hq
          rcases List.mem_cons.mp hx with rfl | hx
          · exact hq.1
          · exact ih x hx hq.2
      have := mem _ (r5 2 (.ob w1) .non (.int 0) nSt) (by
        unfold rows81
        simp [ds4, f4]) q
      simp [r5] at this
      omega
  show endF h (evSs (P.cl n') b__law_rows.body [some (.int (b : Int)), some (.int (n : Int)), none, none, none] h) = _
  rw [body]
  show R.ok (gc h (.ob i8) h8) = _
  have : gc h (.ob i8) h8 = (.ob i8, h8) := by
    obtain ⟨g, eg⟩ := a8.pre
    have lo : D.lo h.length (.ob i8) = false := by simp; exact a8.lo
    have at' : h8[i8]? = some (.lst (rows81 b n w1 w2)) := a8.at_
    unfold gc
    rw [eg, oldOk_app, ← eg]
    simp only [if_true, lo, at', nl]
    rfl
  rw [this]
end
end Mp
set_option maxHeartbeats 4000000
namespace Mp
open PySem
/-! ### each of these calls raises what the row says -/
section
variable {h : Hd} {k e d u : Nat} {b c : D} {n : Nat} {m : Mc}
theorem nonM1 (n : Nat) {x : D} (hx : ∀ C : Cl, isiD C [.tuple] x h = .ok (.bl false)) : callF P81 (n + 3) 2 [x] h = .ex 1 h := by
  have e1 : callF P81 (n + 2) 1 [x] h = .ok (.bl false, h) := by
    rw [callF_at (d := b_is_machine 0) rfl rfl]
    simp [b_is_machine, hx]
  rw [callF_at (d := b_check_machine 1 1) rfl rfl]
  simp [b_check_machine, e1]
theorem nonM2 (n : Nat) {xs : List D} (hx : xs.length ≠ 3) : callF P81 (n + 3) 2 [.tup xs] h = .ex 1 h := by
  have e1 : callF P81 (n + 2) 1 [.tup xs] h = .ok (.bl false, h) := by
    rw [callF_at (d := b_is_machine 0) rfl rfl]
    have : ¬ ((xs.length : Int) = 3) := by omega
    simp [b_is_machine, isT, len_tp, this]
  rw [callF_at (d := b_check_machine 1 1) rfl rfl]
  simp [b_check_machine, e1]
theorem nonM3 (n : Nat) {y z : D} : callF P81 (n + 3) 2 [.tup [.int 4, y, z]] h = .ex 1 h := by
  have e1 : callF P81 (n + 2) 1 [.tup [.int 4, y, z]] h = .ok (.bl false, h) := by
    rw [callF_at (d := b_is_machine 0) rfl rfl]
    have ix : ixC (.tup [.int 4, y, z]) (.int 0) h = .ok (.int 4) := ixD_nat (k := 0) h rfl
    simp [b_is_machine, isT, len_tp, ix, is_between_ok (P := P81) (f := 0) rfl n]
  rw [callF_at (d := b_check_machine 1 1) rfl rfl]
  simp [b_check_machine, e1]
theorem chg_e (hp : SesP P81 N81) (n : Nat) {x : D} (hx : pl0 x = true) (bx : btw x 0 1000000000000000000 = false) : callF P81 (n + 3) 28 [.ob k, x] h = .ex 2 h := by
  have e1 : callF P81 (n + 2) 3 [x] h = _ := check_number_all hp.chn hp.isb n hx h
  rw [bx] at e1
  have e2 : callF P81 (n + 1 + 1) 3 [x] h = .ex 2 h := e1.trans (by simp)
  rw [callF_at (d := b_ses_changed 3 7 5) rfl rfl]
  simp [b_ses_changed, e2]

theorem blL_rep : ∀ n : Nat, blL (List.replicate n (D.bl true)) = some (List.replicate n true)
  | 0 => rfl
  | n + 1 => by rw [List.replicate_succ, blL, blL_rep n]; rfl
theorem nonM4 (n : Nat) {bb w2 : Nat} (h2 : 2 ≤ bb) (h3 : bb ≤ 3) {ys : List D} (hw : h[w2]? = some (.lst ys)) : callF P81 (n + 3) 2 [.tup [.int (bb : Int), .tup [.tup (zs bb)], .ob w2]] h = .ex 1 h := by
  have is2 : ∀ C : Cl, isiD C [.tuple] (.ob w2) h = .ok (.bl false) := fun C => by simp [isiD, isTy, kindD, kdTy, hw]
  have ib : ∀ lo hi : Int, callF P81 (n + 1) 0 [.int 0, .int lo, .int hi] h = _ := fun lo hi => is_between_ok (P := P81) (f := 0) rfl n 0 lo hi h
  have e1 : callF P81 (n + 2) 1 [.tup [.int (bb : Int), .tup [.tup (zs bb)], .ob w2]] h = .ok (.bl false, h) := by
    rw [callF_at (d := b_is_machine 0) rfl rfl]
    have ix : ixC (.tup [.int (bb : Int), .tup [.tup (zs bb)], .ob w2]) (.int 0) h = .ok (.int (bb : Int)) := ixD_nat (k := 0) h rfl
    have b2 : (2 : Int) ≤ (bb : Int) := by omega
    have b3 : (bb : Int) ≤ 3 := by omega
    have zl : ((zs bb).length : Int) = (bb : Int) := by simp [zs]
    have all : evR (P81.cl (n + 1)) (.comp [6] (.nm 6) (.sq (.v 1)) (.c (.bl true)) (.call 0 [(.v 6), (.c (.int (0))), (.bin .sub (.b1 .len (.v 3)) (.c (.int (1))))])) [some (.tup [.int (bb : Int), .tup [.tup (zs bb)], .ob w2]), some (.tup (zs bb)), some (.int (bb : Int)), some (.tup [.tup (zs bb)]), some (.ob w2), none, none] h = .ok (.l ((List.replicate bb ()).map fun _ => .bl true), h) := by
      refine ev_map (q := .t (zs bb)) (φ := fun _ => .int 0) (by simp [zs]) rfl (by simp) (le_sizeL (by simp; omega)) fun _ _ => ?_
      simp [len_tp, ib]
    obtain ⟨o, lp⟩ : ∃ o, evS (P81.cl (n + 1)) (.for_ (.nm 1) (.sq (.v 3)) [(.ite (.or_ (.nt (.isi (.v 1) [.tuple])) (.cmp .ne (.b1 .len (.v 1)) (.v 2))) [(.ret (.c (.bl false)))] []), (.ite (.nt (.b1 .all (.comp [6] (.nm 6) (.sq (.v 1)) (.c (.bl true)) (.call 0 [(.v 6), (.c (.int (0))), (.bin .sub (.b1 .len (.v 3)) (.c (.int (1))))])))) [(.ret (.c (.bl false)))] [])]) [some (.tup [.int (bb : Int), .tup [.tup (zs bb)], .ob w2]), none, some (.int (bb : Int)), some (.tup [.tup (zs bb)]), some (.ob w2), none, none] h = .nx ([some (.tup [.int (bb : Int), .tup [.tup (zs bb)], .ob w2]), none, some (.int (bb : Int)), some (.tup [.tup (zs bb)]), some (.ob w2), none, none].set 1 o) h := by
      rcases ev_forT (C := P81.cl (n + 1)) (i := 1) (it := .sq (.v 3)) (b := [(.ite (.or_ (.nt (.isi (.v 1) [.tuple])) (.cmp .ne (.b1 .len (.v 1)) (.v 2))) [(.ret (.c (.bl false)))] []), (.ite (.nt (.b1 .all (.comp [6] (.nm 6) (.sq (.v 1)) (.c (.bl true)) (.call 0 [(.v 6), (.c (.int (0))), (.bin .sub (.b1 .len (.v 3)) (.c (.int (1))))])))) [(.ret (.c (.bl false)))] [])]) (σ := [some (.tup [.int (bb : Int), .tup [.tup (zs bb)], .ob w2]), none, some (.int (bb : Int)), some (.tup [.tup (zs bb)]), some (.ob w2), none, none]) (h := h) (h1 := h) (q := .t [.tup (zs bb)]) (l := [D.tup (zs bb)]) (φ := id) (p := fun _ => true) (v := .bl false) (by simp) (by simp) (fun a ha => by
        have : a = .tup (zs bb) := by simpa using ha
        subst this
        simp [isT, len_tp, zl, all, blL_rep]) with ⟨_, o, e⟩ | ⟨c, _⟩
      · exact ⟨o, e⟩
      · simp at c
    simp [b_is_machine, isT, len_tp, ix, is_between_ok (P := P81) (f := 0) rfl n, b2, b3]
    rw [lp]
    simp [is2]
  rw [callF_at (d := b_check_machine 1 1) rfl rfl]
  simp [b_check_machine, e1]
end
end Mp
set_option maxHeartbeats 4000000
namespace Mp
open PySem
section
variable {h : Hd} {k e d u : Nat} {b c : D} {n : Nat} {m : Mc}
def BadR (h : Hd) (k n : Nat) (r : D) : Prop := ∃ (w : Int) (x y z : D) (nm : List Nat) (ex : Nat), r = r5 w x y z nm ∧ callF P81 (n + 5) 15 [.int w, .tup [.ob k, x, y, z]] h = .ex ex h ∧ 1 ≤ ex ∧ ex ≤ 18 ∧ nm.all (· < 0x110000) = true ∧ (nm1 ++ nm2).findIdx? (fun t => decide (t = nm)) = some (ex - 1)
theorem bSt {w : Int} {x y z : D} (e : callF P81 (n + 5) 15 [.int w, .tup [.ob k, x, y, z]] h = .ex 13 h) : BadR h k n (r5 w x y z nSt) := ⟨w, x, y, z, nSt, 13, rfl, e, by decide, by decide, rfl, rfl⟩
theorem bDg {w : Int} {x y z : D} (e : callF P81 (n + 5) 15 [.int w, .tup [.ob k, x, y, z]] h = .ex 6 h) : BadR h k n (r5 w x y z nDg) := ⟨w, x, y, z, nDg, 6, rfl, e, by decide, by decide, rfl, rfl⟩
theorem bLe {w : Int} {x y z : D} (e : callF P81 (n + 5) 15 [.int w, .tup [.ob k, x, y, z]] h = .ex 3 h) : BadR h k n (r5 w x y z nLe) := ⟨w, x, y, z, nLe, 3, rfl, e, by decide, by decide, rfl, rfl⟩
theorem bMa {w : Int} {x y z : D} (e : callF P81 (n + 5) 15 [.int w, .tup [.ob k, x, y, z]] h = .ex 1 h) : BadR h k n (r5 w x y z nMa) := ⟨w, x, y, z, nMa, 1, rfl, e, by decide, by decide, rfl, rfl⟩
theorem bNu {w : Int} {x y z : D} (e : callF P81 (n + 5) 15 [.int w, .tup [.ob k, x, y, z]] h = .ex 2 h) : BadR h k n (r5 w x y z nNu) := ⟨w, x, y, z, nNu, 2, rfl, e, by decide, by decide, rfl, rfl⟩
theorem ds2_bad {n : Nat} {x : D} (hx : x ∈ ds2 n) : pl0 x = true ∧ btw x 0 ((n : Int) - 1) = false := by
  simp only [ds2, List.mem_cons, List.not_mem_nil, or_false] at hx
  rcases hx with rfl | rfl | rfl | rfl | rfl | rfl <;> simp [pl0, btw] <;> omega
theorem ds3_bad {n : Nat} {x : D} (hx : x ∈ ds3 n) : pl0 x = true ∧ btw x 0 (n : Int) = false := by
  simp only [ds3, List.mem_cons, List.not_mem_nil, or_false] at hx
  rcases hx with rfl | rfl | rfl | rfl | rfl | rfl <;> simp [pl0, btw] <;> omega
theorem ds5_bad {n : Nat} {x : D} (hx : x ∈ ds5 n) : pl0 x = true ∧ btw x 0 ((n : Int) - 1) = false := by
  simp only [ds5, List.mem_cons, List.not_mem_nil, or_false] at hx
  rcases hx with rfl | rfl | rfl | rfl | rfl <;> simp [pl0, btw] <;> omega
theorem ds6_bad {x : D} (hx : x ∈ ds6) : pl0 x = true ∧ btw x 0 2 = false := by
  simp only [ds6, List.mem_cons, List.not_mem_nil, or_false] at hx
  rcases hx with rfl | rfl | rfl | rfl | rfl <;> simp [pl0, btw] <;> omega
theorem ds8_bad {x : D} (hx : x ∈ ds8) : pl0 x = true ∧ btw x 0 1000000000000000000 = false := by
  simp only [ds8, List.mem_cons, List.not_mem_nil, or_false] at hx
  rcases hx with rfl | rfl | rfl | rfl <;> simp [pl0, btw] <;> omega
theorem zs_len (k : Nat) : (zs k).length = k := by simp [zs]
theorem zs_mem {k : Nat} {x : D} (hx : x ∈ zs k) : x = .int 0 := (List.mem_replicate.mp hx).2
theorem bad81 (o : m.ok) (n : Nat) (j : h[k]? = some (.ins 0 (L5 b m.d e d u))) {w1 w2 : Nat} {ys zz : List D} (h1 : h[w1]? = some (.lst ys)) (h2 : h[w2]? = some (.lst zz)) : ∀ r ∈ rows81 m.b m.rows.length w1 w2, BadR h k n r := by
  have r1 := o.r1
  have r4 := o.r4
  have b2 := o.b2
  have b3 := o.b3
  have z0 : btw (.int 0) 0 ((m.rows.length : Int) - 1) = true := by simp [btw]; omega
  have z1 : btw (.int 0) 0 (m.rows.length : Int) = true := by simp [btw]
  have d0 : btw (.int 0) 0 ((m.b : Int) - 1) = true := by simp [btw]; omega
  have d1 : btw (.int 1) 0 ((m.b : Int) - 1) = true := by simp [btw]; omega
  intro r hr
  unfold rows81 at hr
  simp only [List.mem_append, List.mem_flatMap, List.mem_map] at hr
  rcases hr with ((((((hr | ⟨x, hx, hr⟩) | ⟨x, hx, hr⟩) | ⟨x, hx, hr⟩) | ⟨x, hx, hr⟩) | ⟨x, hx, hr⟩) | ⟨x, hx, hr⟩) | ⟨x, hx, hr⟩
  · simp only [ds1, List.mem_cons, List.not_mem_nil, or_false] at hr
    subst hr
    by_cases c : 1 < m.rows.length
    · rw [if_pos c]
      exact bSt (call81 (n + 4) j (.inl ⟨rfl, red_e4 S81 (n + 1) j r1 (by omega) (by omega) (by omega)⟩))
    · rw [if_neg c]
      exact bSt (call81 (n + 4) j (.inl ⟨rfl, red_e3 S81 (n + 1) j rfl z0 rfl d0 rfl rfl⟩))
  · obtain ⟨p, q⟩ := ds2_bad hx
    simp only [f2, List.mem_cons, List.not_mem_nil, or_false] at hr
    rcases hr with rfl | rfl | rfl
    · exact bSt (call81 (n + 4) j (.inl ⟨rfl, red_e1 S81 (n + 1) j p q⟩))
    · exact bSt (call81 (n + 4) j (.inl ⟨rfl, red_e3 S81 (n + 1) j rfl z0 rfl d1 p q⟩))
    · exact bSt (call81 (n + 4) j (.inr (.inl ⟨rfl, rel_e1 S81 (n + 1) j p q⟩)))
  · obtain ⟨p, q⟩ := ds3_bad hx
    simp only [f3, List.mem_cons, List.not_mem_nil, or_false] at hr
    rcases hr with rfl | rfl
    · refine bSt (call81 (n + 4) j (.inr (.inr (.inl ⟨rfl, add_e2 S81 (n + 1) j (by simp [zs_len]; omega) (fun y hy => ?_) (by simp [q])⟩))))
      rcases List.mem_append.mp hy with hy | hy
      · rw [zs_mem hy]; rfl
      · have : y = x := by simpa using hy
        rw [this]; exact p
    · refine bSt (call81 (n + 4) j (.inr (.inr (.inl ⟨rfl, add_e2 S81 (n + 1) j (by simp [zs_len]; omega) (fun y hy => ?_) (by simp [q])⟩))))
      rcases List.mem_append.mp hy with hy | hy
      · have : y = x := by simpa using hy
        rw [this]; exact p
      · rw [zs_mem hy]; rfl
  · simp only [f4, List.mem_cons, List.not_mem_nil, or_false] at hr
    subst hr
    refine bSt (call81 (n + 4) j (.inr (.inr (.inl ⟨rfl, ?_⟩))))
    simp only [ds4, List.mem_cons, List.not_mem_nil, or_false] at hx
    rcases hx with rfl | rfl | rfl | rfl | rfl | rfl | rfl
    · exact add_e0 S81 (n + 1) j fun C => by simp [isiD, isTy, kindD, kdTy]
    · exact add_e0 S81 (n + 1) j fun C => by simp [isiD, isTy, kindD, kdTy]
    · exact add_e1 S81 (n + 1) j (by simp; omega)
    · exact add_e1 S81 (n + 1) j (by simp; omega)
    · exact add_e1 S81 (n + 1) j (by rw [zs_len]; omega)
    · exact add_e0 S81 (n + 1) j fun C => by simp [isiD, isTy, kindD, kdTy, h1]
    · exact add_e0 S81 (n + 1) j fun C => by simp [isiD, isTy, kindD, kdTy]
  · obtain ⟨p, q⟩ := ds5_bad hx
    simp only [f5, List.mem_cons, List.not_mem_nil, or_false] at hr
    subst hr
    exact bDg (call81 (n + 4) j (.inl ⟨rfl, red_e2 S81 (n + 1) j rfl z0 p q⟩))
  · obtain ⟨p, q⟩ := ds6_bad hx
    simp only [f6, List.mem_cons, List.not_mem_nil, or_false] at hr
    rcases hr with rfl | rfl
    · exact bLe (call81 (n + 4) j (.inr (.inl ⟨rfl, rel_e2 S81 (n + 1) j rfl z0 p q⟩)))
    · refine bLe (call81 (n + 4) j (.inr (.inr (.inl ⟨rfl, add_e3 S81 (n + 1) j (zs_len _) (fun y hy => by rw [zs_mem hy]; rfl) ?_ p q⟩))))
      rw [List.all_eq_true]
      intro y hy
      rw [zs_mem hy]
      exact z1
  · simp only [f7, List.mem_cons, List.not_mem_nil, or_false] at hr
    subst hr
    refine bMa (call81 (n + 4) j (.inr (.inr (.inr (.inl ⟨rfl, ?_⟩)))))
    refine mkS_e S81 n h ?_
    simp only [ds7, List.mem_cons, List.not_mem_nil, or_false] at hx
    rcases hx with rfl | rfl | rfl | rfl | rfl
    · exact nonM1 n fun C => by simp [isiD, isTy, kindD, kdTy]
    · exact nonM2 n (by simp)
    · exact nonM4 n b2 b3 (ys := zz) (by rw [List.getElem?_append_left (get_lt h2)]; exact h2)
    · exact nonM1 n fun C => by simp [isiD, isTy, kindD, kdTy]
    · exact nonM3 n
  · obtain ⟨p, q⟩ := ds8_bad hx
    subst hr
    exact bNu (call81 (n + 4) j (.inr (.inr (.inr (.inr ⟨rfl, chg_e S81 (n + 1) p q⟩)))))
end
end Mp
set_option maxHeartbeats 4000000
namespace Mp
open PySem
section
variable {h : Hd} {k e d u : Nat} {b c : D} {n : Nat} {m : Mc} {ns : List Int}
theorem redir_self (o : m.ok) : m.redir 0 0 0 = m := by
  obtain ⟨r, rs, hz⟩ := o.z
  obtain ⟨mb, rows, lets⟩ := m
  dsimp only at hz
  subst hz
  simp [Mc.redir, repl, Mc.rw]
theorem ne_same {C : Cl} {x : D} {h : Hd} (hx : pln 40 x = true) (hc : cmpC C .ne x x h = cmpE (cmpD .ne x x h) h) : cmpC C .ne x x h = .ok (.bl false, h) := by
  rw [hc, ne_pln hx hx]; simp
/-- one row of the loop -/
theorem turn81 (n : Nat) {r : D} (hr : BadR h k (n + 3) r) (σ0 : Sl) (x8 x9 x10 x11 x12 : Option D) {a0 a1 a2 a4 a5 a6 a7 : Option D} : ∃ σ1, asgT (.tp [(.nm 8), (.nm 9), (.nm 10), (.nm 11), (.nm 12)]) r [a0, a1, a2, some (.ob k), a4, a5, a6, a7, x8, x9, x10, x11, x12] = some σ1 ∧ evSs (P81.cl (n + 9)) [(.ite (.cmp .ne (.call 10 [(.v 8), (.tup [(.v 3), (.v 9), (.v 10), (.v 11)])]) (.call 12 [(.v 12)])) [(.ret (.c (.bl false)))] [])] σ1 h = .nx σ1 h ∧ ∃ y8 y9 y10 y11 y12, σ1 = [a0, a1, a2, some (.ob k), a4, a5, a6, a7, y8, y9, y10, y11, y12] := by
  obtain ⟨w, x, y, z, nm, ex, rfl, e1, l1, l18, al, fi⟩ := hr
  have o1 := out81 (n := n + 7) l1 l18 e1
  have o2 := raises_ok (P := P81) (f := 12) rfl (n + 8) al fi h
  have ec : ((ex : Int) - 1) = ((ex - 1 : Nat) : Int) := by omega
  rw [ec] at o1
  have pl : pln 40 (.tup [sRai, .int ((ex - 1 : Nat) : Int)]) = true := rfl
  have cn : cmpD .ne (.tup [sRai, .int ((ex - 1 : Nat) : Int)]) (.tup [sRai, .int ((ex - 1 : Nat) : Int)]) h = .ok false := by rw [ne_pln pl pl]; simp
  refine ⟨[a0, a1, a2, some (.ob k), a4, a5, a6, a7, some (.int w), some x, some y, some z, some (.str nm)], by simp [r5], ?_, _, _, _, _, _, rfl⟩
  simp [o1, o2, cn]
end
end Mp
set_option maxHeartbeats 4000000
namespace Mp
open PySem
section
variable {h : Hd} {k e d u : Nat} {b c : D} {n : Nat} {m : Mc} {ns : List Int}
theorem q81 {i : Nat} (hi : h[k]? = some (.ins 0 (L5 b c e d u))) (n f : Nat) (hf : P81.meth 0 i = some f) (hl : List.lookup i (L5 b c e d u) = none) : umQ (P81.cl n) i (.ob k) h = .ok f := umQ_at _ hi hf hl
/-- session != Session(machine) -/
theorem neq81 (n : Nat) (o : m.ok) {xd : List D} (s : h[k]? = some (.ins 0 (L5 m.d c e d u))) (id : h[d]? = some (.lst [])) : ∃ g, mkD (P81.cl (n + 9)) 0 [m.d] h = .ok (.ob h.length, h ++ g) ∧ cmpC (P81.cl (n + 9)) .ne (.ob k) (.ob h.length) (h ++ g) = .ok (.bl false, h ++ g) := by
  refine ⟨_, mkS_ok S81 (n + 5) o h, ?_⟩
  obtain ⟨g, eg⟩ : ∃ g : Hd, g = [.ins 0 (L5 m.d m.d (h.length + 1) (h.length + 2) (h.length + 3)), .lst [], .lst [], .lst []] := ⟨_, rfl⟩
  rw [← eg]
  have a1 : (h ++ g)[k]? = some (.ins 0 (L5 m.d c e d u)) := by rw [List.getElem?_append_left (get_lt s)]; exact s
  have a2 : (h ++ g)[h.length]? = some (.ins 0 (L5 m.d m.d (h.length + 1) (h.length + 2) (h.length + 3))) := by rw [eg]; simp
  have a3 : (h ++ g)[d]? = some (.lst []) := by rw [List.getElem?_append_left (get_lt id)]; exact id
  have a4 : (h ++ g)[h.length + 2]? = some (.lst []) := by rw [eg, List.getElem?_append_right (by omega)]; simp
  have eq := eqs_ok S81 (n + 8) (c' := m) a1 a2 a3 a4 rfl rfl
  have e1 : eqO (P81.cl (n + 9)) (.ob k) (h ++ g) = some 20 := by simp only [eqO, a1]; rfl
  have e2 : eqB (.ob k) (.ob h.length) (h ++ g) = true := by simp [eqB, a1, a2]
  simp only [cmpC, e1, e2, if_true]
  rw [show (P81.cl (n + 9)).call 20 [.ob k, .ob h.length] (h ++ g) = callF P81 (n + 8 + 1) N81.eq [.ob k, .ob h.length] (h ++ g) from rfl, eq]
  simp [blR]
end
end Mp
set_option maxHeartbeats 4000000
namespace Mp
open PySem
theorem zmul {x : D} (k : Nat) (h1 : k ≤ 1000) (h : Hd) : binD .mul (.tup [x]) (.int (k : Int)) h = .ok (.tup (List.replicate k x), h) := by
  have e : (List.replicate k [x]).flatten = List.replicate k x := by
    induction k with
    | zero => rfl
    | succ k ih => rw [List.replicate_succ, List.flatten_cons, ih (by omega)]; rfl
  have c : (decide ([x] ≠ []) && (decide ((0 : Int) ≤ (k : Int)) && (pr ((k : Int) ≤ 1000) && pr ([x].length ≤ 1000)))) = true := by
    simp only [Bool.and_eq_true, decide_eq_true_eq, pr_eq]
    exact ⟨by simp, by omega, by omega, by simp⟩
  show (if _ then _ else _) = _
  rw [if_pos c, Int.toNat_natCast, e]
/-- behind the loop -/
theorem k81_end (n : Nat) {m : Mc} (o : m.ok) {h : Hd} {k e d u : Nat} (s : Ses h k m.d m.d [] [] [] e d u) (x4 x5 x8 x9 x10 x11 x12 : Option D) (a0 a1 : Option D) :
    ∃ h', evSs (P81.cl (n + 9)) [k81_s6, k81_s7, k81_s8, k81_s9, k81_s10, k81_s11] [a0, a1, some m.d, some (.ob k), none, none, some (.int (m.b : Int)), some (.int (m.rows.length : Int)), x8, x9, x10, x11, x12] h = .rt (.bl true) h' := by
  have r4 := o.r4
  have r1 := o.r1
  have b3 := o.b3
  have b2 := o.b2
  have q9 := q81 s.i (n + 9) 27 (i := 9) rfl rfl
  have mc := mac_ok S81 (n + 8) s.i
  have n1 : cmpD .ne m.d m.d h = .ok false := by rw [ne_pln (pln_mc (n := 36) m) (pln_mc (n := 36) m)]; simp
  have n2 : cmpC (P81.cl (n + 9)) .ne m.d m.d h = .ok (.bl false, h) := by show cmpE (cmpD .ne m.d m.d h) h = _; rw [n1]; rfl
  obtain ⟨g, mk, ne⟩ := neq81 n o (xd := []) s.i s.id
  have s2 : Ses (h ++ g) k m.d m.d [] [] [] e d u := ⟨by rw [List.getElem?_append_left (get_lt s.i)]; exact s.i, by rw [List.getElem?_append_left (get_lt s.ie)]; exact s.ie, by rw [List.getElem?_append_left (get_lt s.id)]; exact s.id, by rw [List.getElem?_append_left (get_lt s.iu)]; exact s.iu, s.ed, s.eu, s.du⟩
  obtain ⟨h2, eh2⟩ : ∃ h2, h2 = h ++ g := ⟨_, rfl⟩
  rw [← eh2] at mk ne s2
  have q10 := q81 s2.i (n + 9) 28 (i := 10) rfl rfl
  have ch : callF P81 (n + 9) 28 [.ob k, .int (1000000000000000000 : Nat)] h2 = _ := chg_ok S81 (n + 6) s2.i o o rfl (t := 1000000000000000000) (Nat.le_refl _)
  rw [chg_self o (by decide)] at ch
  have ch' : callF P81 (n + 9) 28 [.ob k, .int 1000000000000000000] h2 = .ok (.int 0, h2) := ch
  have pw : ∀ h, binD .pow (.int 10) (.int 18) h = .ok (.int 1000000000000000000, h) := fun h => bin_pow (by decide) (by decide) (by decide)
  have t6 : ∀ σ, σ = [a0, a1, some m.d, some (.ob k), none, none, some (.int (m.b : Int)), some (.int (m.rows.length : Int)), x8, x9, x10, x11, x12] → evS (P81.cl (n + 9)) k81_s6 σ h = .nx σ h2 := fun σ es => by
    subst es
    simp [k81_s6, q9, show callF P81 (n + 9) 27 [.ob k] h = _ from mc, n2, mk, ne, q10, pw, ch']
  -- redirect
  have q6 := q81 s2.i (n + 9) 24 (i := 6) rfl rfl
  obtain ⟨h3, rd, s3, fr3, l3⟩ := red_ok S81 (n + 6) s2 (by simp) (by simp) o (s := 0) (x := 0) (t := 0) (by omega) (by omega) (by omega) (by simp)
  rw [redir_self o] at s3
  have rd' : callF P81 (n + 9) 24 [.ob k, .int 0, .int 0, .int 0] h2 = .ok (.non, h3) := rd
  have t7 : ∀ σ, σ = [a0, a1, some m.d, some (.ob k), none, none, some (.int (m.b : Int)), some (.int (m.rows.length : Int)), x8, x9, x10, x11, x12] → evS (P81.cl (n + 9)) k81_s7 σ h2 = .nx σ h3 := fun σ es => by
    subst es
    simp [k81_s7, q6, rd']
  obtain ⟨r, er⟩ : ∃ r, r = List.replicate m.b m.rows.length := ⟨_, rfl⟩
  have rl : r.length = m.b := by rw [er, List.length_replicate]
  have rr : ∀ t ∈ r, t ≤ m.rows.length := fun t ht => by rw [er] at ht; rw [(List.mem_replicate.mp ht).2]; exact Nat.le_refl _
  have nr : List.replicate m.b (D.int (m.rows.length : Int)) = nI r := by rw [er]; simp [nI]
  have zm := zmul (x := .int (m.rows.length : Int)) m.b (by omega) h3
  rw [nr] at zm
  have q9' := q81 s3.i (n + 9) 27 (i := 9) rfl rfl
  have mc' : callF P81 (n + 9) 27 [.ob k] h3 = .ok (m.d, h3) := mac_ok S81 (n + 8) s3.i
  by_cases c4 : m.rows.length = 4
  · -- no room
    have al : (nI r).all (fun x => btw x 0 (m.rows.length : Int)) = true := by
      rw [List.all_eq_true]
      intro x hx
      obtain ⟨t, ht, rfl⟩ := List.mem_map.mp hx
      have := rr t ht
      simp [btw]
      omega
    have a4 := add_e4 S81 (n + 4) s3.i (xs := nI r) (y := .int 2) (by rw [nI_len, rl]) (fun x hx => by obtain ⟨t, _, rfl⟩ := List.mem_map.mp hx; rfl) al rfl rfl c4
    have o1 := out81 (n := n + 7) (by decide) (by decide) (call81 (z := .int 0) (n + 7) s3.i (.inr (.inr (.inl ⟨rfl, a4⟩))))
    have o1' : callF P81 (n + 9) 10 [.int 2, .tup [.ob k, .tup (nI r), .int 2, .int 0]] h3 = .ok (.tup [sRai, .int 15], h3) := o1
    have t8 : evS (P81.cl (n + 9)) k81_s8 [a0, a1, some m.d, some (.ob k), none, none, some (.int (m.b : Int)), some (.int (m.rows.length : Int)), x8, x9, x10, x11, x12] h3 = .nx [a0, a1, some m.d, some (.ob k), some (.tup [sRai, .int 15]), none, some (.int (m.b : Int)), some (.int (m.rows.length : Int)), x8, x9, x10, x11, x12] h3 := by
      simp [k81_s8, zm, o1']
    have rs : callF P81 (n + 9) 12 [.str [108, 97, 114, 103, 101]] h3 = .ok (.tup [sRai, .int 15], h3) := raises_ok (P := P81) (f := 12) rfl (n + 8) rfl (j := 15) rfl h3
    have e1 : cmpD .eq (.tup [sRai, .int 15]) (.tup [sRai, .int 15]) h3 = .ok true := by rw [eq_pln rfl rfl]; simp
    have e2 : cmpC (P81.cl (n + 9)) .eq m.d m.d h3 = .ok (.bl true, h3) := by
      show cmpE (cmpD .eq m.d m.d h3) h3 = _
      rw [eq_pln (pln_mc (n := 36) m) (pln_mc (n := 36) m)]; simp
    have t9 : evS (P81.cl (n + 9)) k81_s9 [a0, a1, some m.d, some (.ob k), some (.tup [sRai, .int 15]), none, some (.int (m.b : Int)), some (.int (m.rows.length : Int)), x8, x9, x10, x11, x12] h3 = .rt (.bl true) h3 := by
      simp [k81_s9, c4, rs, e1, q9', mc', e2]
    exact ⟨h3, (step (t6 _ rfl)).trans ((step (t7 _ rfl)).trans ((step t8).trans (stepR t9)))⟩
  · obtain ⟨h4, ad, s4, fr4, l4⟩ := add_ok S81 (n + 4) s3 (by simp) (by simp) o (r := r) (l := 2) rl rr (by omega) (by omega)
    have ad' : callF P81 (n + 7) 26 [.ob k, .tup (nI r), .int 2] h3 = .ok (.non, h4) := ad
    have g4 : ∀ x, gc h3 x h4 = (x, h4) := fun x => gc_ses s3.i s4.i (get_lt s3.iu) (Nat.le_refl _)
    have q8 := q81 s3.i (n + 7) 26 (i := 8) rfl rfl
    have c1 : callF P81 (n + 7 + 1) 15 [.int 2, .tup [.ob k, .tup (nI r), .int 2, .int 0]] h3 = .ok (.non, h4) := by
      rw [callF_at (d := b__law_call81) rfl rfl]
      simp [b__law_call81, q8, ad', g4]
    have o1 : callF P81 (n + 9) 10 [.int 2, .tup [.ob k, .tup (nI r), .int 2, .int 0]] h3 = .ok (.tup [sRet, .non], h4) := by
      rw [outcome_ret (P := P81) (f := 10) (fc := 15) (fn := 11) rfl (n + 8) c1, g4]
    have t8 : evS (P81.cl (n + 9)) k81_s8 [a0, a1, some m.d, some (.ob k), none, none, some (.int (m.b : Int)), some (.int (m.rows.length : Int)), x8, x9, x10, x11, x12] h3 = .nx [a0, a1, some m.d, some (.ob k), some (.tup [sRet, .non]), none, some (.int (m.b : Int)), some (.int (m.rows.length : Int)), x8, x9, x10, x11, x12] h4 := by
      simp [k81_s8, zm, o1]
    have t9 : evS (P81.cl (n + 9)) k81_s9 [a0, a1, some m.d, some (.ob k), some (.tup [sRet, .non]), none, some (.int (m.b : Int)), some (.int (m.rows.length : Int)), x8, x9, x10, x11, x12] h4 = .nx [a0, a1, some m.d, some (.ob k), some (.tup [sRet, .non]), none, some (.int (m.b : Int)), some (.int (m.rows.length : Int)), x8, x9, x10, x11, x12] h4 := by
      have : ¬ ((m.rows.length : Int) = 4) := by omega
      simp [k81_s9, this]
    have zm4 := zmul (x := .int (m.rows.length : Int)) m.b (by omega) h4
    rw [nr] at zm4
    have p1 := tupadd (xs := rD' m.rows) (ys := [.tup (nI r)]) h4 (by rw [rows_len]; simp; omega)
    have p2 := tupadd (xs := nI m.lets) (ys := [.int 2]) h4 (by rw [nI_len, o.ll]; simp; omega)
    have em : D.tup [.int (m.b : Int), .tup (rD' m.rows ++ [.tup (nI r)]), .tup (nI m.lets ++ [.int 2])] = (m.more r 2).d := by simp [Mc.d, Mc.more, rD', nI]
    have t10 : evS (P81.cl (n + 9)) k81_s10 [a0, a1, some m.d, some (.ob k), some (.tup [sRet, .non]), none, some (.int (m.b : Int)), some (.int (m.rows.length : Int)), x8, x9, x10, x11, x12] h4 = .nx [a0, a1, some m.d, some (.ob k), some (.tup [sRet, .non]), some (m.more r 2).d, some (.int (m.b : Int)), some (.int (m.rows.length : Int)), x8, x9, x10, x11, x12] h4 := by
      rw [← em]
      simp [k81_s10, Mc.ix1, Mc.ix2, zm4, p1, p2]
    have q9'' := q81 s4.i (n + 9) 27 (i := 9) rfl rfl
    have mc'' : callF P81 (n + 9) 27 [.ob k] h4 = .ok ((m.more r 2).d, h4) := mac_ok S81 (n + 8) s4.i
    have e1 : cmpD .eq (.tup [sRet, .non]) (.tup [sRet, .non]) h4 = .ok true := by rw [eq_pln rfl rfl]; simp
    have e2 : cmpC (P81.cl (n + 9)) .eq (m.more r 2).d (m.more r 2).d h4 = .ok (.bl true, h4) := by
      show cmpE (cmpD .eq (m.more r 2).d (m.more r 2).d h4) h4 = _
      rw [eq_pln (pln_mc (n := 36) _) (pln_mc (n := 36) _)]; simp
    have q11 := q81 s4.i (n + 9) 29 (i := 11) rfl rfl
    obtain ⟨h5, ud, _⟩ := und_ok S81 (n + 8) (xe := [m.d]) (xd := [opRed 0 0 0]) (nm := .str [97, 100, 100, 95, 115, 116, 97, 116, 101]) (xs := [.tup [.tup (nI r), .int 2]]) s4 (by
      have := plns_nI (n := 35) r
      simp [plns, pln, opRed, this]) (by simp) rfl
    have ud' : callF P81 (n + 9) 29 [.ob k] h4 = .ok (.str [97, 100, 100, 95, 115, 116, 97, 116, 101], h5) := ud
    have e3 : cmpD .eq (.str [97, 100, 100, 95, 115, 116, 97, 116, 101]) (.str [97, 100, 100, 95, 115, 116, 97, 116, 101]) h5 = .ok true := by rw [eq_pln rfl rfl]; simp
    have t11 : evS (P81.cl (n + 9)) k81_s11 [a0, a1, some m.d, some (.ob k), some (.tup [sRet, .non]), some (m.more r 2).d, some (.int (m.b : Int)), some (.int (m.rows.length : Int)), x8, x9, x10, x11, x12] h4 = .rt (.bl true) h5 := by
      have sr : D.str [114, 101, 116, 117, 114, 110, 101, 100] = sRet := rfl
      simp [k81_s11, sr, e1, q9'', mc'', e2, q11, ud', e3]
    exact ⟨h5, (step (t6 _ rfl)).trans ((step (t7 _ rfl)).trans ((step t8).trans ((step t9).trans ((step t10).trans (stepR t11)))))⟩
end Mp
set_option maxHeartbeats 4000000
namespace Mp
open PySem
theorem gc_bl_an {h0 h : Hd} {b : Bool} : gc h0 (.bl b) h = (.bl b, (gc h0 (.bl b) h).2) := by
  unfold gc
  split
  · simp
  · rfl
theorem k81_ok (n : Nat) (ns : List Int) (hn : ns.length ≤ 63) : ∃ h', callF P81 (n + 10) 17 [.ob 0] [scrD ns] = .ok (.bl true, h') := by
  rw [callF_at (P := P81) (f := 17) (d := b_k81_law) rfl rfl]
  have e1 := law_town_ok (P := P81) (f := 8) rfl (n + 8) hn
  obtain ⟨h0, eh0⟩ : ∃ h0 : Hd, h0 = [scrD ns, .lst (.int 0 :: ns.map D.int)] := ⟨_, rfl⟩
  have bs : Base ns h0 1 := by rw [eh0]; exact ⟨hn, rfl, by decide, by simp⟩
  have t0 : Twn ns.length 1 (.int 0 :: ns.map D.int) := ⟨0, ns, rfl, rfl, by decide⟩
  rw [← eh0] at e1
  have st1 : evS (P81.cl (n + 9)) k81_s1 [some (.ob 0), none, none, none, none, none, none, none, none, none, none, none, none] [scrD ns] = .nx [some (.ob 0), some (.ob 1), none, none, none, none, none, none, none, none, none, none, none] h0 := by simp [k81_s1, e1]
  obtain ⟨m, zs', o, hm4, tz, e2⟩ := machine_ok (P := P81) (f := 13) (fd := 9) (fi := 14) rfl rfl rfl (n + 6) bs t0 (by decide) (most := 4) (by decide) (by decide) (by rw [eh0]; rfl)
  obtain ⟨h1, eh1⟩ : ∃ h1 : Hd, h1 = h0.set 1 (.lst zs') := ⟨_, rfl⟩
  rw [← eh1] at e2
  rw [show ((4 : Nat) : Int) = 4 from rfl] at e2
  have st2 : evS (P81.cl (n + 9)) k81_s2 [some (.ob 0), some (.ob 1), none, none, none, none, none, none, none, none, none, none, none] h0 = .nx [some (.ob 0), some (.ob 1), some m.d, none, none, none, none, none, none, none, none, none, none] h1 := by simp [k81_s2, e2]
  have st3 : evS (P81.cl (n + 9)) k81_s3 [some (.ob 0), some (.ob 1), some m.d, none, none, none, none, none, none, none, none, none, none] h1 = .nx [some (.ob 0), some (.ob 1), some m.d, none, none, none, some (.int (m.b : Int)), some (.int (m.rows.length : Int)), none, none, none, none, none] h1 := by simp [k81_s3, Mc.ix0, Mc.ix1, len_tp, rows_len]
  have mk := mkS_ok S81 (n + 5) o h1
  obtain ⟨h2, eh2⟩ : ∃ h2 : Hd, h2 = h1 ++ [.ins 0 (L5 m.d m.d (h1.length + 1) (h1.length + 2) (h1.length + 3)), .lst [], .lst [], .lst []] := ⟨_, rfl⟩
  rw [← eh2] at mk
  have mk' : mkD (P81.cl (n + 9)) 0 [m.d] h1 = .ok (.ob h1.length, h2) := mk
  have s2 : Ses h2 h1.length m.d m.d [] [] [] (h1.length + 1) (h1.length + 2) (h1.length + 3) := by
    rw [eh2]
    refine ⟨by simp, ?_, ?_, ?_, by omega, by omega, by omega⟩ <;> (rw [List.getElem?_append_right (by omega)]; simp)
  have st4 : evS (P81.cl (n + 9)) k81_s4 [some (.ob 0), some (.ob 1), some m.d, none, none, none, some (.int (m.b : Int)), some (.int (m.rows.length : Int)), none, none, none, none, none] h1 = .nx [some (.ob 0), some (.ob 1), some m.d, some (.ob h1.length), none, none, some (.int (m.b : Int)), some (.int (m.rows.length : Int)), none, none, none, none, none] h2 := by simp [k81_s4, mk']
  have b2 := o.b2
  obtain ⟨h3, i, w1, w2, e5, ac⟩ := rows_ok (P := P81) (f := 16) rfl (n + 8) (b := m.b) (n := m.rows.length) (by omega) o.b3 h2
  have s3 : Ses h3 h1.length m.d m.d [] [] [] (h1.length + 1) (h1.length + 2) (h1.length + 3) := ⟨ac.pre.get s2.i, ac.pre.get s2.ie, ac.pre.get s2.id, ac.pre.get s2.iu, s2.ed, s2.eu, s2.du⟩
  have bad := bad81 o (n + 3) s3.i (ac.pin (w1, .lst (zs m.b)) (by simp)).1 (ac.pin (w2, .lst [.int 0]) (by simp)).1
  obtain ⟨σ', h4, st5, y8, y9, y10, y11, y12, rfl, rfl, _⟩ := ev_for (C := P81.cl (n + 9)) (t := .tp [(.nm 8), (.nm 9), (.nm 10), (.nm 11), (.nm 12)]) (it := (.sq (.call 16 [(.v 6), (.v 7)]))) (b := [(.ite (.cmp .ne (.call 10 [(.v 8), (.tup [(.v 3), (.v 9), (.v 10), (.v 11)])]) (.call 12 [(.v 12)])) [(.ret (.c (.bl false)))] [])])
    (σ := [some (.ob 0), some (.ob 1), some m.d, some (.ob h1.length), none, none, some (.int (m.b : Int)), some (.int (m.rows.length : Int)), none, none, none, none, none]) (h := h2) (h1 := h3) (q := .l (some i) (rows81 m.b m.rows.length w1 w2)) (l := rows81 m.b m.rows.length w1 w2) (φ := id)
    (fun l σ h => ∃ y8 y9 y10 y11 y12, σ = [some (.ob 0), some (.ob 1), some m.d, some (.ob h1.length), none, none, some (.int (m.b : Int)), some (.int (m.rows.length : Int)), y8, y9, y10, y11, y12] ∧ h = h3 ∧ ∀ r ∈ l, r ∈ rows81 m.b m.rows.length w1 w2)
    (by
      have qi : qs (R.ok (Rv.v (.ob i), h3)) = .ok (.l (some i) (rows81 m.b m.rows.length w1 w2), h3) := qs_ob ac.at_
      have e5' : callF P81 (n + 9) 16 [.int (m.b : Int), .int (m.rows.length : Int)] h2 = .ok (.ob i, h3) := e5
      simp only [evI_sq, evR_call, evEs_cons, evEs_nil, evR_v, getV_z, getV_s, R.ok_bind, vl_v, callD, Pg.cl_call, e5', rv_ok, qi, items_l, lockH_l, List.map_id])
    (fun r l σ h ⟨y8, y9, y10, y11, y12, es, eh, hm⟩ => by
      subst es; subst eh
      obtain ⟨σ1, a1, a2, z8, z9, z10, z11, z12, es⟩ := turn81 n (bad r (hm r List.mem_cons_self)) [] y8 y9 y10 y11 y12 (a0 := some (.ob 0)) (a1 := some (.ob 1)) (a2 := some m.d) (a4 := none) (a5 := none) (a6 := some (.int (m.b : Int))) (a7 := some (.int (m.rows.length : Int)))
      refine ⟨σ1, σ1, _, a1, .inl a2, by simp [still, ac.at_], z8, z9, z10, z11, z12, es, rfl, fun r' hr' => hm r' (List.mem_cons_of_mem _ hr')⟩)
    ⟨none, none, none, none, none, rfl, rfl, fun r hr => hr⟩
  obtain ⟨h5, fin⟩ := k81_end n o s3 none none y8 y9 y10 y11 y12 (some (.ob 0)) (some (.ob 1))
  have body : evSs (P81.cl (n + 9)) b_k81_law.body (start b_k81_law [.ob 0]) [scrD ns] = .rt (.bl true) h5 :=
    (step st1).trans ((step st2).trans ((step st3).trans ((step st4).trans ((step st5).trans fin))))
  rw [body]
  exact ⟨_, congrArg R.ok gc_bl_an⟩
end Mp
set_option maxHeartbeats 0
namespace Cl
open PySem PySem.Spec PyProof.Rows L2 Mp
def top (i : Nat) : Stmt := PySem.Challenge.pw_digitrows_k81_session_ends.main.body.getD i (.Pass ⟨0, 0, 0, 0⟩)
def md : Mp.Mg where
  fns := [("is_between", 0), ("is_machine", 1), ("check_machine", 2), ("check_number", 3), ("check_letter", 4), ("digits_of", 5), ("block_sums", 6), ("prefix_sum", 7), ("_law_town", 8), ("_law_draw", 9), ("_law_outcome", 10), ("_law_name", 11), ("_law_raises", 12), ("_law_machine", 13), ("_law_machine_in", 14), ("_law_call", 15), ("_law_rows", 16), ("law", 17)]
  exs := [("RowError", 0), ("InvalidMachine", 1), ("InvalidNumber", 2), ("InvalidLetter", 3), ("InvalidWeights", 4), ("InvalidShift", 5), ("InvalidDigits", 6), ("InvalidLength", 7), ("InvalidWord", 8), ("InvalidPeriod", 9), ("InvalidLevel", 10), ("InvalidSamples", 11), ("InvalidLimit", 12), ("InvalidState", 13), ("InvalidText", 14), ("Unlike", 15), ("TooLarge", 16), ("Contradiction", 17), ("NothingToUndo", 18)]
  intc := [("MOST", 4), ("LIMIT", 1000000000000000000)]
  strc := []
  free := ["len", "isinstance", "tuple", "enumerate", "int", "range", "bool", "all", "divmod", "list", "sum", "ValueError"]
  cls := [("Session", 0)]
  an := ["__init__", "__len__", "__eq__", "__str__", "check_state", "perform", "redirect", "relabel", "add_state", "machine", "changed", "undo", "redo", "begun", "current", "earlier", "done", "undone"]
def dts : List Mp.Dt := ([⟨"is_between", top 23, ["value", "low", "high"], ["value", "low", "high"], "is_between", none⟩,
  ⟨"is_machine", top 24, ["value"], ["value", "row", "base", "rows", "letters", "letter", "target"], "is_machine", none⟩,
  ⟨"check_machine", top 25, ["value"], ["value"], "check_machine", none⟩,
  ⟨"check_number", top 26, ["value"], ["value"], "check_number", none⟩,
  ⟨"check_letter", top 27, ["value"], ["value"], "check_letter", none⟩,
  ⟨"digits_of", top 28, ["base", "n"], ["base", "n", "found", "digit"], "digits_of", none⟩,
  ⟨"block_sums", top 30, ["rows", "weights", "most"], ["rows", "weights", "most", "table", "level", "last", "row", "target"], "block_sums", none⟩,
  ⟨"prefix_sum", top 31, ["rows", "weights", "digits"], ["rows", "weights", "digits", "table", "state", "total", "place", "digit", "below", "target"], "prefix_sum", none⟩,
  ⟨"_law_town", top 35, ["_law_script"], ["_law_script"], "_law_town", none⟩,
  ⟨"_law_draw", top 36, ["_law_script", "_law_town_here", "_law_limit"], ["_law_script", "_law_town_here", "_law_limit", "_law_at", "_law_left", "_law_number"], "_law_draw", none⟩,
  ⟨"_law_outcome", top 37, ["_law_way", "_law_arguments"], ["_law_way", "_law_arguments", "_law_caught", "_law_result", "error"], "_law_outcome", none⟩,
  ⟨"_law_name", top 38, ["_law_caught"], ["_law_caught", "_law_found"], "_law_name", none⟩,
  ⟨"_law_raises", top 39, ["_law_name_here"], ["_law_name_here", "_law_names"], "_law_raises", none⟩,
  ⟨"_law_machine", top 40, ["_law_script", "_law_town_here", "_law_most"], ["_law_script", "_law_town_here", "_law_most", "_law_base"], "_law_machine", none⟩,
  ⟨"_law_machine_in", top 41, ["_law_script", "_law_town_here", "_law_most", "_law_base"], ["_law_script", "_law_town_here", "_law_most", "_law_base", "_law_size", "_law_rows_here", "_law_state", "_law_kinds", "_law_digit"], "_law_machine_in", none⟩,
  ⟨"_law_call", top 42, ["_law_way", "_law_arguments"], ["_law_way", "_law_arguments", "_law_session", "_law_one", "_law_two", "_law_three"], "_law_call", none⟩,
  ⟨"_law_rows", top 43, ["_law_base", "_law_size"], ["_law_base", "_law_size", "_law_rows_here", "_law_bad", "_law_rest"], "_law_rows", none⟩,
  ⟨"law", top 44, ["_law_script"], ["_law_script", "_law_town_here", "_law_machine_here", "_law_session", "_law_outcome_here", "_law_later", "_law_base", "_law_size", "_law_way", "_law_one", "_law_two", "_law_three", "_law_name_here"], "law", none⟩,
  ⟨"__init__", inCls (top 33) 0, ["self", "machine"], ["self", "machine"], "Session.__init__", some "Session"⟩,
  ⟨"__len__", inCls (top 33) 1, ["self"], ["self"], "Session.__len__", some "Session"⟩,
  ⟨"__eq__", inCls (top 33) 2, ["self", "other"], ["self", "other"], "Session.__eq__", some "Session"⟩,
  ⟨"__str__", inCls (top 33) 3, ["self"], ["self"], "Session.__str__", some "Session"⟩,
  ⟨"check_state", inCls (top 33) 4, ["self", "state", "more"], ["self", "state", "more"], "Session.check_state", some "Session"⟩,
  ⟨"perform", inCls (top 33) 5, ["self", "machine", "operation"], ["self", "machine", "operation"], "Session.perform", some "Session"⟩,
  ⟨"redirect", inCls (top 33) 6, ["self", "state", "digit", "target"], ["self", "state", "digit", "target", "row", "later", "base", "rows", "letters"], "Session.redirect", some "Session"⟩,
  ⟨"relabel", inCls (top 33) 7, ["self", "state", "letter"], ["self", "state", "letter", "base", "rows", "letters"], "Session.relabel", some "Session"⟩,
  ⟨"add_state", inCls (top 33) 8, ["self", "targets", "letter"], ["self", "targets", "letter", "target", "base", "rows", "letters"], "Session.add_state", some "Session"⟩,
  ⟨"machine", inCls (top 33) 9, ["self"], ["self"], "Session.machine", some "Session"⟩,
  ⟨"changed", inCls (top 33) 10, ["self", "total"], ["self", "total", "size", "pairs", "marks", "base", "rows", "letters", "p", "row", "q", "other", "digit"], "Session.changed", some "Session"⟩,
  ⟨"undo", inCls (top 33) 11, ["self"], ["self", "operation"], "Session.undo", some "Session"⟩] : List (Mp.Dt)) ++ ([⟨"redo", inCls (top 33) 12, ["self"], ["self", "operation", "machine"], "Session.redo", some "Session"⟩] : List (Mp.Dt))
def tx : Mp.Tx := ⟨md, dts, ["RowError", "InvalidMachine", "InvalidNumber", "InvalidLetter", "InvalidWeights", "InvalidShift", "InvalidDigits", "InvalidLength", "InvalidWord", "InvalidPeriod", "InvalidLevel", "InvalidSamples", "InvalidLimit", "InvalidState", "InvalidText", "Unlike", "TooLarge", "Contradiction", "NothingToUndo"], ["Session"], [(0, 0, 18), (0, 1, 19), (0, 2, 20), (0, 3, 21), (0, 4, 22), (0, 5, 23), (0, 6, 24), (0, 7, 25), (0, 8, 26), (0, 9, 27), (0, 10, 28), (0, 11, 29), (0, 12, 30)], [(0, 13), (0, 14), (0, 15), (0, 16), (0, 17)]⟩
def dfs : List Df := dfs81
def pg : Pg := P81
def depth : Nat := 10
theorem law_run (ns : List Int) (hn : ns.length ≤ 63) : ∃ h', callF pg 10 17 [.ob 0] [.scr (ns.map .int)] = .ok (.bl true, h') := k81_ok 0 ns hn

theorem df_of {ds : List Dt} {dfs : List Df} {M : Mg} {n : Nat} (e : ds.map (trD M n) = dfs.map some) {f : Nat} {df : Df} (h : dfs[f]? = some df) : ∃ (d : Dt) (n : Nat), ds[f]? = some d ∧ trD M n d = some df := by
  have e2 : (ds.map (trD M n))[f]? = (dfs.map some)[f]? := by rw [e]
  rw [List.getElem?_map, List.getElem?_map, h] at e2
  obtain ⟨d, h1, h2⟩ := mpp e2
  exact ⟨d, n, h1, h2⟩
theorem dfs_ok : tx.ds.map (trD tx.M 60) = dfs.map some := by kernel_rfl
theorem tx_ok : tx.ok = true := by kernel_rfl
theorem sub_ok : pg.sub = tx.sub := rfl
theorem meth_ok : pg.meth = tx.meth := rfl
theorem noat_ok : pg.noat = tx.noat := rfl
def lawd : Dt := tx.ds.getD 17 ⟨"law", top 0, [], [], "law", none⟩
abbrev R : PySem.W.OpenRow := PySem.W.OpenLaw.row PySem.Challenge.rw_digitrows_k81_session_ends
abbrev hk : PySem.W.Hook := He.hookX 6 tx.fa tx.fn [] [] tx.ex
def ob (s : PySem.W.SharedT) : He.AlX := He.obsX 6 tx.fa tx.fn [] [] tx.ex (HandSHeadRun.getT s)
theorem ob_eq (s : PySem.W.SharedT) : ob s = hk.obs s.abs := He.obsX_eq (HandSHeadRun.getT_eq s)
def loose : List Str := (["RowError", "InvalidMachine", "InvalidNumber", "InvalidLetter", "InvalidWeights", "InvalidShift", "InvalidDigits", "InvalidLength", "InvalidWord", "InvalidPeriod", "InvalidLevel", "InvalidSamples", "InvalidLimit", "InvalidState", "InvalidText", "Unlike", "TooLarge", "Contradiction", "NothingToUndo", "MOST", "LIMIT", "is_between", "is_machine", "check_machine", "check_number", "check_letter", "digits_of", "block_sums", "prefix_sum", "Session"] : List Str) ++ (["_law_town", "_law_draw", "_law_outcome", "_law_name", "_law_raises", "_law_machine", "_law_machine_in", "_law_call", "_law_rows"] : List Str)
theorem run (w : World) : HandSHeadRun.RunEq R (PySem.W.view R.prog [44]) hk ob 8000 loose w := by
  intro os
  kernel_rfl
end Cl
open PySem PySem.W PySem.Calls PyProof.Rows
theorem PySem.Challenge.cw_digitrows_k81_session_ends_holds : PySem.Challenge.rw_digitrows_k81_session_ends.Holds := by
  w_on; o_law
  refine HandSHeadRun.head_any (r := OpenLaw.row PySem.Challenge.rw_digitrows_k81_session_ends) (q := view (OpenLaw.row PySem.Challenge.rw_digitrows_k81_session_ends).prog [44]) (H := Cl.hk) (ob := Cl.ob) (M := 8000) (loose := Cl.loose) (d := HandSHeadRun.topDef (OpenLaw.row PySem.Challenge.rw_digitrows_k81_session_ends).prog 44) (kwd := []) Cl.ob_eq
    (by kernel_rfl) (fun s => by kernel_rfl) Cl.run (by kernel_rfl) (by kernel_rfl) (by kernel_rfl) (by rfl) (by first | assumption | decide +kernel) (by decide +kernel) ⟨rfl, rfl, rfl, rfl, rfl, by decide +kernel⟩ ?hw ?hc
  case hw => w_witness2
  case hc =>
    refine Mp.walk_ofW (l := PySem.Challenge.rw_digitrows_k81_session_ends) (n := 63) (k := 2 * Cl.depth) (x := "_law_script") (CX := fun w => L2.CX (PySem.Challenge.rw_digitrows_k81_session_ends).prog w) rfl (by decide) (by kernel_rfl) ⟨rfl, by decide, by decide⟩ ?F (fun _ _ _ _ _ => Mp.noCX)
    intro w mg fa h Y G hmg0
    obtain ⟨K, KX, c⟩ := Y
    have hmg : mg (Cl.lawd.name) = some (.ref fa) := by
      have e : (HandSHeadRun.topDef (OpenLaw.row PySem.Challenge.rw_digitrows_k81_session_ends).prog 44).name = Cl.lawd.name := by kernel_rfl
      rw [← e]
      exact hmg0
    exact Mp.law_facts (t := Cl.tx) (P := Cl.pg) (n := Cl.depth) (f := 17) (d := Cl.lawd) (x := "_law_script") KX G hmg c (by decide) Cl.sub_ok Cl.meth_ok Cl.noat_ok Cl.tx_ok (fun f df h => Cl.df_of Cl.dfs_ok h) rfl rfl (by kernel_rfl) Cl.law_run
