import PyProof.Rows.All
import Wide.All
import OpenK.AllK
import Wide.FinOn
import HandS.ForMost
import HandS.Exc
import HandS.ExcOwn
import HandS.Flow
import HandS.TupAny
import HandS.TupMul
import HandS.Deep
import HandS.Style
import HandS.TupLe
import HandS.Text
import HandS.Dict
import HandS.IsInst
import HandS.WordsDict
import HandS.ExcCtx
import HandS.Property
import HandS.OwnEq
import KE.KCallOwn
import PyProof.ReprNest
import PyProof.PureStr
import HandS.Zip
import HandS.Iter
import HandS.Star
import HandS.Codes
import HandS.Strs
import HandS.Small
import HandS.Call
import HandS.Defaults
import HandS.HeadEnd
import HandS.HeadHook2
import HandS.Head2
import KE.KStateDown
import HandS.Head0
import HandS.Head1
import HandS.HeadWalk
import PySem.Challenge.RW_cornerhall_k39_whole_rows_by_answers
set_option Elab.async false
set_option linter.all false
/-! Core: a small language with a store, and its interpreter. Pure Lean. -/
set_option maxRecDepth 10000
namespace Mi

/-- data: what a name may hold. tup: by value; loc: an object of the store; glo: a def or class of the program's top -/
inductive D where
  | non | bl (b : Bool) | int (i : Int) | str (s : List Nat) | tup (l : List D) | loc (n : Nat) | glo (g : Nat) | ty (n : String)
  deriving Repr, Inhabited

mutual
def D.beq : D → D → Bool
  | .non, .non => true
  | .bl a, .bl b => a == b
  | .int a, .int b => a == b
  | .str a, .str b => a == b
  | .tup a, .tup b => D.beqs a b
  | .loc a, .loc b => a == b
  | .glo a, .glo b => a == b
  | .ty a, .ty b => a == b
  | _, _ => false
def D.beqs : List D → List D → Bool
  | [], [] => true
  | a :: r, b :: s => D.beq a b && D.beqs r s
  | _, _ => false
end
mutual
theorem D.beq_eq : ∀ (a b : D), D.beq a b = true → a = b
  | .non, b, h => by cases b <;> simp_all [D.beq]
  | .bl a, b, h => by cases b <;> simp_all [D.beq]
  | .int a, b, h => by cases b <;> simp_all [D.beq]
  | .str a, b, h => by cases b <;> simp_all [D.beq]
  | .tup a, b, h => by
    cases b with
    | tup c =>
      simp only [D.beq] at h
      rw [D.beqs_eq a c h]
    | _ => simp [D.beq] at h
  | .loc a, b, h => by cases b <;> simp_all [D.beq]
  | .glo a, b, h => by cases b <;> simp_all [D.beq]
  | .ty a, b, h => by cases b <;> simp_all [D.beq]
theorem D.beqs_eq : ∀ (a b : List D), D.beqs a b = true → a = b
  | [], [], _ => rfl
  | [], _ :: _, h => by simp [D.beqs] at h
  | _ :: _, [], h => by simp [D.beqs] at h
  | a :: r, b :: s, h => by
    simp only [D.beqs, Bool.and_eq_true] at h
    rw [D.beq_eq a b h.1, D.beqs_eq r s h.2]
end
mutual
theorem D.beq_refl : ∀ a : D, D.beq a a = true
  | .non => rfl
  | .bl a => by simp [D.beq]
  | .int a => by simp [D.beq]
  | .str a => by simp [D.beq]
  | .tup a => by
    simp only [D.beq]
    exact D.beqs_refl a
  | .loc a => by simp [D.beq]
  | .glo a => by simp [D.beq]
  | .ty a => by simp [D.beq]
theorem D.beqs_refl : ∀ a : List D, D.beqs a a = true
  | [] => rfl
  | a :: r => by
    simp only [D.beqs, Bool.and_eq_true]
    exact ⟨D.beq_refl a, D.beqs_refl r⟩
end
instance : DecidableEq D := fun a b => if h : D.beq a b = true then .isTrue (D.beq_eq a b h) else .isFalse fun e => h (by rw [e]; exact D.beq_refl b)

/-- an object of the store; fls: a list that is only read -/
inductive MO where
  | lst (xs : List D)
  | fls (xs : List D)
  | ins (c : Nat) (fs : List (String × D))
  | dic (kvs : List (D × D))
  | exn (c : Nat) (fs : List (String × D))
  deriving DecidableEq, Repr, Inhabited
abbrev Store := List MO
abbrev Env := List (Option D)

/-- a class: of the program, of Python -/
inductive XC where
  | own (c : Nat) | bi (n : String)
  deriving DecidableEq, Repr, Inhabited
/-- an exception: its class (of the program), its fields -/
structure Exn where
  cls : Nat
  fs : List (String × D)
  deriving DecidableEq, Repr, Inhabited

inductive R (α : Type) where
  | ok (a : α) (S : Store)
  | exc (x : Exn) (S : Store)
  | bad
  deriving Repr, Inhabited
def R.bind {α β : Type} (r : R α) (k : α → Store → R β) : R β :=
  match r with
  | .ok a S => k a S
  | .exc x S => .exc x S
  | .bad => .bad
/-- no exception may leave -/
def R.calm {α : Type} (r : R α) : R α :=
  match r with
  | .ok a S => .ok a S
  | .exc _ _ => .bad
  | .bad => .bad
def lift {α : Type} (o : Option α) (S : Store) : R α :=
  match o with
  | some a => .ok a S
  | none => .bad

/-! ### plain data, as == and repr see it -/
inductive PD where
  | non | bl (b : Bool) | int (i : Int) | str (s : List Nat) | lst (l : List PD) | tup (l : List PD)
  deriving Repr, Inhabited
def mapO {α β : Type} (f : α → Option β) : List α → Option (List β)
  | [] => some []
  | a :: r => match f a with
    | some b => match mapO f r with
      | some bs => some (b :: bs)
      | none => none
    | none => none
/-- the plain data at d (none: an instance, a def, too deep) -/
def pd (S : Store) : Nat → D → Option PD
  | 0, _ => none
  | _ + 1, .non => some .non
  | _ + 1, .bl b => some (.bl b)
  | _ + 1, .int i => some (.int i)
  | _ + 1, .str s => some (.str s)
  | n + 1, .tup l => match mapO (pd S n) l with
    | some xs => some (.tup xs)
    | none => none
  | n + 1, .loc k => match S[k]? with
    | some (.lst l) => match mapO (pd S n) l with
      | some xs => some (.lst xs)
      | none => none
    | some (.fls l) => match mapO (pd S n) l with
      | some xs => some (.lst xs)
      | none => none
    | _ => none
  | _ + 1, _ => none
def deep : Nat := 20
mutual
def PD.eqv : PD → PD → Bool
  | .non, .non => true
  | .bl a, .bl b => a == b
  | .bl a, .int j => (if a then 1 else 0) == j
  | .int i, .bl b => i == (if b then 1 else 0)
  | .int a, .int b => a == b
  | .str a, .str b => a == b
  | .lst a, .lst b => PD.eqvs a b
  | .tup a, .tup b => PD.eqvs a b
  | _, _ => false
def PD.eqvs : List PD → List PD → Bool
  | [], [] => true
  | a :: r, b :: s => PD.eqv a b && PD.eqvs r s
  | _, _ => false
end
def eqD (S : Store) (a b : D) : Option Bool := match pd S deep a with
  | some x => match pd S deep b with
    | some y => some (PD.eqv x y)
    | none => none
  | none => none

/-! ### texts -/
def digitsN (n : Nat) : List Nat := (Nat.toDigits 10 n).map Char.toNat
def digits (i : Int) : List Nat := match i with
  | .ofNat n => digitsN n
  | .negSucc n => 45 :: digitsN (n + 1)
def hexD (n : Nat) : Nat := if n < 10 then 48 + n else 87 + n
def reprC (q c : Nat) : List Nat :=
  if c = q ∨ c = 92 then [92, c]
  else if c = 9 then [92, 116]
  else if c = 10 then [92, 110]
  else if c = 13 then [92, 114]
  else if c < 32 ∨ c = 127 then [92, 120, hexD (c / 16), hexD (c % 16)]
  else [c]
def quoteOf (s : List Nat) : Nat := if s.contains 39 && !s.contains 34 then 34 else 39
def reprS (s : List Nat) : Option (List Nat) := if s.all (· < 128) then some (quoteOf s :: (s.flatMap (reprC (quoteOf s)) ++ [quoteOf s])) else none
def joinS (sep : List Nat) : List (List Nat) → List Nat
  | [] => []
  | [x] => x
  | x :: r => x ++ sep ++ joinS sep r
mutual
def PD.repr : PD → Option (List Nat)
  | .non => some [78, 111, 110, 101]
  | .bl true => some [84, 114, 117, 101]
  | .bl false => some [70, 97, 108, 115, 101]
  | .int i => if i.natAbs < 2 ^ 1000 then some (digits i) else none
  | .str s => reprS s
  | .lst l => match PD.reprs l with
    | some ts => some ([91] ++ joinS [44, 32] ts ++ [93])
    | none => none
  | .tup l => match PD.reprs l with
    | some ts => some ([40] ++ joinS [44, 32] ts ++ (if ts.length = 1 then [44, 41] else [41]))
    | none => none
def PD.reprs : List PD → Option (List (List Nat))
  | [] => some []
  | a :: r => match PD.repr a with
    | some t => match PD.reprs r with
      | some ts => some (t :: ts)
      | none => none
    | none => none
end
def reprD (S : Store) (d : D) : Option (List Nat) := match pd S deep d with
  | some p => p.repr
  | none => none
/-- the pieces between the places where the sign sep stands -/
def splitC (c : Nat) : List Nat → List Nat → List (List Nat)
  | acc, [] => [acc]
  | acc, x :: r => if x = c then acc :: splitC c [] r else splitC c (acc ++ [x]) r
/-- the number that decimal digits write (at least one, and nothing else), a hyphen ahead -/
def natOf : List Nat → Nat → Option Nat
  | [], n => some n
  | c :: r, n => if 48 ≤ c ∧ c ≤ 57 then natOf r (10 * n + (c - 48)) else none
def intOf (s : List Nat) : Option Int := match s with
  | [] => none
  | 45 :: c :: r => match natOf (c :: r) 0 with
    | some n => some (-(n : Int))
    | none => none
  | c :: r => match natOf (c :: r) 0 with
    | some n => some (n : Int)
    | none => none
/-- y stands in x -/
def hasSub (y : List Nat) : List Nat → Bool
  | [] => y.isEmpty
  | c :: r => y.isPrefixOf (c :: r) || hasSub y r

/-! ### operators -/
def szl : Nat := 16777216
inductive Bop where
  | add | sub | mul | fdiv | mod | pow
  deriving DecidableEq, Repr
inductive Cop where
  | eq | ne | lt | le | gt | ge | is | isNot | inn | notIn
  deriving DecidableEq, Repr
def bop (op : Bop) (x y : D) (S : Store) : R D :=
  match op, x, y with
  | .add, .int i, .int j => .ok (.int (i + j)) S
  | .sub, .int i, .int j => .ok (.int (i - j)) S
  | .mul, .int i, .int j => if (-(2 ^ 64) < i ∧ i < 2 ^ 64) ∨ (-(2 ^ 64) < j ∧ j < 2 ^ 64) then .ok (.int (i * j)) S else .bad
  | .fdiv, .int i, .int j => if 0 < j ∧ j < 1073741824 then .ok (.int (i / j)) S else .bad
  | .mod, .int i, .int j => if 0 < j then .ok (.int (i % j)) S else .bad
  | .pow, .int i, .int j => if 0 ≤ j ∧ j ≤ 1000 ∧ i.natAbs < 2 ^ 64 then .ok (.int (i ^ j.toNat)) S else .bad
  | .add, .str a, .str b => if a.length + b.length ≤ szl then .ok (.str (a ++ b)) S else .bad
  | .add, .tup a, .tup b => if a.length + b.length ≤ szl then .ok (.tup (a ++ b)) S else .bad
  | .add, .loc a, .loc b => match S[a]?, S[b]? with
    | some (.lst xs), some (.lst ys) => if xs.length + ys.length ≤ szl then .ok (.loc S.length) (S ++ [.lst (xs ++ ys)]) else .bad
    | _, _ => .bad
  | .mul, .loc a, .int k => match S[a]? with
    | some (.lst xs) => if -(2 ^ 63) ≤ k ∧ k < 2 ^ 63 ∧ xs.length * k.toNat ≤ szl then .ok (.loc S.length) (S ++ [.lst (List.replicate k.toNat xs).flatten]) else .bad
    | _ => .bad
  | .mul, .tup xs, .int k => if -1000 ≤ k ∧ k ≤ 1000 ∧ xs.length ≤ 1000 then .ok (.tup (List.replicate k.toNat xs).flatten) S else .bad
  | _, _, _ => .bad
/-- the truth of a value (of an own instance: not here) -/
def truth (d : D) (S : Store) : Option Bool :=
  match d with
  | .non => some false
  | .bl b => some b
  | .int i => some (i != 0)
  | .str s => if s.length ≤ szl then some (s.length != 0) else none
  | .tup l => some (!l.isEmpty)
  | .loc n => match S[n]? with
    | some (.lst l) => some (!l.isEmpty)
    | some (.fls l) => some (!l.isEmpty)
    | _ => none
  | _ => none
def D.flat : D → Bool
  | .non | .bl _ | .int _ | .str _ => true
  | _ => false
/-- the plain data of some values -/
def pds (S : Store) (l : List D) : Option (List PD) := mapO (pd S deep) l
/-- whether a value is equal to one of a list, a tuple -/
def anyEq (S : Store) (d : D) (l : List D) : Option Bool := match pds S l with
  | some xs => match pd S deep d with
    | some x => some (xs.any fun z => PD.eqv z x)
    | none => none
  | none => none
def itemsOf (S : Store) : D → Option (List D)
  | .tup l => some l
  | .loc n => match S[n]? with
    | some (.lst l) => some l
    | some (.fls l) => some l
    | _ => none
  | _ => none
/-- the items of a list alone -/
def lstOf (S : Store) : D → Option (List D)
  | .loc n => match S[n]? with
    | some (.lst l) => some l
    | some (.fls l) => some l
    | _ => none
  | _ => none
def dicGet (k : D) : List (D × D) → Option D
  | [] => none
  | (a, v) :: r => if a = k then some v else dicGet k r
def D.isKey : D → Bool
  | .int _ | .str _ => true
  | _ => false
def isIn (S : Store) (d e : D) : Option Bool := match e with
  | .str t => match d with
    | .str s => some (hasSub s t)
    | _ => none
  | .loc n => match S[n]? with
    | some (.dic kvs) => if d.isKey then some (dicGet d kvs).isSome else none
    | some (.lst l) => anyEq S d l
    | some (.fls l) => anyEq S d l
    | _ => none
  | .tup l => anyEq S d l
  | _ => none
def cop (op : Cop) (x y : D) (S : Store) : Option Bool :=
  match op with
  | .eq => eqD S x y
  | .ne => (eqD S x y).map (!·)
  | .lt => match x, y with
    | .int i, .int j => some (decide (i < j))
    | .str a, .str b => some (decide (a < b))
    | _, _ => none
  | .le => match x, y with
    | .int i, .int j => some (decide (i ≤ j))
    | .str a, .str b => some (!decide (b < a))
    | _, _ => none
  | .gt => match x, y with
    | .int i, .int j => some (decide (j < i))
    | .str a, .str b => some (decide (b < a))
    | _, _ => none
  | .ge => match x, y with
    | .int i, .int j => some (decide (j ≤ i))
    | .str a, .str b => some (!decide (a < b))
    | _, _ => none
  | .is => match y with
    | .non => some (decide (x = .non))
    | _ => none
  | .isNot => match y with
    | .non => some (!decide (x = .non))
    | _ => none
  | .inn => isIn S x y
  | .notIn => (isIn S x y).map (!·)
/-- a place counted from either end -/
def atIx {α : Type} (xs : List α) (i : Int) : Option α := if 0 ≤ i then xs[i.toNat]? else if 0 ≤ i + xs.length then xs[(i + xs.length).toNat]? else none
def idxD (x i : D) (S : Store) : R D :=
  match x, i with
  | .tup l, .int k => lift (atIx l k) S
  | .str s, .int k => if s.length ≤ szl then lift ((atIx s k).map fun c => .str [c]) S else .bad
  | .loc n, k => match S[n]? with
    | some (.lst l) => match k with
      | .int j => lift (atIx l j) S
      | _ => .bad
    | some (.fls l) => match k with
      | .int j => lift (atIx l j) S
      | _ => .bad
    | some (.dic kvs) => if k.isKey then lift (dicGet k kvs) S else .bad
    | _ => .bad
  | _, _ => .bad
/-- an end of a slice, clipped -/
def clipI (n : Nat) (d : Nat) : Option Int → Nat
  | none => d
  | some v => if v < 0 then (v + (n : Int)).toNat else min v.toNat n
def cutL {α : Type} (xs : List α) (lo hi : Option Int) : List α := (xs.drop (clipI xs.length 0 lo)).take (clipI xs.length xs.length hi - clipI xs.length 0 lo)
/-- every second item -/
def evens {α : Type} : List α → List α
  | [] => []
  | [x] => [x]
  | x :: _ :: r => x :: evens r
/-- the parts of a slice that are served: [lo:hi], [lo::2], [::-1] -/
def stepL {α : Type} (xs : List α) (lo hi : Option Int) (st : Option Int) : Option (List α) :=
  match st with
  | none => some (cutL xs lo hi)
  | some k => if k = -1 then (if lo = none ∧ hi = none then some xs.reverse else none)
    else if k = 2 then (if hi = none then some (evens (cutL xs lo hi)) else none) else none
def sliD (x : D) (lo hi st : Option Int) (S : Store) : R D :=
  match x with
  | .tup l => lift ((stepL l lo hi st).map .tup) S
  | .str s => if s.length ≤ szl then lift ((stepL s lo hi st).map .str) S else .bad
  | .loc n => match S[n]? with
    | some (.lst l) => match stepL l lo hi st with
      | some r => .ok (.loc S.length) (S ++ [.lst r])
      | none => .bad
    | some (.fls l) => match stepL l lo hi st with
      | some r => .ok (.loc S.length) (S ++ [.lst r])
      | none => .bad
    | _ => .bad
  | _ => .bad

/-! ### the program's tables -/
/-- a type that isinstance is asked of -/
inductive Ty where
  | int | bool | str | tuple | list | dict | own (c : Nat)
  deriving DecidableEq, Repr

/-- built-ins called with values -/
inductive Bi where
  | len | isinst (ts : List Ty) | abs | min2 | max2 | minL | maxL | sumL | allL | anyL | int1 | str1 | bool1 | repr1 | list1 | tuple1 | dict1 | sorted1 | divmod | list0 | dict0
  deriving DecidableEq, Repr
/-- methods of built-in types -/
inductive Mb where
  | append | pop0 | pop1 | index | count | join | split | get1 | get2 | extend | upper
  deriving DecidableEq, Repr

mutual
inductive E where
  | int (i : Int) | str (s : List Nat) | bl (b : Bool) | non
  | var (i : Nat)
  | con (d : D)
  | bin (op : Bop) (a b : E)
  | neg (a : E)
  | cmp (op : Cop) (a b : E)
  | cmp2 (o1 o2 : Cop) (a b c : E)
  | andE (a b : E) | orE (a b : E) | notE (a : E)
  | ite (c a b : E)
  | tup (es : Es) | lst (es : Es)
  | idx (a i : E)
  | sli (a : E) (lo hi st : Oe)
  | fld (a : E) (f : String)
  | call (g : Nat) (perm : List Nat) (es : Es)
  | mk (c : Nat) (perm : List Nat) (es : Es)
  | cm (c g : Nat) (perm : List Nat) (es : Es)
  | mth (o : E) (m : String) (perm : List Nat) (es : Es)
  | callv (i : Nat) (es : Es)
  | bi (b : Bi) (es : Es)
  | mb (m : Mb) (o : E) (es : Es)
  | lc (elt : E) (t : Tg) (it : I) (cs : Es) (own : List Nat)
  | ofIt (b : Bi) (it : I)
  | never
inductive Es where
  | nil | cons (e : E) (r : Es) | star (e : E) (r : Es)
inductive Oe where
  | none | some (e : E)
inductive I where
  | val (e : E) | rng1 (a : E) | rng2 (a b : E) | enum (e : E) | zip (a b : E) | items (e : E)
inductive Tg where
  | name (i : Nat) | tup (ts : Tgs) | sub (o i : E) | attr (o : E) (f : String)
inductive Tgs where
  | nil | cons (t : Tg) (r : Tgs)
end
instance : Inhabited E := ⟨.non⟩

mutual
inductive St where
  | expr (e : E)
  | asg (t : Tg) (e : E)
  | aug (i : Nat) (op : Bop) (e : E)
  | ifs (c : E) (a b : Sts)
  | for_ (t : Tg) (it : I) (b : Sts)
  | while_ (c : E) (b : Sts)
  | ret (e : E)
  | raise (c : Nat) (es : Es)
  | try_ (b : Sts) (cs : List Nat) (as : Option Nat) (h : Sts)
  | tryN (b : Sts)
  | pass | brk | cont | never
inductive Sts where
  | nil | cons (s : St) (r : Sts)
end
instance : Inhabited Sts := ⟨.nil⟩

def Tgs.len : Tgs → Nat
  | .nil => 0
  | .cons _ r => r.len + 1
structure Fn where
  np : Nat
  nl : Nat
  body : Sts
  deriving Inhabited
/-- the program: defs by number; of classes: methods, properties, the maker, the fields of an exception, what it is under -/
structure Prg where
  fn : Nat → Option Fn
  fld : Nat → String → Bool
  meth : Nat → String → Option Nat
  prop : Nat → String → Option Nat
  init : Nat → Option Nat
  xfs : Nat → Option (List String)
  sub : Nat → List XC
  ask : (String ⊕ Nat) → Ty → Option Bool
  kws : Nat → Nat → List String → Option (List Nat)

abbrev Cl := Nat → List D → Store → R D

def insCls (S : Store) (n : Nat) : Option (Nat × List (String × D)) := match S[n]? with
  | some (.ins c fs) => some (c, fs)
  | _ => none
def look (f : String) : List (String × D) → Option D
  | [] => none
  | (g, v) :: r => if g = f then some v else look f r
def put (f : String) (v : D) : List (String × D) → List (String × D)
  | [] => [(f, v)]
  | (g, u) :: r => if g = f then (g, v) :: r else (g, u) :: put f v r
/-- the type of a value: of Python (by name), of the program -/
def tyOf (S : Store) (d : D) : Option (String ⊕ Nat) := match d with
  | .non => some (.inl "NoneType")
  | .bl _ => some (.inl "bool")
  | .int _ => some (.inl "int")
  | .str _ => some (.inl "str")
  | .tup _ => some (.inl "tuple")
  | .loc n => match S[n]? with
    | some (.lst _) => some (.inl "list")
    | some (.fls _) => some (.inl "list")
    | some (.dic _) => some (.inl "dict")
    | some (.ins c _) => some (.inr c)
    | _ => none
  | _ => none
/-- whether a value is of a type -/
def isTy (P : Prg) (S : Store) (d : D) (t : Ty) : Option Bool := match tyOf S d with
  | some a => P.ask a t
  | none => none
/-- what is asked of types of Python -/
def askB (a b : String) : Bool := a == b || (a == "bool" && b == "int")
def isAny (P : Prg) (S : Store) (d : D) : List Ty → Option Bool
  | [] => some false
  | t :: r => match isTy P S d t with
    | some true => some true
    | some false => isAny P S d r
    | none => none
def intsOf : List D → Option (List Int)
  | [] => some []
  | .int i :: r => match intsOf r with
    | some l => some (i :: l)
    | none => none
  | _ => none
def blsOf : List D → Option (List Bool)
  | [] => some []
  | .bl i :: r => match blsOf r with
    | some l => some (i :: l)
    | none => none
  | _ => none
def strsOf : List D → Option (List (List Nat))
  | [] => some []
  | .str i :: r => match strsOf r with
    | some l => some (i :: l)
    | none => none
  | _ => none
def least : List Int → Option Int
  | [] => none
  | [a] => some a
  | a :: r => match least r with
    | some b => some (if a ≤ b then a else b)
    | none => none
def most : List Int → Option Int
  | [] => none
  | [a] => some a
  | a :: r => match most r with
    | some b => some (if b ≤ a then a else b)
    | none => none
/-- a pair list laid into a dict, later ones win -/
def dicPut (k v : D) : List (D × D) → List (D × D)
  | [] => [(k, v)]
  | (a, u) :: r => if a = k then (a, v) :: r else (a, u) :: dicPut k v r
def dicOf : List D → List (D × D) → Option (List (D × D))
  | [], acc => some acc
  | .tup [k, v] :: r, acc => if k.isKey then dicOf r (dicPut k v acc) else none
  | _, _ => none
def insSortI (i : Int) : List Int → List Int
  | [] => [i]
  | j :: r => if i ≤ j then i :: j :: r else j :: insSortI i r
def sortI : List Int → List Int
  | [] => []
  | i :: r => insSortI i (sortI r)
def alloc (o : MO) (S : Store) : R D := .ok (.loc S.length) (S ++ [o])

def biLen (P : Prg) (cl : Cl) (d : D) (S : Store) : R D := match d with
  | .tup l => .ok (.int l.length) S
  | .str s => if s.length ≤ szl then .ok (.int s.length) S else .bad
  | .loc n => match S[n]? with
    | some (.lst l) => .ok (.int l.length) S
    | some (.fls l) => .ok (.int l.length) S
    | some (.dic l) => .ok (.int l.length) S
    | some (.ins c _) => match P.meth c "__len__" with
      | some g => (cl g [d] S).calm.bind fun r S => match r with
        | .int i => if 0 ≤ i ∧ i < 2 ^ 31 then .ok (.int i) S else .bad
        | _ => .bad
      | none => .bad
    | _ => .bad
  | _ => .bad
def biAbs (d : D) (S : Store) : R D := match d with
  | .int i => .ok (.int (if i < 0 then -i else i)) S
  | _ => .bad
def biMin2 (d e : D) (S : Store) : R D := match d with
  | .int i => match e with
    | .int j => .ok (.int (if j < i then j else i)) S
    | _ => .bad
  | _ => .bad
def biMax2 (d e : D) (S : Store) : R D := match d with
  | .int i => match e with
    | .int j => .ok (.int (if j > i then j else i)) S
    | _ => .bad
  | _ => .bad
def biInt (d : D) (S : Store) : R D := match d with
  | .int i => .ok (.int i) S
  | .bl b => .ok (.int (if b then 1 else 0)) S
  | .str s => if s.length ≤ 600 then lift ((intOf s).map .int) S else .bad
  | _ => .bad
def biStr (P : Prg) (cl : Cl) (d : D) (S : Store) : R D := match d with
  | .int i => if i.natAbs < 2 ^ 1000 then .ok (.str (digits i)) S else .bad
  | .str s => .ok (.str s) S
  | .loc n => match S[n]? with
    | some (.ins c _) => match P.meth c "__str__" with
      | some g => (cl g [d] S).calm.bind fun r S => match r with
        | .str s => .ok (.str s) S
        | _ => .bad
      | none => .bad
    | _ => .bad
  | _ => .bad
def biBool (P : Prg) (cl : Cl) (d : D) (S : Store) : R D := match d with
  | .loc n => match S[n]? with
    | some (.ins c _) => match P.meth c "__bool__" with
      | some g => (cl g [d] S).calm.bind fun r S => match r with
        | .bl s => .ok (.bl s) S
        | _ => .bad
      | none => .bad
    | _ => lift ((truth d S).map .bl) S
  | _ => lift ((truth d S).map .bl) S
def D.boxed : D → Bool
  | .tup _ | .loc _ => true
  | _ => false
def biRepr (d : D) (S : Store) : R D := match reprD S d with
  | some t => if d.boxed = true ∧ t.length ≤ 4000000 then .ok (.str t) S else .bad
  | none => .bad
def biList (d : D) (S : Store) : R D := match d with
  | .str s => if s.length ≤ szl then alloc (.lst (s.map fun c => .str [c])) S else .bad
  | d => match itemsOf S d with
    | some l => alloc (.lst l) S
    | none => .bad
def biTuple (d : D) (S : Store) : R D := match itemsOf S d with
  | some l => .ok (.tup l) S
  | none => .bad
def biDict (d : D) (S : Store) : R D := match itemsOf S d with
  | some l => match dicOf l [] with
    | some kvs => alloc (.dic kvs) S
    | none => .bad
  | none => .bad
def biDivmod (d e : D) (S : Store) : R D := match d with
  | .int i => match e with
    | .int j => if 0 < j ∧ j < 1073741824 then .ok (.tup [.int (i / j), .int (i % j)]) S else .bad
    | _ => .bad
  | _ => .bad
def biSorted (d : D) (S : Store) : R D := match (lstOf S d).bind intsOf with
  | some l => if l.length < 64 then alloc (.lst ((sortI l).map .int)) S else .bad
  | none => .bad
def bi1 (P : Prg) (cl : Cl) (b : Bi) (d : D) (S : Store) : R D :=
  match b with
  | .len => biLen P cl d S
  | .isinst ts => lift ((isAny P S d ts).map .bl) S
  | .abs => biAbs d S
  | .minL => lift (((itemsOf S d).bind intsOf).bind fun l => (least l).map .int) S
  | .maxL => lift (((itemsOf S d).bind intsOf).bind fun l => (most l).map .int) S
  | .sumL => lift (((lstOf S d).bind intsOf).map fun l => .int l.sum) S
  | .allL => lift (((lstOf S d).bind blsOf).map fun l => .bl (l.all id)) S
  | .anyL => lift (((lstOf S d).bind blsOf).map fun l => .bl (l.any id)) S
  | .int1 => biInt d S
  | .str1 => biStr P cl d S
  | .bool1 => biBool P cl d S
  | .repr1 => biRepr d S
  | .list1 => biList d S
  | .tuple1 => biTuple d S
  | .dict1 => biDict d S
  | .sorted1 => biSorted d S
  | _ => .bad
def bi2 (b : Bi) (d e : D) (S : Store) : R D :=
  match b with
  | .min2 => biMin2 d e S
  | .max2 => biMax2 d e S
  | .divmod => biDivmod d e S
  | _ => .bad
def bi0 (b : Bi) (S : Store) : R D :=
  match b with
  | .list0 => alloc (.lst []) S
  | .dict0 => alloc (.dic []) S
  | _ => .bad
def biE (P : Prg) (cl : Cl) (b : Bi) (ds : List D) (S : Store) : R D :=
  match ds with
  | [] => bi0 b S
  | [d] => bi1 P cl b d S
  | [d, e] => bi2 b d e S
  | _ => .bad
/-- the first place of an equal one -/
def firstEq (S : Store) (d : D) (l : List D) : Option Nat := match pds S l with
  | some xs => match pd S deep d with
    | some x => xs.findIdx? fun z => PD.eqv z x
    | none => none
  | none => none
def mbAppend (o d : D) (S : Store) : R D := match o with
  | .loc n => match S[n]? with
    | some (.lst l) => if l.length < szl then .ok .non (S.set n (.lst (l ++ [d]))) else .bad
    | _ => .bad
  | _ => .bad
def mbPop0 (o : D) (S : Store) : R D := match o with
  | .loc n => match S[n]? with
    | some (.lst l) => match l.getLast? with
      | some d => .ok d (S.set n (.lst l.dropLast))
      | none => .bad
    | _ => .bad
  | _ => .bad
def mbPop1 (o d : D) (S : Store) : R D := match o with
  | .loc n => match S[n]? with
    | some (.lst l) => match d with
      | .int i => if 0 ≤ i ∧ i < 2 ^ 62 then match l[i.toNat]? with
          | some d => .ok d (S.set n (.lst (l.eraseIdx i.toNat)))
          | none => .bad
        else .bad
      | _ => .bad
    | _ => .bad
  | _ => .bad
def mbIndex (o d : D) (S : Store) : R D := match o with
  | .tup l => match d with
    | .str s => match strsOf l with
      | some ts => match ts.findIdx? (fun z => z == s) with
        | some k => .ok (.int k) S
        | none => .bad
      | none => .bad
    | _ => .bad
  | _ => .bad
def mbCount (o d : D) (S : Store) : R D := match d with
  | .bl c => match o with
    | .loc n => match S[n]? with
      | some (.lst l) => match blsOf l with
        | some bs => .ok (.int (bs.count c)) S
        | none => .bad
      | _ => .bad
    | _ => .bad
  | _ => .bad
def mbJoin (o d : D) (S : Store) : R D := match o with
  | .str s => match (itemsOf S d).bind strsOf with
    | some ts => if (joinS s ts).length + ts.length * s.length ≤ 1000000 then .ok (.str (joinS s ts)) S else .bad
    | none => .bad
  | _ => .bad
def mbSplit (o d : D) (S : Store) : R D := match o with
  | .str s => match d with
    | .str [c] => if s.length + 2 ≤ szl ∧ c < 256 then alloc (.lst ((splitC c [] s).map .str)) S else .bad
    | _ => .bad
  | _ => .bad
def mbGet (o k x : D) (S : Store) : R D := match o with
  | .loc n => match S[n]? with
    | some (.dic kvs) => if k.isKey then .ok ((dicGet k kvs).getD x) S else .bad
    | _ => .bad
  | _ => .bad
def mb1 (m : Mb) (o d : D) (S : Store) : R D :=
  match m with
  | .append => mbAppend o d S
  | .pop1 => mbPop1 o d S
  | .index => mbIndex o d S
  | .count => mbCount o d S
  | .join => mbJoin o d S
  | .split => mbSplit o d S
  | .get1 => mbGet o d .non S
  | _ => .bad
def mbE (m : Mb) (o : D) (ds : List D) (S : Store) : R D :=
  match ds with
  | [] => match m with
    | .pop0 => mbPop0 o S
    | _ => .bad
  | [d] => mb1 m o d S
  | [d, e] => match m with
    | .get2 => mbGet o d e S
    | _ => .bad
  | _ => .bad

/-- the type that a method is of -/
def Mb.ty : Mb → String
  | .append | .pop0 | .pop1 | .extend => "list"
  | .index => "tuple"
  | .count => "list"
  | .join | .split | .upper => "str"
  | .get1 | .get2 => "dict"
/-- whether a method is of the value's type -/
def mbOk (m : Mb) (o : D) (S : Store) : Bool := match tyOf S o with
  | some (.inl t) => m.ty == t || (m.ty == "seq" && (t == "list" || t == "tuple"))
  | _ => false

def setAll {α : Type} (xs : List α) (is : List Nat) (v : α) : List α := is.foldl (fun l i => l.set i v) xs
/-- a list's comprehension: f gives the item of a turn, or none where a test fails; gd: what must stand at each turn -/
def lcL (f : D → Store → R (Option D)) (gd : Store → Bool) : List D → List D → Store → R (List D)
  | acc, [], S => if gd S then .ok acc S else .bad
  | acc, d :: r, S => if gd S then match f d S with
      | .ok (some e) S => if acc.length < szl then lcL f gd (acc ++ [e]) r S else .bad
      | .ok none S => lcL f gd acc r S
      | _ => .bad
    else .bad
def same (S : Store) : List (Nat × List D) → Bool
  | [] => true
  | (n, l) :: r => (match S[n]? with
    | some (.lst k) => decide (k = l)
    | some (.fls k) => decide (k = l)
    | _ => false) && same S r
def rangeL (lo hi : Int) : List D := (List.range (hi - lo).toNat).map fun (k : Nat) => .int (lo + k)
def enumL (k : Nat) : List D → List D
  | [] => []
  | d :: r => .tup [.int k, d] :: enumL (k + 1) r
def zipL : List D → List D → List D
  | a :: r, b :: s => .tup [a, b] :: zipL r s
  | _, _ => []
/-- the items that a value gives when it is walked, and what must stand meanwhile -/
def walkD (S : Store) (d : D) : Option (List D × List (Nat × List D)) := match d with
  | .tup l => some (l, [])
  | .str s => some (s.map fun c => .str [c], [])
  | .loc n => match S[n]? with
    | some (.lst l) => some (l, [(n, l)])
    | some (.fls l) => some (l, [(n, l)])
    | _ => none
  | _ => none
def seqD (S : Store) (d : D) : Option (List D × List (Nat × List D)) := match d with
  | .tup l => some (l, [])
  | .loc n => match S[n]? with
    | some (.lst l) => some (l, [(n, l)])
    | some (.fls l) => some (l, [(n, l)])
    | _ => none
  | _ => none
/-- values given in the order written, put into the order of the parameters -/
def permD (perm : List Nat) (ds : List D) : List D := if perm.isEmpty then ds else perm.map fun i => ds.getD i .non
def setIdx (o i v : D) (S : Store) : R Unit := match o with
  | .loc n => match S[n]? with
    | some (.lst l) => match i with
      | .int k => if 0 ≤ k ∧ k.toNat < l.length then .ok () (S.set n (.lst (l.set k.toNat v))) else .bad
      | _ => .bad
    | some (.dic kvs) => if i.isKey ∧ kvs.length < szl then .ok () (S.set n (.dic (dicPut i v kvs))) else .bad
    | _ => .bad
  | _ => .bad
def setFld (P : Prg) (o : D) (f : String) (v : D) (S : Store) : R Unit := match o with
  | .loc n => match S[n]? with
    | some (.ins c fs) => if P.fld c f ∧ fs.length < 900 then .ok () (S.set n (.ins c (put f v fs))) else .bad
    | _ => .bad
  | _ => .bad

section
variable (P : Prg) (cl : Cl)
def cmpD (op : Cop) (x y : D) (S : Store) : R D := lift ((cop op x y S).map .bl) S

mutual
def evE : E → Env → Store → R D
  | .never, _, _ => .bad
  | .int i, _, S => .ok (.int i) S
  | .str s, _, S => .ok (.str s) S
  | .bl b, _, S => .ok (.bl b) S
  | .non, _, S => .ok .non S
  | .var i, env, S => match env[i]? with
    | some (some d) => .ok d S
    | _ => .bad
  | .con d, _, S => .ok d S
  | .bin op a b, env, S => (evE a env S).bind fun x S => (evE b env S).bind fun y S => bop op x y S
  | .neg a, env, S => (evE a env S).bind fun x S => match x with
    | .int i => .ok (.int (-i)) S
    | _ => .bad
  | .cmp op a b, env, S => (evE a env S).bind fun x S => (evE b env S).bind fun y S => cmpD op x y S
  | .cmp2 o1 o2 a b c, env, S => (evE a env S).bind fun x S => (evE b env S).bind fun y S => (lift (cop o1 x y S) S).bind fun k S =>
    if k then (evE c env S).bind fun z S => lift ((cop o2 y z S).map .bl) S else .ok (.bl false) S
  | .andE a b, env, S => (evE a env S).bind fun x S => (lift (truth x S) S).bind fun k S => if k then evE b env S else .ok x S
  | .orE a b, env, S => (evE a env S).bind fun x S => (lift (truth x S) S).bind fun k S => if k then .ok x S else evE b env S
  | .notE a, env, S => (evE a env S).bind fun x S => (lift (truth x S) S).bind fun k S => .ok (.bl (!k)) S
  | .ite c a b, env, S => (evE c env S).bind fun x S => (lift (truth x S) S).bind fun k S => if k then evE a env S else evE b env S
  | .tup es, env, S => (evEs es env S).bind fun ds S => if ds.length ≤ szl then .ok (.tup ds) S else .bad
  | .lst es, env, S => (evEs es env S).bind fun ds S => if ds.length ≤ szl then alloc (.lst ds) S else .bad
  | .idx a i, env, S => (evE a env S).bind fun x S => (evE i env S).bind fun k S => idxD x k S
  | .sli a lo hi st, env, S => (evE a env S).bind fun x S => (evO lo env S).bind fun l S => (evO hi env S).bind fun h S => (evO st env S).bind fun k S => sliD x l h k S
  | .fld a f, env, S => (evE a env S).bind fun x S => match x with
    | .loc n => match S[n]? with
      | some (.ins c fs) => match P.prop c f with
        | some g => (cl g [x] S).calm
        | none => if P.fld c f then lift (look f fs) S else .bad
      | _ => .bad
    | _ => .bad
  | .call g perm es, env, S => (evEs es env S).bind fun ds S => cl g (permD perm ds) S
  | .mk c perm es, env, S => (evEs es env S).bind fun ds S => match P.init c with
    | some g => (cl g (permD perm (.loc S.length :: ds)) (S ++ [.ins c []])).bind fun r S' => match r with
      | .non => .ok (.loc S.length) S'
      | _ => .bad
    | none => .bad
  | .cm c g perm es, env, S => (evEs es env S).bind fun ds S => cl g (permD perm (.glo c :: ds)) S
  | .mth o m perm es, env, S => (evE o env S).bind fun x S => (match x with
    | .loc n => match S[n]? with
      | some (.ins c fs) => match P.meth c m with
        | some g => if (look m fs).isNone then (evEs es env S).bind fun ds S => cl g (permD perm (x :: ds)) S else .bad
        | none => .bad
      | _ => .bad
    | _ => .bad)
  | .callv i es, env, S => match env[i]? with
    | some (some (.glo g)) => (evEs es env S).bind fun ds S => cl g ds S
    | _ => .bad
  | .bi b es, env, S => (evEs es env S).bind fun ds S => biE P cl b ds S
  | .mb m o es, env, S => (evE o env S).bind fun x S => if mbOk m x S then (evEs es env S).bind fun ds S => mbE m x ds S else .bad
  | .lc elt t it cs own, env, S => (evI it env S).bind fun src S =>
    (lcL (fun d S => (evT t d (setAll env own none) S).bind fun env S => (evC cs env S).bind fun k S => if k then (evE elt env S).bind fun e S => .ok (some e) S else .ok none S)
      (fun S => same S src.2) [] src.1 S).bind fun l S => alloc (.lst l) S
  | .ofIt b it, env, S => (evI it env S).bind fun src S => match b with
    | .tuple1 => .ok (.tup src.1) S
    | .list1 => alloc (.lst src.1) S
    | .dict1 => match dicOf src.1 [] with
      | some kvs => alloc (.dic kvs) S
      | none => .bad
    | _ => .bad
def evEs : Es → Env → Store → R (List D)
  | .nil, _, S => .ok [] S
  | .cons e r, env, S => (evE e env S).bind fun d S => (evEs r env S).bind fun ds S => .ok (d :: ds) S
  | .star e r, env, S => (evE e env S).bind fun d S => match itemsOf S d with
    | some l => (evEs r env S).bind fun ds S => .ok (l ++ ds) S
    | none => .bad
def evO : Oe → Env → Store → R (Option Int)
  | .none, _, S => .ok none S
  | .some e, env, S => (evE e env S).bind fun d S => match d with
    | .int i => .ok (some i) S
    | _ => .bad
/-- the tests of a comprehension -/
def evC : Es → Env → Store → R Bool
  | .nil, _, S => .ok true S
  | .cons e r, env, S => (evE e env S).bind fun x S => (lift (truth x S) S).bind fun k S => if k then evC r env S else .ok false S
  | .star _ _, _, _ => .bad
def evI : I → Env → Store → R (List D × List (Nat × List D))
  | .val e, env, S => (evE e env S).bind fun d S => lift (walkD S d) S
  | .rng1 a, env, S => (evE a env S).bind fun d S => match d with
    | .int i => if -(2 ^ 61) ≤ i ∧ i < 2 ^ 61 then .ok (rangeL 0 i, []) S else .bad
    | _ => .bad
  | .rng2 a b, env, S => (evE a env S).bind fun d S => (evE b env S).bind fun e S => match d, e with
    | .int i, .int j => if -(2 ^ 61) ≤ i ∧ i < 2 ^ 61 ∧ -(2 ^ 61) ≤ j ∧ j < 2 ^ 61 then .ok (rangeL i j, []) S else .bad
    | _, _ => .bad
  | .enum e, env, S => (evE e env S).bind fun d S => (lift (seqD S d) S).bind fun w S => .ok (enumL 0 w.1, w.2) S
  | .zip a b, env, S => (evE a env S).bind fun d S => (evE b env S).bind fun e S => (lift (seqD S d) S).bind fun w S => (lift (seqD S e) S).bind fun v S => .ok (zipL w.1 v.1, w.2 ++ v.2) S
  | .items e, env, S => (evE e env S).bind fun d S => .bad
def evT : Tg → D → Env → Store → R Env
  | .name i, d, env, S => if i < env.length then .ok (env.set i (some d)) S else .bad
  | .tup ts, d, env, S => match d with
    | .tup l => if l.length = ts.len then evTs ts l env S else .bad
    | _ => .bad
  | .sub o i, d, env, S => ((evE o env S).bind fun x S => (evE i env S).bind fun k S => setIdx x k d S).calm.bind fun _ S => .ok env S
  | .attr o f, d, env, S => ((evE o env S).bind fun x S => setFld P x f d S).calm.bind fun _ S => .ok env S
def evTs : Tgs → List D → Env → Store → R Env
  | .nil, [], env, S => .ok env S
  | .cons t r, d :: ds, env, S => (evT t d env S).bind fun env S => evTs r ds env S
  | _, _, _, _ => .bad
end

/-- how a statement ends -/
inductive O where
  | next (env : Env) | ret (d : D) | brk (env : Env) | cont (env : Env) | exn (x : Exn) (env : Env)
  deriving Inhabited
/-- an exception out of an expression leaves the statement -/
def R.bindS {α : Type} (r : R α) (env : Env) (k : α → Store → R O) : R O :=
  match r with
  | .ok a S => k a S
  | .exc x S => .ok (.exn x env) S
  | .bad => .bad
def forL (bnd : D → Env → Store → R Env) (body : Env → Store → R O) (gd : Store → Bool) : List D → Env → Store → R O
  | [], env, S => if gd S then .ok (.next env) S else .bad
  | d :: r, env, S => if gd S then (bnd d env S).bindS env fun env S => (body env S).bind fun o S => match o with
      | .next env => forL bnd body gd r env S
      | .cont env => forL bnd body gd r env S
      | .brk env => .ok (.next env) S
      | .ret d => .ok (.ret d) S
      | .exn x env => .ok (.exn x env) S
    else .bad
def whileL (c : Env → Store → R Bool) (body : Env → Store → R O) : Nat → Env → Store → R O
  | 0, _, _ => .bad
  | n + 1, env, S => (c env S).bindS env fun k S => if k then (body env S).bind fun o S => (match o with
      | .next env => whileL c body n env S
      | .cont env => whileL c body n env S
      | .brk env => .ok (.next env) S
      | .ret d => .ok (.ret d) S
      | .exn x env => .ok (.exn x env) S)
    else .ok (.next env) S
def fuel : Nat := 1000000000000000000000000
def caught (P : Prg) (x : Exn) (cs : List Nat) : Bool := cs.any fun k => (P.sub x.cls).contains (.own k)
def raiseX (c : Nat) (ds : List D) (env : Env) (S : Store) : R O := match P.xfs c with
  | some [f] => match ds with
    | [d] => .ok (.exn ⟨c, [(f, d)]⟩ env) S
    | _ => .bad
  | some [] => match ds with
    | [] => .ok (.exn ⟨c, []⟩ env) S
    | _ => .bad
  | _ => .bad
def unset (o : Option Nat) (r : O) : O := match o with
  | none => r
  | some i => match r with
    | .next env => .next (env.set i none)
    | .brk env => .brk (env.set i none)
    | .cont env => .cont (env.set i none)
    | r => r
mutual
def evS : St → Env → Store → R O
  | .expr e, env, S => (evE P cl e env S).bindS env fun _ S => .ok (.next env) S
  | .asg t e, env, S => (evE P cl e env S).bindS env fun d S => (evT P cl t d env S).bindS env fun env S => .ok (.next env) S
  | .aug i op e, env, S => (evE P cl (.var i) env S).bindS env fun x S => (evE P cl e env S).bindS env fun y S => (match op, x, y with
    | .add, .int a, .int b => (evT P cl (.name i) (.int (a + b)) env S).bindS env fun env S => .ok (.next env) S
    | .sub, .int a, .int b => (evT P cl (.name i) (.int (a - b)) env S).bindS env fun env S => .ok (.next env) S
    | _, _, _ => .bad)
  | .ifs c a b, env, S => (evE P cl c env S).bindS env fun x S => (lift (truth x S) S).bindS env fun k S => if k then evSs a env S else evSs b env S
  | .for_ t it b, env, S => (evI P cl it env S).bindS env fun src S => forL (fun d env S => evT P cl t d env S) (fun env S => evSs b env S) (fun S => same S src.2) src.1 env S
  | .while_ c b, env, S => whileL (fun env S => (evE P cl c env S).bind fun x S => lift (truth x S) S) (fun env S => evSs b env S) fuel env S
  | .ret e, env, S => (evE P cl e env S).bindS env fun d S => .ok (.ret d) S
  | .raise c es, env, S => (evEs P cl es env S).bindS env fun ds S => raiseX P c ds env S
  | .try_ b cs as h, env, S => (evSs b env S).bind fun o S => match o with
    | .exn x env => if caught P x cs then (match as with
        | none => evSs h env S
        | some i => if i < env.length then (evSs h (env.set i (some (.loc S.length))) (S ++ [.exn x.cls x.fs])).bind fun r S => .ok (unset as r) S else .bad)
      else .ok (.exn x env) S
    | o => .ok o S
  | .tryN b, env, S => (evSs b env S).bind fun o S => match o with
    | .exn _ _ => .bad
    | o => .ok o S
  | .never, _, _ => .bad
  | .pass, env, S => .ok (.next env) S
  | .brk, env, S => .ok (.brk env) S
  | .cont, env, S => .ok (.cont env) S
def evSs : Sts → Env → Store → R O
  | .nil, env, S => .ok (.next env) S
  | .cons s r, env, S => (evS s env S).bind fun o S => match o with
    | .next env => evSs r env S
    | o => .ok o S
end
end

/-- a def's call: so many levels deep -/
def R.fin : R O → R D
  | .ok (.next _) S => .ok .non S
  | .ok (.ret d) S => .ok d S
  | .ok (.exn x _) S => .exc x S
  | _ => .bad
def runFn (P : Prg) (cl : Cl) (f : Fn) (ds : List D) (S : Store) : R D :=
  if ds.length = f.np then (evSs P cl f.body (ds.map some ++ List.replicate (f.nl - f.np) none) S).fin else .bad
def callN (P : Prg) : Nat → Cl
  | 0 => fun _ _ _ => .bad
  | n + 1 => fun g ds S => match P.fn g with
    | some f => runFn P (callN P n) f ds S
    | none => .bad
end Mi
set_option maxRecDepth 10000
/-! V: the interpreter over values: lists, instances by value; what is changed stands under a number. -/
namespace Mv
open Mi
/-- values; ref: a thing that is changed, by its number -/
inductive V where
  | non | bl (b : Bool) | int (i : Int) | str (s : List Nat) | tup (l : List V) | lst (l : List V) | fls (l : List V)
  | ins (c : Nat) (fs : List (String × V)) | dic (kvs : List (V × V)) | exn (c : Nat) (fs : List (String × V)) | glo (g : Nat) | ref (id : Nat)
  deriving Repr, Inhabited
mutual
def V.beq : V → V → Bool
  | .non, .non => true
  | .bl a, .bl b => a == b
  | .int a, .int b => a == b
  | .str a, .str b => a == b
  | .tup a, .tup b => V.beqs a b
  | .lst a, .lst b => V.beqs a b
  | .fls a, .fls b => V.beqs a b
  | .ins c a, .ins d b => c == d && V.beqf a b
  | .dic a, .dic b => V.beqk a b
  | .exn c a, .exn d b => c == d && V.beqf a b
  | .glo a, .glo b => a == b
  | .ref a, .ref b => a == b
  | _, _ => false
def V.beqs : List V → List V → Bool
  | [], [] => true
  | a :: r, b :: s => V.beq a b && V.beqs r s
  | _, _ => false
def V.beqf : List (String × V) → List (String × V) → Bool
  | [], [] => true
  | (f, a) :: r, (g, b) :: s => f == g && (V.beq a b && V.beqf r s)
  | _, _ => false
def V.beqk : List (V × V) → List (V × V) → Bool
  | [], [] => true
  | (f, a) :: r, (g, b) :: s => V.beq f g && (V.beq a b && V.beqk r s)
  | _, _ => false
end
mutual
theorem V.beq_eq : ∀ (a b : V), V.beq a b = true → a = b
  | .non, b, h => by cases b <;> simp_all [V.beq]
  | .bl a, b, h => by cases b <;> simp_all [V.beq]
  | .int a, b, h => by cases b <;> simp_all [V.beq]
  | .str a, b, h => by cases b <;> simp_all [V.beq]
  | .tup a, b, h => by
    cases b <;> simp only [V.beq, Bool.false_eq_true] at h
    rw [V.beqs_eq a _ h]
  | .lst a, b, h => by
    cases b <;> simp only [V.beq, Bool.false_eq_true] at h
    rw [V.beqs_eq a _ h]
  | .fls a, b, h => by
    cases b <;> simp only [V.beq, Bool.false_eq_true] at h
    rw [V.beqs_eq a _ h]
  | .ins c a, b, h => by
    cases b <;> simp only [V.beq, Bool.false_eq_true, Bool.and_eq_true, beq_iff_eq] at h
    rw [V.beqf_eq a _ h.2, h.1]
  | .dic a, b, h => by
    cases b <;> simp only [V.beq, Bool.false_eq_true] at h
    rw [V.beqk_eq a _ h]
  | .exn c a, b, h => by
    cases b <;> simp only [V.beq, Bool.false_eq_true, Bool.and_eq_true, beq_iff_eq] at h
    rw [V.beqf_eq a _ h.2, h.1]
  | .glo a, b, h => by cases b <;> simp_all [V.beq]
  | .ref a, b, h => by cases b <;> simp_all [V.beq]
theorem V.beqs_eq : ∀ (a b : List V), V.beqs a b = true → a = b
  | [], [], _ => rfl
  | [], _ :: _, h => by simp [V.beqs] at h
  | _ :: _, [], h => by simp [V.beqs] at h
  | a :: r, b :: s, h => by
    simp only [V.beqs, Bool.and_eq_true] at h
    rw [V.beq_eq a b h.1, V.beqs_eq r s h.2]
theorem V.beqf_eq : ∀ (a b : List (String × V)), V.beqf a b = true → a = b
  | [], [], _ => rfl
  | [], _ :: _, h => by simp [V.beqf] at h
  | _ :: _, [], h => by simp [V.beqf] at h
  | (f, a) :: r, (g, b) :: s, h => by
    simp only [V.beqf, Bool.and_eq_true, beq_iff_eq] at h
    rw [h.1, V.beq_eq a b h.2.1, V.beqf_eq r s h.2.2]
theorem V.beqk_eq : ∀ (a b : List (V × V)), V.beqk a b = true → a = b
  | [], [], _ => rfl
  | [], _ :: _, h => by simp [V.beqk] at h
  | _ :: _, [], h => by simp [V.beqk] at h
  | (f, a) :: r, (g, b) :: s, h => by
    simp only [V.beqk, Bool.and_eq_true] at h
    rw [V.beq_eq f g h.1, V.beq_eq a b h.2.1, V.beqk_eq r s h.2.2]
end
mutual
theorem V.beq_refl : ∀ a : V, V.beq a a = true
  | .non => by simp [V.beq]
  | .bl a => by simp [V.beq]
  | .int a => by simp [V.beq]
  | .str a => by simp [V.beq]
  | .tup a => by simp only [V.beq]; exact V.beqs_refl a
  | .lst a => by simp only [V.beq]; exact V.beqs_refl a
  | .fls a => by simp only [V.beq]; exact V.beqs_refl a
  | .ins c a => by simp only [V.beq, beq_self_eq_true, Bool.true_and]; exact V.beqf_refl a
  | .dic a => by simp only [V.beq]; exact V.beqk_refl a
  | .exn c a => by simp only [V.beq, beq_self_eq_true, Bool.true_and]; exact V.beqf_refl a
  | .glo a => by simp [V.beq]
  | .ref a => by simp [V.beq]
theorem V.beqs_refl : ∀ a : List V, V.beqs a a = true
  | [] => by simp [V.beqs, V.beqf, V.beqk]
  | a :: r => by
    simp only [V.beqs, Bool.and_eq_true]
    exact ⟨V.beq_refl a, V.beqs_refl r⟩
theorem V.beqf_refl : ∀ a : List (String × V), V.beqf a a = true
  | [] => by simp [V.beqs, V.beqf, V.beqk]
  | (f, a) :: r => by
    simp only [V.beqf, Bool.and_eq_true, beq_self_eq_true]
    exact ⟨trivial, V.beq_refl a, V.beqf_refl r⟩
theorem V.beqk_refl : ∀ a : List (V × V), V.beqk a a = true
  | [] => by simp [V.beqs, V.beqf, V.beqk]
  | (f, a) :: r => by
    simp only [V.beqk, Bool.and_eq_true]
    exact ⟨V.beq_refl f, V.beq_refl a, V.beqk_refl r⟩
end
/-- a thing that is changed (or was: mu false) -/
structure VO where
  mu : Bool
  v : V
  deriving Repr, Inhabited
abbrev MS := List VO
abbrev VE := List (Option V)
structure XV where
  cls : Nat
  fs : List (String × V)
  deriving Repr, Inhabited
inductive RV (α : Type) where
  | ok (a : α) (M : MS)
  | exc (x : XV) (M : MS)
  | bad
  deriving Repr, Inhabited
def RV.bind {α β : Type} (r : RV α) (k : α → MS → RV β) : RV β :=
  match r with
  | .ok a M => k a M
  | .exc x M => .exc x M
  | .bad => .bad
def RV.calm {α : Type} (r : RV α) : RV α :=
  match r with
  | .ok a M => .ok a M
  | .exc _ _ => .bad
  | .bad => .bad
def liftV {α : Type} (o : Option α) (M : MS) : RV α :=
  match o with
  | some a => .ok a M
  | none => .bad
/-- the value that stands under a number -/
def rd (M : MS) : V → Option V
  | .ref id => match M[id]? with
    | some o => some o.v
    | none => none
  | v => some v
/-- from here on it is not changed any more -/
def frz (M : MS) : V → RV V
  | .ref id => match M[id]? with
    | some o => .ok o.v (M.set id ⟨false, o.v⟩)
    | none => .bad
  | v => .ok v M
def frzs : List V → MS → RV (List V)
  | [], M => .ok [] M
  | v :: r, M => (frz M v).bind fun v M => (frzs r M).bind fun vs M => .ok (v :: vs) M
/-- it is changed from here on -/
def thaw (v : V) (M : MS) : RV V := match v with
  | .lst l => .ok (.ref M.length) (M ++ [⟨true, .lst l⟩])
  | .dic l => .ok (.ref M.length) (M ++ [⟨true, .dic l⟩])
  | _ => .bad

def pdV : Nat → V → Option PD
  | 0, _ => none
  | _ + 1, .non => some .non
  | _ + 1, .bl b => some (.bl b)
  | _ + 1, .int i => some (.int i)
  | _ + 1, .str s => some (.str s)
  | n + 1, .tup l => match mapO (pdV n) l with
    | some xs => some (.tup xs)
    | none => none
  | n + 1, .lst l => match mapO (pdV n) l with
    | some xs => some (.lst xs)
    | none => none
  | n + 1, .fls l => match mapO (pdV n) l with
    | some xs => some (.lst xs)
    | none => none
  | _ + 1, _ => none
def eqV (a b : V) : Option Bool := match pdV deep a with
  | some x => match pdV deep b with
    | some y => some (PD.eqv x y)
    | none => none
  | none => none
def reprV (v : V) : Option (List Nat) := match pdV deep v with
  | some p => p.repr
  | none => none
def V.isKey : V → Bool
  | .int _ | .str _ => true
  | _ => false
def bopV (op : Bop) (x y : V) : Option V :=
  match op, x, y with
  | .add, .int i, .int j => some (.int (i + j))
  | .sub, .int i, .int j => some (.int (i - j))
  | .mul, .int i, .int j => if i.natAbs < 2 ^ 64 ∨ j.natAbs < 2 ^ 64 then some (.int (i * j)) else none
  | .fdiv, .int i, .int j => if 0 < j ∧ j.toNat < 1073741824 then some (.int (i / j)) else none
  | .mod, .int i, .int j => if 0 < j then some (.int (i % j)) else none
  | .pow, .int i, .int j => if 0 ≤ j ∧ j.toNat ≤ 1000 ∧ i.natAbs < 2 ^ 64 then some (.int (i ^ j.toNat)) else none
  | .add, .str a, .str b => if a.length + b.length ≤ szl then some (.str (a ++ b)) else none
  | .add, .tup a, .tup b => if a.length + b.length ≤ szl then some (.tup (a ++ b)) else none
  | .add, .lst a, .lst b => if a.length + b.length ≤ szl then some (.lst (a ++ b)) else none
  | .mul, .lst a, .int k => if k.natAbs < 2 ^ 63 ∧ a.length * k.toNat ≤ szl then some (.lst (List.replicate k.toNat a).flatten) else none
  | .mul, .tup a, .int k => if k.natAbs ≤ 1000 ∧ a.length ≤ 1000 then some (.tup (List.replicate k.toNat a).flatten) else none
  | _, _, _ => none
def truthV : V → Option Bool
  | .non => some false
  | .bl b => some b
  | .int i => some (i != 0)
  | .str s => if s.length ≤ szl then some (s.length != 0) else none
  | .tup l => some (!l.isEmpty)
  | .lst l => some (!l.isEmpty)
  | .fls l => some (!l.isEmpty)
  | _ => none
def anyEqV (v : V) (l : List V) : Option Bool := match mapO (pdV deep) l with
  | some xs => match pdV deep v with
    | some x => some (xs.any fun z => PD.eqv z x)
    | none => none
  | none => none
def itemsV : V → Option (List V)
  | .tup l => some l
  | .lst l => some l
  | .fls l => some l
  | _ => none
def lstV : V → Option (List V)
  | .lst l => some l
  | .fls l => some l
  | _ => none
/-- keys alike -/
def keq : V → V → Bool
  | .int a, .int b => a == b
  | .str a, .str b => a == b
  | _, _ => false
def dicGetV (k : V) : List (V × V) → Option V
  | [] => none
  | (a, v) :: r => if keq a k then some v else dicGetV k r
def isInV (v e : V) : Option Bool := match e with
  | .str t => match v with
    | .str s => some (hasSub s t)
    | _ => none
  | .dic kvs => if v.isKey then some (dicGetV v kvs).isSome else none
  | .lst l => anyEqV v l
  | .fls l => anyEqV v l
  | .tup l => anyEqV v l
  | _ => none
def isNonV : V → Bool
  | .non => true
  | _ => false
def copV (op : Cop) (x y : V) : Option Bool :=
  match op with
  | .eq => eqV x y
  | .ne => (eqV x y).map (!·)
  | .lt => match x, y with
    | .int i, .int j => some (decide (i < j))
    | .str a, .str b => some (decide (a < b))
    | _, _ => none
  | .le => match x, y with
    | .int i, .int j => some (decide (i ≤ j))
    | .str a, .str b => some (!decide (b < a))
    | _, _ => none
  | .gt => match x, y with
    | .int i, .int j => some (decide (j < i))
    | .str a, .str b => some (decide (b < a))
    | _, _ => none
  | .ge => match x, y with
    | .int i, .int j => some (decide (j ≤ i))
    | .str a, .str b => some (!decide (a < b))
    | _, _ => none
  | .is => match y with
    | .non => some (isNonV x)
    | _ => none
  | .isNot => match y with
    | .non => some (!isNonV x)
    | _ => none
  | .inn => isInV x y
  | .notIn => (isInV x y).map (!·)
def idxV (x i : V) : Option V :=
  match x, i with
  | .tup l, .int k => atIx l k
  | .str s, .int k => if s.length ≤ szl then (atIx s k).map fun c => .str [c] else none
  | .lst l, .int k => atIx l k
  | .fls l, .int k => atIx l k
  | .dic kvs, k => if k.isKey then dicGetV k kvs else none
  | _, _ => none
def sliV (x : V) (lo hi st : Option Int) : Option V :=
  match x with
  | .tup l => (stepL l lo hi st).map .tup
  | .str s => if s.length ≤ szl then (stepL s lo hi st).map .str else none
  | .lst l => (stepL l lo hi st).map .lst
  | .fls l => (stepL l lo hi st).map .lst
  | _ => none
def lookV (f : String) : List (String × V) → Option V
  | [] => none
  | (g, v) :: r => if g = f then some v else lookV f r
def putV (f : String) (v : V) : List (String × V) → List (String × V)
  | [] => [(f, v)]
  | (g, u) :: r => if g = f then (g, v) :: r else (g, u) :: putV f v r
def tyV : V → Option (String ⊕ Nat)
  | .non => some (.inl "NoneType")
  | .bl _ => some (.inl "bool")
  | .int _ => some (.inl "int")
  | .str _ => some (.inl "str")
  | .tup _ => some (.inl "tuple")
  | .lst _ => some (.inl "list")
  | .fls _ => some (.inl "list")
  | .dic _ => some (.inl "dict")
  | .ins c _ => some (.inr c)
  | _ => none
def isTyV (P : Prg) (v : V) (t : Ty) : Option Bool := match tyV v with
  | some a => P.ask a t
  | none => none
def isAnyV (P : Prg) (v : V) : List Ty → Option Bool
  | [] => some false
  | t :: r => match isTyV P v t with
    | some true => some true
    | some false => isAnyV P v r
    | none => none
def intsV : List V → Option (List Int)
  | [] => some []
  | .int i :: r => match intsV r with
    | some l => some (i :: l)
    | none => none
  | _ => none
def blsV : List V → Option (List Bool)
  | [] => some []
  | .bl i :: r => match blsV r with
    | some l => some (i :: l)
    | none => none
  | _ => none
def strsV : List V → Option (List (List Nat))
  | [] => some []
  | .str i :: r => match strsV r with
    | some l => some (i :: l)
    | none => none
  | _ => none
def dicPutV (k v : V) : List (V × V) → List (V × V)
  | [] => [(k, v)]
  | (a, u) :: r => if keq a k then (a, v) :: r else (a, u) :: dicPutV k v r
def dicOfV : List V → List (V × V) → Option (List (V × V))
  | [], acc => some acc
  | .tup [k, v] :: r, acc => if k.isKey then dicOfV r (dicPutV k v acc) else none
  | _, _ => none
abbrev ClV := Nat → List V → MS → RV V
def biLenV : V → Option V
  | .tup l => some (.int l.length)
  | .str s => if s.length ≤ szl then some (.int s.length) else none
  | .lst l => some (.int l.length)
  | .fls l => some (.int l.length)
  | .dic l => some (.int l.length)
  | _ => none
def biIntV : V → Option V
  | .int i => some (.int i)
  | .bl b => some (.int (if b then 1 else 0))
  | .str s => if s.length ≤ 600 then (intOf s).map .int else none
  | _ => none
def biStrV : V → Option V
  | .int i => if i.natAbs < 2 ^ 1000 then some (.str (digits i)) else none
  | .str s => some (.str s)
  | _ => none
def V.boxed : V → Bool
  | .tup _ | .lst _ | .fls _ | .ins _ _ | .dic _ | .exn _ _ => true
  | _ => false
def biReprV (v : V) : Option V := match reprV v with
  | some t => if v.boxed = true ∧ t.length ≤ 4000000 then some (.str t) else none
  | none => none
def biListV : V → Option V
  | .str s => if s.length ≤ szl then some (.lst (s.map fun c => .str [c])) else none
  | v => (itemsV v).map .lst
def bi1V (b : Bi) (v : V) : Option V :=
  match b with
  | .len => biLenV v
  | .abs => match v with
    | .int i => some (.int (if i < 0 then -i else i))
    | _ => none
  | .minL => ((itemsV v).bind intsV).bind fun l => (least l).map .int
  | .maxL => ((itemsV v).bind intsV).bind fun l => (most l).map .int
  | .sumL => ((lstV v).bind intsV).map fun l => .int l.sum
  | .allL => ((lstV v).bind blsV).map fun l => .bl (l.all id)
  | .anyL => ((lstV v).bind blsV).map fun l => .bl (l.any id)
  | .int1 => biIntV v
  | .str1 => biStrV v
  | .bool1 => (truthV v).map .bl
  | .repr1 => biReprV v
  | .list1 => biListV v
  | .tuple1 => (itemsV v).map .tup
  | .dict1 => match itemsV v with
    | some l => (dicOfV l []).map .dic
    | none => none
  | .sorted1 => ((lstV v).bind intsV).bind fun l => if l.length < 64 then some (.lst ((sortI l).map .int)) else none
  | _ => none
def insV : V → Option Nat
  | .ins c _ => some c
  | _ => none
/-- a method asked by a built-in: its name, what it must give -/
def dund : Bi → Option String
  | .len => some "__len__" | .str1 => some "__str__" | .bool1 => some "__bool__"
  | _ => none
def dundOk (b : Bi) (r : V) : Bool := match b, r with
  | .len, .int i => decide (0 ≤ i ∧ i.toNat < 2 ^ 31)
  | .str1, .str _ => true
  | .bool1, .bl _ => true
  | _, _ => false
def bi1M (P : Prg) (cl : ClV) (b : Bi) (x : V) (M : MS) : RV V := match rd M x with
  | none => .bad
  | some v => match b with
    | .isinst ts => liftV ((isAnyV P v ts).map .bl) M
    | b => match insV v with
      | none => liftV (bi1V b v) M
      | some c => match dund b with
        | none => .bad
        | some m => match P.meth c m with
          | some g => (cl g [x] M).calm.bind fun r M => if dundOk b r then .ok r M else .bad
          | none => .bad
def bi2V (b : Bi) (x y : V) : Option V :=
  match b, x, y with
  | .min2, .int i, .int j => some (.int (if j < i then j else i))
  | .max2, .int i, .int j => some (.int (if j > i then j else i))
  | .divmod, .int i, .int j => if 0 < j ∧ j.toNat < 1073741824 then some (.tup [.int (i / j), .int (i % j)]) else none
  | _, _, _ => none
def biM (P : Prg) (cl : ClV) (b : Bi) (vs : List V) (M : MS) : RV V :=
  match vs with
  | [] => match b with
    | .list0 => .ok (.lst []) M
    | .dict0 => .ok (.dic []) M
    | _ => .bad
  | [v] => bi1M P cl b v M
  | [v, w] => liftV (bi2V b v w) M
  | _ => .bad
def firstEqV (v : V) (l : List V) : Option Nat := match mapO (pdV deep) l with
  | some xs => match pdV deep v with
    | some x => xs.findIdx? fun z => PD.eqv z x
    | none => none
  | none => none
/-- methods that change nothing -/
def mbV (m : Mb) (o : V) (vs : List V) : Option V :=
  match m, vs with
  | .index, [v] => match o with
    | .tup l => match v with
      | .str s => match strsV l with
        | some ts => (ts.findIdx? (fun z => z == s)).map fun (k : Nat) => .int k
        | none => none
      | _ => none
    | _ => none
  | .count, [v] => match v with
    | .bl c => match o with
      | .lst l => (blsV l).map fun bs => .int (bs.count c)
      | _ => none
    | _ => none
  | .join, [v] => match o with
    | .str s => match (itemsV v).bind strsV with
      | some ts => if (joinS s ts).length + ts.length * s.length ≤ 1000000 then some (.str (joinS s ts)) else none
      | none => none
    | _ => none
  | .split, [v] => match o, v with
    | .str s, .str [c] => if s.length + 2 ≤ szl ∧ c < 256 then some (.lst ((splitC c [] s).map .str)) else none
    | _, _ => none
  | .get1, [k] => match o with
    | .dic kvs => if k.isKey then some ((dicGetV k kvs).getD .non) else none
    | _ => none
  | .get2, [k, x] => match o with
    | .dic kvs => if k.isKey then some ((dicGetV k kvs).getD x) else none
    | _ => none
  | _, _ => none
def mbMut : Mb → Bool
  | .append | .pop0 | .pop1 | .extend => true
  | _ => false
def mbOkV (m : Mb) (v : V) : Bool := match tyV v with
  | some (.inl t) => m.ty == t || (m.ty == "seq" && (t == "list" || t == "tuple"))
  | _ => false
/-- the list that stands under a number and is changed -/
def mutL (M : MS) : V → Option (Nat × List V)
  | .ref id => match M[id]? with
    | some ⟨true, .lst l⟩ => some (id, l)
    | _ => none
  | _ => none
def rds (M : MS) : List V → Option (List V)
  | [] => some []
  | v :: r => match rd M v with
    | some w => match rds M r with
      | some ws => some (w :: ws)
      | none => none
    | none => none
def appM (x v : V) (M : MS) : RV V := (frz M v).bind fun v M => match mutL M x with
  | some (id, l) => if l.length < szl then .ok .non (M.set id ⟨true, .lst (l ++ [v])⟩) else .bad
  | none => .bad
def popAt (id : Nat) (l : List V) (i : Int) (M : MS) : RV V := if 0 ≤ i ∧ i.toNat < 2 ^ 62 then match l[i.toNat]? with
    | some v => .ok v (M.set id ⟨true, .lst (l.eraseIdx i.toNat)⟩)
    | none => .bad
  else .bad
def mbM (m : Mb) (x : V) (vs : List V) (M : MS) : RV V :=
  match m with
  | .append => match vs with
    | [v] => appM x v M
    | _ => .bad
  | .pop0 => match vs with
    | [] => match mutL M x with
      | some (id, l) => match l.getLast? with
        | some v => .ok v (M.set id ⟨true, .lst l.dropLast⟩)
        | none => .bad
      | none => .bad
    | _ => .bad
  | .pop1 => match vs with
    | [v] => match mutL M x with
      | some (id, l) => match v with
        | .int i => popAt id l i M
        | _ => .bad
      | none => .bad
    | _ => .bad
  | .extend => .bad
  | .get2 => (frzs vs M).bind fun ws M => match rd M x with
    | some o => liftV (mbV .get2 o ws) M
    | none => .bad
  | m => match rd M x with
    | some o => match rds M vs with
      | some ws => liftV (mbV m o ws) M
      | none => .bad
    | none => .bad
def lcV (f : V → MS → RV (Option V)) (gd : MS → Bool) : List V → List V → MS → RV (List V)
  | acc, [], M => if gd M then .ok acc M else .bad
  | acc, d :: r, M => if gd M then match f d M with
      | .ok (some e) M => if acc.length < szl then lcV f gd (acc ++ [e]) r M else .bad
      | .ok none M => lcV f gd acc r M
      | _ => .bad
    else .bad
/-- lists under numbers that are walked stay as they are -/
def sameV (M : MS) : List (Nat × List V) → Bool
  | [] => true
  | (id, l) :: r => (match M[id]? with
    | some ⟨_, .lst k⟩ => V.beqs k l
    | _ => false) && sameV M r
def rangeV (lo hi : Int) : List V := (List.range (hi - lo).toNat).map fun (k : Nat) => .int (lo + k)
def rng1M (i : Int) (M : MS) : RV (List V × List (Nat × List V)) := if i.natAbs < 2 ^ 61 then .ok (rangeV 0 i, []) M else .bad
def rng2M (i j : Int) (M : MS) : RV (List V × List (Nat × List V)) := if i.natAbs < 2 ^ 61 ∧ j.natAbs < 2 ^ 61 then .ok (rangeV i j, []) M else .bad
def enumV (k : Nat) : List V → List V
  | [] => []
  | d :: r => .tup [.int k, d] :: enumV (k + 1) r
def zipV : List V → List V → List V
  | a :: r, b :: s => .tup [a, b] :: zipV r s
  | _, _ => []
mutual
/-- nothing in it is an object -/
def V.flat : V → Bool
  | .tup l => V.flats l
  | .lst _ | .fls _ | .ins _ _ | .dic _ | .exn _ _ | .ref _ => false
  | _ => true
def V.flats : List V → Bool
  | [] => true
  | v :: r => v.flat && V.flats r
end
/-- what a value gives when it is walked -/
def seqM (M : MS) : V → Option (List V × List (Nat × List V))
  | .tup l => some (l, [])
  | .lst l => some (l, [])
  | .fls l => some (l, [])
  | .ref id => match M[id]? with
    | some ⟨_, .lst l⟩ => if V.flats l then some (l, [(id, l)]) else none
    | _ => none
  | _ => none
def walkM (M : MS) : V → Option (List V × List (Nat × List V))
  | .str s => some (s.map fun c => .str [c], [])
  | v => seqM M v
def permV {α : Type} (z : α) (perm : List Nat) (ds : List α) : List α := if perm.isEmpty then ds else perm.map fun i => ds.getD i z
def setIdxM (o i v : V) (M : MS) : RV Unit := (frz M v).bind fun v M => match o with
  | .ref id => match M[id]? with
    | some ⟨true, .lst l⟩ => match i with
      | .int k => if 0 ≤ k ∧ k.toNat < l.length then .ok () (M.set id ⟨true, .lst (l.set k.toNat v)⟩) else .bad
      | _ => .bad
    | some ⟨true, .dic kvs⟩ => if i.isKey ∧ kvs.length < szl then .ok () (M.set id ⟨true, .dic (dicPutV i v kvs)⟩) else .bad
    | _ => .bad
  | _ => .bad
def setFldM (P : Prg) (o : V) (f : String) (v : V) (M : MS) : RV Unit := (frz M v).bind fun v M => match o with
  | .ref id => match M[id]? with
    | some ⟨true, .ins c fs⟩ => if P.fld c f ∧ fs.length < 900 then .ok () (M.set id ⟨true, .ins c (putV f v fs)⟩) else .bad
    | _ => .bad
  | _ => .bad
mutual
/-- a constant's value -/
def ofD : D → Option V
  | .non => some .non
  | .bl b => some (.bl b)
  | .int i => some (.int i)
  | .str s => some (.str s)
  | .tup l => match ofDs l with
    | some vs => some (.tup vs)
    | none => none
  | .loc _ => none
  | .glo g => some (.glo g)
  | .ty _ => none
def ofDs : List D → Option (List V)
  | [] => some []
  | d :: r => match ofD d with
    | some v => match ofDs r with
      | some vs => some (v :: vs)
      | none => none
    | none => none
end
/-- what it gives, if it is a list or a dict, is made last -/
def fresh : E → Bool
  | .lst _ => true
  | .lc .. => true
  | .bin .. => true
  | .sli .. => true
  | .ofIt .. => true
  | .bi .list1 _ => true
  | .bi .sorted1 _ => true
  | .bi .dict1 _ => true
  | .bi .list0 _ => true
  | .bi .dict0 _ => true
  | .mb .split _ _ => true
  | .ite _ a b => fresh a && fresh b
  | _ => false
/-- what is known of a def besides: the slots whose lists are changed; it gives a new list that is changed -/
structure An where
  ms : Nat → List Nat
  maker : Nat → Bool
section
variable (P : Prg) (cl : ClV)
def rd2 (M : MS) (x y : V) (k : V → V → RV V) : RV V := match rd M x with
  | some a => match rd M y with
    | some b => k a b
    | none => .bad
  | none => .bad
def bopM (op : Bop) (x y : V) (M : MS) : RV V := rd2 M x y fun a b => liftV (bopV op a b) M
def copM (op : Cop) (x y : V) (M : MS) : RV Bool := match rd M x with
  | some a => match rd M y with
    | some b => liftV (copV op a b) M
    | none => .bad
  | none => .bad
def truthM (x : V) (M : MS) : RV Bool := match rd M x with
  | some a => liftV (truthV a) M
  | none => .bad
def idxM (x i : V) (M : MS) : RV V := rd2 M x i fun a b => liftV (idxV a b) M
def sliM (x : V) (lo hi st : Option Int) (M : MS) : RV V := match rd M x with
  | some a => liftV (sliV a lo hi st) M
  | none => .bad
def fldM (x : V) (f : String) (M : MS) : RV V := match rd M x with
  | some (.ins c fs) => match P.prop c f with
    | some g => (cl g [x] M).calm
    | none => if P.fld c f then liftV (lookV f fs) M else .bad
  | _ => .bad
def mkM (c : Nat) (perm : List Nat) (vs : List V) (M : MS) : RV V := match P.init c with
  | some g => (cl g (permV .non perm (.ref M.length :: vs)) (M ++ [⟨true, .ins c []⟩])).bind fun r M' => match r with
    | .non => match M'[M.length]? with
      | some o => .ok o.v (M'.take M.length)
      | none => .bad
    | _ => .bad
  | none => .bad
def mthM (x : V) (m : String) (k : Nat → RV V) (M : MS) : RV V := match rd M x with
  | some (.ins c fs) => match P.meth c m with
    | some g => if (lookV m fs).isNone then k g else .bad
    | none => .bad
  | _ => .bad
def itM (b : Bi) (l : List V) (M : MS) : RV V := match b with
  | .tuple1 => .ok (.tup l) M
  | .list1 => .ok (.lst l) M
  | .dict1 => match dicOfV l [] with
    | some kvs => .ok (.dic kvs) M
    | none => .bad
  | _ => .bad
mutual
def eV : E → VE → MS → RV V
  | .never, _, _ => .bad
  | .int i, _, M => .ok (.int i) M
  | .str s, _, M => .ok (.str s) M
  | .bl b, _, M => .ok (.bl b) M
  | .non, _, M => .ok .non M
  | .var i, env, M => match env[i]? with
    | some (some v) => .ok v M
    | _ => .bad
  | .con d, _, M => liftV (ofD d) M
  | .bin op a b, env, M => (eV a env M).bind fun x M => (eV b env M).bind fun y M => bopM op x y M
  | .neg a, env, M => (eV a env M).bind fun x M => match x with
    | .int i => .ok (.int (-i)) M
    | _ => .bad
  | .cmp op a b, env, M => (eV a env M).bind fun x M => (eV b env M).bind fun y M => (copM op x y M).bind fun k M => .ok (.bl k) M
  | .cmp2 o1 o2 a b c, env, M => (eV a env M).bind fun x M => (eV b env M).bind fun y M => (copM o1 x y M).bind fun k M =>
    if k then (eV c env M).bind fun z M => (copM o2 y z M).bind fun k M => .ok (.bl k) M else .ok (.bl false) M
  | .andE a b, env, M => (eV a env M).bind fun x M => (truthM x M).bind fun k M => if k then eV b env M else .ok x M
  | .orE a b, env, M => (eV a env M).bind fun x M => (truthM x M).bind fun k M => if k then .ok x M else eV b env M
  | .notE a, env, M => (eV a env M).bind fun x M => (truthM x M).bind fun k M => .ok (.bl (!k)) M
  | .ite c a b, env, M => (eV c env M).bind fun x M => (truthM x M).bind fun k M => if k then eV a env M else eV b env M
  | .tup es, env, M => (eVs es env M).bind fun vs M => (frzs vs M).bind fun vs M => if vs.length ≤ szl then .ok (.tup vs) M else .bad
  | .lst es, env, M => (eVs es env M).bind fun vs M => (frzs vs M).bind fun vs M => if vs.length ≤ szl then .ok (.lst vs) M else .bad
  | .idx a i, env, M => (eV a env M).bind fun x M => (eV i env M).bind fun k M => idxM x k M
  | .sli a lo hi st, env, M => (eV a env M).bind fun x M => (eVo lo env M).bind fun l M => (eVo hi env M).bind fun h M => (eVo st env M).bind fun k M => sliM x l h k M
  | .fld a f, env, M => (eV a env M).bind fun x M => fldM P cl x f M
  | .call g perm es, env, M => (eVs es env M).bind fun vs M => cl g (permV .non perm vs) M
  | .mk c perm es, env, M => (eVs es env M).bind fun vs M => mkM P cl c perm vs M
  | .cm c g perm es, env, M => (eVs es env M).bind fun vs M => cl g (permV .non perm (.glo c :: vs)) M
  | .mth o m perm es, env, M => (eV o env M).bind fun x M => mthM P x m (fun g => (eVs es env M).bind fun vs M => cl g (permV .non perm (x :: vs)) M) M
  | .callv i es, env, M => match env[i]? with
    | some (some (.glo g)) => (eVs es env M).bind fun vs M => cl g vs M
    | _ => .bad
  | .bi b es, env, M => (eVs es env M).bind fun vs M => biM P cl b vs M
  | .mb m o es, env, M => (eV o env M).bind fun x M => (match rd M x with
    | some v => if mbOkV m v then (eVs es env M).bind fun vs M => mbM m x vs M else .bad
    | none => .bad)
  | .lc elt t it cs own, env, M => (eVi it env M).bind fun src M =>
    (lcV (fun d M => (eVt t d (setAll env own none) M).bind fun env M => (eVc cs env M).bind fun k M => if k then (eV elt env M).bind fun e M => (frz M e).bind fun e M => .ok (some e) M else .ok none M)
      (fun M => sameV M src.2) [] src.1 M).bind fun l M => .ok (.lst l) M
  | .ofIt b it, env, M => (eVi it env M).bind fun src M => itM b src.1 M
def eVs : Es → VE → MS → RV (List V)
  | .nil, _, M => .ok [] M
  | .cons e r, env, M => (eV e env M).bind fun v M => (eVs r env M).bind fun vs M => .ok (v :: vs) M
  | .star e r, env, M => (eV e env M).bind fun v M => match rd M v with
    | some w => match itemsV w with
      | some l => (eVs r env M).bind fun vs M => .ok (l ++ vs) M
      | none => .bad
    | none => .bad
def eVo : Oe → VE → MS → RV (Option Int)
  | .none, _, M => .ok none M
  | .some e, env, M => (eV e env M).bind fun d M => match d with
    | .int i => .ok (some i) M
    | _ => .bad
def eVc : Es → VE → MS → RV Bool
  | .nil, _, M => .ok true M
  | .cons e r, env, M => (eV e env M).bind fun x M => (truthM x M).bind fun k M => if k then eVc r env M else .ok false M
  | .star _ _, _, _ => .bad
def eVi : I → VE → MS → RV (List V × List (Nat × List V))
  | .val e, env, M => (eV e env M).bind fun v M => liftV (walkM M v) M
  | .rng1 a, env, M => (eV a env M).bind fun d M => match d with
    | .int i => rng1M i M
    | _ => .bad
  | .rng2 a b, env, M => (eV a env M).bind fun d M => (eV b env M).bind fun e M => match d, e with
    | .int i, .int j => rng2M i j M
    | _, _ => .bad
  | .enum e, env, M => (eV e env M).bind fun d M => (liftV (seqM M d) M).bind fun w M => .ok (enumV 0 w.1, w.2) M
  | .zip a b, env, M => (eV a env M).bind fun d M => (eV b env M).bind fun e M => (liftV (seqM M d) M).bind fun w M => (liftV (seqM M e) M).bind fun v M => .ok (zipV w.1 v.1, w.2 ++ v.2) M
  | .items e, env, M => .bad
def eVt : Tg → V → VE → MS → RV VE
  | .name i, d, env, M => if i < env.length then .ok (env.set i (some d)) M else .bad
  | .tup ts, d, env, M => match d with
    | .tup l => if l.length = ts.len then eVts ts l env M else .bad
    | _ => .bad
  | .sub o i, d, env, M => ((eV o env M).bind fun x M => (eV i env M).bind fun k M => setIdxM x k d M).calm.bind fun _ M => .ok env M
  | .attr o f, d, env, M => ((eV o env M).bind fun x M => setFldM P x f d M).calm.bind fun _ M => .ok env M
def eVts : Tgs → List V → VE → MS → RV VE
  | .nil, [], env, M => .ok env M
  | .cons t r, d :: ds, env, M => (eVt t d env M).bind fun env M => eVts r ds env M
  | _, _, _, _ => .bad
end
inductive OV where
  | next (env : VE) | ret (d : V) | brk (env : VE) | cont (env : VE) | exn (x : XV) (env : VE)
  deriving Inhabited
def RV.bindS {α : Type} (r : RV α) (env : VE) (k : α → MS → RV OV) : RV OV :=
  match r with
  | .ok a M => k a M
  | .exc x M => .ok (.exn x env) M
  | .bad => .bad
def forV (bnd : V → VE → MS → RV VE) (body : VE → MS → RV OV) (gd : MS → Bool) : List V → VE → MS → RV OV
  | [], env, M => if gd M then .ok (.next env) M else .bad
  | d :: r, env, M => if gd M then (bnd d env M).bindS env fun env M => (body env M).bind fun o M => match o with
      | .next env => forV bnd body gd r env M
      | .cont env => forV bnd body gd r env M
      | .brk env => .ok (.next env) M
      | .ret d => .ok (.ret d) M
      | .exn x env => .ok (.exn x env) M
    else .bad
def whileV (c : VE → MS → RV Bool) (body : VE → MS → RV OV) : Nat → VE → MS → RV OV
  | 0, _, _ => .bad
  | n + 1, env, M => (c env M).bindS env fun k M => if k then (body env M).bind fun o M => (match o with
      | .next env => whileV c body n env M
      | .cont env => whileV c body n env M
      | .brk env => .ok (.next env) M
      | .ret d => .ok (.ret d) M
      | .exn x env => .ok (.exn x env) M)
    else .ok (.next env) M
def caughtV (x : XV) (cs : List Nat) : Bool := cs.any fun k => (P.sub x.cls).contains (.own k)
def raiseV (c : Nat) (vs : List V) (env : VE) (M : MS) : RV OV := match P.xfs c with
  | some [f] => match vs with
    | [v] => (frz M v).bind fun v M => .ok (.exn ⟨c, [(f, v)]⟩ env) M
    | _ => .bad
  | some [] => match vs with
    | [] => .ok (.exn ⟨c, []⟩ env) M
    | _ => .bad
  | _ => .bad
def unsetV (o : Option Nat) (r : OV) : OV := match o with
  | none => r
  | some i => match r with
    | .next env => .next (env.set i none)
    | .brk env => .brk (env.set i none)
    | .cont env => .cont (env.set i none)
    | r => r
/-- values for targets, each its own; lists for slots that are changed get a number -/
def eVtt (ms : List Nat) : Tgs → Es → VE → MS → RV (List V)
  | .nil, .nil, _, M => .ok [] M
  | .cons t ts, .cons e r, env, M => (eV P cl e env M).bind fun v M => ((match t with
      | .name i => if ms.contains i && fresh e then thaw v M else .ok v M
      | _ => .ok v M) : RV V).bind fun v M => (eVtt ms ts r env M).bind fun vs M => .ok (v :: vs) M
  | _, _, _, _ => .bad
/-- an assignment -/
def asgV (ms : List Nat) (t : Tg) (e : E) (env : VE) (M : MS) : RV OV :=
  match t with
  | .name i => (eV P cl e env M).bindS env fun v M => if ms.contains i && fresh e then (thaw v M).bindS env fun v M => (eVt P cl (.name i) v env M).bindS env fun env M => .ok (.next env) M else (eVt P cl (.name i) v env M).bindS env fun env M => .ok (.next env) M
  | .tup ts => match e with
    | .tup es => (eVtt P cl ms ts es env M).bindS env fun vs M => if vs.length ≤ szl ∧ vs.length = ts.len then (eVts P cl ts vs env M).bindS env fun env M => .ok (.next env) M else .bad
    | e => (eV P cl e env M).bindS env fun v M => (eVt P cl (.tup ts) v env M).bindS env fun env M => .ok (.next env) M
  | t => (eV P cl e env M).bindS env fun v M => (eVt P cl t v env M).bindS env fun env M => .ok (.next env) M
variable (ms : List Nat) (mk : Bool)
mutual
def sV : St → VE → MS → RV OV
  | .expr e, env, M => (eV P cl e env M).bindS env fun _ M => .ok (.next env) M
  | .asg t e, env, M => asgV P cl ms t e env M
  | .aug i op e, env, M => (eV P cl (.var i) env M).bindS env fun x M => (eV P cl e env M).bindS env fun y M => (match op, x, y with
    | .add, .int a, .int b => (eVt P cl (.name i) (.int (a + b)) env M).bindS env fun env M => .ok (.next env) M
    | .sub, .int a, .int b => (eVt P cl (.name i) (.int (a - b)) env M).bindS env fun env M => .ok (.next env) M
    | _, _, _ => .bad)
  | .ifs c a b, env, M => (eV P cl c env M).bindS env fun x M => (truthM x M).bindS env fun k M => if k then sVs a env M else sVs b env M
  | .for_ t it b, env, M => (eVi P cl it env M).bindS env fun src M => forV (fun d env M => eVt P cl t d env M) (fun env M => sVs b env M) (fun M => sameV M src.2) src.1 env M
  | .while_ c b, env, M => whileV (fun env M => (eV P cl c env M).bind fun x M => truthM x M) (fun env M => sVs b env M) fuel env M
  | .ret e, env, M => (eV P cl e env M).bindS env fun v M => if mk && fresh e then (thaw v M).bindS env fun v M => .ok (.ret v) M else .ok (.ret v) M
  | .raise c es, env, M => (eVs P cl es env M).bindS env fun vs M => raiseV P c vs env M
  | .try_ b cs as h, env, M => (sVs b env M).bind fun o M => match o with
    | .exn x env => if caughtV P x cs then (match as with
        | none => sVs h env M
        | some i => if i < env.length then (sVs h (env.set i (some (.exn x.cls x.fs))) M).bind fun r M => .ok (unsetV as r) M else .bad)
      else .ok (.exn x env) M
    | o => .ok o M
  | .tryN b, env, M => (sVs b env M).bind fun o M => match o with
    | .exn _ _ => .bad
    | o => .ok o M
  | .never, _, _ => .bad
  | .pass, env, M => .ok (.next env) M
  | .brk, env, M => .ok (.brk env) M
  | .cont, env, M => .ok (.cont env) M
def sVs : Sts → VE → MS → RV OV
  | .nil, env, M => .ok (.next env) M
  | .cons s r, env, M => (sV s env M).bind fun o M => match o with
    | .next env => sVs r env M
    | o => .ok o M
end
end
/-- the end of a def -/
def retV (mk : Bool) (n : Nat) (v : V) (M : MS) : RV V := match v with
  | .ref id => if id < n then .ok (.ref id) (M.take n) else match M[id]? with
    | some o => if mk then (if o.mu then .ok (.ref n) (M.take n ++ [o]) else .bad) else .ok o.v (M.take n)
    | none => .bad
  | v => .ok v (M.take n)
def RV.fin (mk : Bool) (n : Nat) : RV OV → RV V
  | .ok (.next _) M => .ok .non (M.take n)
  | .ok (.ret v) M => retV mk n v M
  | .ok (.exn x _) M => .exc x (M.take n)
  | _ => .bad
def runV (P : Prg) (cl : ClV) (ms : List Nat) (mk : Bool) (f : Fn) (vs : List V) (M : MS) : RV V :=
  if vs.length = f.np then (sVs P cl ms mk f.body (vs.map some ++ List.replicate (f.nl - f.np) none) M).fin mk M.length else .bad
def callV (P : Prg) (A : An) : Nat → ClV
  | 0 => fun _ _ _ => .bad
  | n + 1 => fun g vs M => match P.fn g with
    | some f => runV P (callV P A n) (A.ms g) (A.maker g) f vs M
    | none => .bad
end Mv
set_option maxRecDepth 10000
/-! W1: how the values stand in the store. -/
namespace Mv
open Mi
mutual
def Sh (S : Store) (U : Nat → Prop) : V → D → Prop
  | .non, d => d = .non
  | .bl b, d => d = .bl b
  | .int i, d => d = .int i
  | .str s, d => d = .str s
  | .tup l, d => ∃ ds, d = .tup ds ∧ ShL S U l ds
  | .lst l, d => ∃ n ds, d = .loc n ∧ U n ∧ S[n]? = some (.lst ds) ∧ ShL S U l ds
  | .fls l, d => ∃ n ds, d = .loc n ∧ U n ∧ S[n]? = some (.fls ds) ∧ ShL S U l ds
  | .ins c fs, d => ∃ n gs, d = .loc n ∧ U n ∧ S[n]? = some (.ins c gs) ∧ ShF S U fs gs
  | .dic kvs, d => ∃ n es, d = .loc n ∧ U n ∧ S[n]? = some (.dic es) ∧ ShK S U kvs es
  | .exn c fs, d => ∃ n gs, d = .loc n ∧ U n ∧ S[n]? = some (.exn c gs) ∧ ShF S U fs gs
  | .glo g, d => d = .glo g
  | .ref _, _ => False
def ShL (S : Store) (U : Nat → Prop) : List V → List D → Prop
  | [], ds => ds = []
  | v :: r, ds => ∃ d es, ds = d :: es ∧ Sh S U v d ∧ ShL S U r es
def ShF (S : Store) (U : Nat → Prop) : List (String × V) → List (String × D) → Prop
  | [], gs => gs = []
  | (f, v) :: r, gs => ∃ d es, gs = (f, d) :: es ∧ Sh S U v d ∧ ShF S U r es
def ShK (S : Store) (U : Nat → Prop) : List (V × V) → List (D × D) → Prop
  | [], es => es = []
  | (k, v) :: r, es => ∃ a d q, es = (a, d) :: q ∧ Sh S U k a ∧ Sh S U v d ∧ ShK S U r q
end
/-- the same of an object -/
def ShO (S : Store) (U : Nat → Prop) : V → MO → Prop
  | .lst l, o => ∃ ds, o = .lst ds ∧ ShL S U l ds
  | .fls l, o => ∃ ds, o = .fls ds ∧ ShL S U l ds
  | .ins c fs, o => ∃ gs, o = .ins c gs ∧ ShF S U fs gs
  | .dic kvs, o => ∃ es, o = .dic es ∧ ShK S U kvs es
  | .exn c fs, o => ∃ gs, o = .exn c gs ∧ ShF S U fs gs
  | _, _ => False
/-- the topmost object may be one that is changed -/
def ShT (S : Store) (U : Nat → Prop) (v : V) (d : D) : Prop := Sh S U v d ∨ ∃ n o, d = .loc n ∧ S[n]? = some o ∧ ShO S U v o
mutual
theorem Sh.mono {S S' : Store} {U U' : Nat → Prop} (h : ∀ n o, U n → S[n]? = some o → S'[n]? = some o ∧ U' n) : ∀ (v : V) (d : D), Sh S U v d → Sh S' U' v d
  | .non, d, q => by simpa only [Sh] using q
  | .bl b, d, q => by simpa only [Sh] using q
  | .int i, d, q => by simpa only [Sh] using q
  | .str s, d, q => by simpa only [Sh] using q
  | .glo g, d, q => by simpa only [Sh] using q
  | .ref g, d, q => by simp only [Sh] at q
  | .tup l, d, q => by
    simp only [Sh] at q ⊢
    obtain ⟨ds, e, q⟩ := q
    exact ⟨ds, e, ShL.mono h l ds q⟩
  | .lst l, d, q => by
    simp only [Sh] at q ⊢
    obtain ⟨n, ds, e, u, q1, q2⟩ := q
    exact ⟨n, ds, e, (h n _ u q1).2, (h n _ u q1).1, ShL.mono h l ds q2⟩
  | .fls l, d, q => by
    simp only [Sh] at q ⊢
    obtain ⟨n, ds, e, u, q1, q2⟩ := q
    exact ⟨n, ds, e, (h n _ u q1).2, (h n _ u q1).1, ShL.mono h l ds q2⟩
  | .ins c l, d, q => by
    simp only [Sh] at q ⊢
    obtain ⟨n, ds, e, u, q1, q2⟩ := q
    exact ⟨n, ds, e, (h n _ u q1).2, (h n _ u q1).1, ShF.mono h l ds q2⟩
  | .dic l, d, q => by
    simp only [Sh] at q ⊢
    obtain ⟨n, ds, e, u, q1, q2⟩ := q
    exact ⟨n, ds, e, (h n _ u q1).2, (h n _ u q1).1, ShK.mono h l ds q2⟩
  | .exn c l, d, q => by
    simp only [Sh] at q ⊢
    obtain ⟨n, ds, e, u, q1, q2⟩ := q
    exact ⟨n, ds, e, (h n _ u q1).2, (h n _ u q1).1, ShF.mono h l ds q2⟩
theorem ShL.mono {S S' : Store} {U U' : Nat → Prop} (h : ∀ n o, U n → S[n]? = some o → S'[n]? = some o ∧ U' n) : ∀ (l : List V) (ds : List D), ShL S U l ds → ShL S' U' l ds
  | [], ds, q => by simpa only [ShL] using q
  | v :: r, ds, q => by
    simp only [ShL] at q ⊢
    obtain ⟨d, es, e, q1, q2⟩ := q
    exact ⟨d, es, e, Sh.mono h v d q1, ShL.mono h r es q2⟩
theorem ShF.mono {S S' : Store} {U U' : Nat → Prop} (h : ∀ n o, U n → S[n]? = some o → S'[n]? = some o ∧ U' n) : ∀ (l : List (String × V)) (ds : List (String × D)), ShF S U l ds → ShF S' U' l ds
  | [], ds, q => by simpa only [ShF] using q
  | (f, v) :: r, ds, q => by
    simp only [ShF] at q ⊢
    obtain ⟨d, es, e, q1, q2⟩ := q
    exact ⟨d, es, e, Sh.mono h v d q1, ShF.mono h r es q2⟩
theorem ShK.mono {S S' : Store} {U U' : Nat → Prop} (h : ∀ n o, U n → S[n]? = some o → S'[n]? = some o ∧ U' n) : ∀ (l : List (V × V)) (ds : List (D × D)), ShK S U l ds → ShK S' U' l ds
  | [], ds, q => by simpa only [ShK] using q
  | (k, v) :: r, ds, q => by
    simp only [ShK] at q ⊢
    obtain ⟨a, d, es, e, q0, q1, q2⟩ := q
    exact ⟨a, d, es, e, Sh.mono h k a q0, Sh.mono h v d q1, ShK.mono h r es q2⟩
end
theorem ShO.mono {S S' : Store} {U U' : Nat → Prop} (h : ∀ n o, U n → S[n]? = some o → S'[n]? = some o ∧ U' n) {v : V} {o : MO} (q : ShO S U v o) : ShO S' U' v o := by
  cases v <;> simp only [ShO] at q ⊢ <;> (obtain ⟨ds, e, q⟩ := q; first | exact ⟨ds, e, ShL.mono h _ _ q⟩ | exact ⟨ds, e, ShF.mono h _ _ q⟩ | exact ⟨ds, e, ShK.mono h _ _ q⟩)
theorem ShO.sh {S : Store} {U : Nat → Prop} {v : V} {o : MO} {n : Nat} (q : ShO S U v o) (u : U n) (e : S[n]? = some o) : Sh S U v (.loc n) := by
  cases v <;> simp only [ShO] at q <;> (obtain ⟨ds, h, q⟩ := q; subst h; simp only [Sh]; exact ⟨n, ds, rfl, u, e, q⟩)
/-! what an object shows of the value -/
theorem ShT.lst {S : Store} {U : Nat → Prop} {l : List V} {d : D} (q : ShT S U (.lst l) d) : ∃ n ds, d = .loc n ∧ S[n]? = some (.lst ds) ∧ ShL S U l ds := by
  rcases q with q | ⟨n, o, e, h, q⟩
  · simp only [Sh] at q
    obtain ⟨n, ds, e, u, q⟩ := q
    exact ⟨n, ds, e, q⟩
  · simp only [ShO] at q
    obtain ⟨ds, h2, q⟩ := q
    subst h2
    exact ⟨n, ds, e, h, q⟩
theorem ShT.fls {S : Store} {U : Nat → Prop} {l : List V} {d : D} (q : ShT S U (.fls l) d) : ∃ n ds, d = .loc n ∧ S[n]? = some (.fls ds) ∧ ShL S U l ds := by
  rcases q with q | ⟨n, o, e, h, q⟩
  · simp only [Sh] at q
    obtain ⟨n, ds, e, u, q⟩ := q
    exact ⟨n, ds, e, q⟩
  · simp only [ShO] at q
    obtain ⟨ds, h2, q⟩ := q
    subst h2
    exact ⟨n, ds, e, h, q⟩
theorem ShT.ins {S : Store} {U : Nat → Prop} {c : Nat} {l : List (String × V)} {d : D} (q : ShT S U (.ins c l) d) : ∃ n ds, d = .loc n ∧ S[n]? = some (.ins c ds) ∧ ShF S U l ds := by
  rcases q with q | ⟨n, o, e, h, q⟩
  · simp only [Sh] at q
    obtain ⟨n, ds, e, u, q⟩ := q
    exact ⟨n, ds, e, q⟩
  · simp only [ShO] at q
    obtain ⟨ds, h2, q⟩ := q
    subst h2
    exact ⟨n, ds, e, h, q⟩
theorem ShT.exn {S : Store} {U : Nat → Prop} {c : Nat} {l : List (String × V)} {d : D} (q : ShT S U (.exn c l) d) : ∃ n ds, d = .loc n ∧ S[n]? = some (.exn c ds) ∧ ShF S U l ds := by
  rcases q with q | ⟨n, o, e, h, q⟩
  · simp only [Sh] at q
    obtain ⟨n, ds, e, u, q⟩ := q
    exact ⟨n, ds, e, q⟩
  · simp only [ShO] at q
    obtain ⟨ds, h2, q⟩ := q
    subst h2
    exact ⟨n, ds, e, h, q⟩
theorem ShT.dic {S : Store} {U : Nat → Prop} {l : List (V × V)} {d : D} (q : ShT S U (.dic l) d) : ∃ n ds, d = .loc n ∧ S[n]? = some (.dic ds) ∧ ShK S U l ds := by
  rcases q with q | ⟨n, o, e, h, q⟩
  · simp only [Sh] at q
    obtain ⟨n, ds, e, u, q⟩ := q
    exact ⟨n, ds, e, q⟩
  · simp only [ShO] at q
    obtain ⟨ds, h2, q⟩ := q
    subst h2
    exact ⟨n, ds, e, h, q⟩
theorem ShT.tup {S : Store} {U : Nat → Prop} {l : List V} {d : D} (q : ShT S U (.tup l) d) : ∃ ds, d = .tup ds ∧ ShL S U l ds := by
  rcases q with q | ⟨n, o, e, h, q⟩
  · simpa only [Sh] using q
  · simp only [ShO] at q
theorem ShT.int {S : Store} {U : Nat → Prop} {i : Int} {d : D} (q : ShT S U (.int i) d) : d = .int i := by
  rcases q with q | ⟨n, o, e, h, q⟩
  · simpa only [Sh] using q
  · simp only [ShO] at q
theorem ShT.str {S : Store} {U : Nat → Prop} {i : List Nat} {d : D} (q : ShT S U (.str i) d) : d = .str i := by
  rcases q with q | ⟨n, o, e, h, q⟩
  · simpa only [Sh] using q
  · simp only [ShO] at q
theorem ShT.bl {S : Store} {U : Nat → Prop} {i : Bool} {d : D} (q : ShT S U (.bl i) d) : d = .bl i := by
  rcases q with q | ⟨n, o, e, h, q⟩
  · simpa only [Sh] using q
  · simp only [ShO] at q
theorem ShT.non {S : Store} {U : Nat → Prop} {d : D} (q : ShT S U .non d) : d = .non := by
  rcases q with q | ⟨n, o, e, h, q⟩
  · simpa only [Sh] using q
  · simp only [ShO] at q
theorem ShT.glo {S : Store} {U : Nat → Prop} {g : Nat} {d : D} (q : ShT S U (.glo g) d) : d = .glo g := by
  rcases q with q | ⟨n, o, e, h, q⟩
  · simpa only [Sh] using q
  · simp only [ShO] at q
theorem ShT.ref {S : Store} {U : Nat → Prop} {g : Nat} {d : D} (q : ShT S U (.ref g) d) : False := by
  rcases q with q | ⟨n, o, e, h, q⟩
  · simpa only [Sh] using q
  · simp only [ShO] at q
/-! lists -/
theorem ShL.len {S : Store} {U : Nat → Prop} : ∀ {l : List V} {ds : List D}, ShL S U l ds → l.length = ds.length
  | [], ds, q => by simp only [ShL] at q; subst q; rfl
  | v :: r, ds, q => by
    simp only [ShL] at q
    obtain ⟨d, es, e, q1, q2⟩ := q
    subst e
    simp only [List.length_cons, q2.len]
theorem ShL.get {S : Store} {U : Nat → Prop} : ∀ {l : List V} {ds : List D}, ShL S U l ds → ∀ {i : Nat} {v : V}, l[i]? = some v → ∃ d, ds[i]? = some d ∧ Sh S U v d
  | [], ds, q, i, v, h => by simp at h
  | w :: r, ds, q, i, v, h => by
    simp only [ShL] at q
    obtain ⟨d, es, e, q1, q2⟩ := q
    subst e
    cases i with
    | zero =>
      simp only [List.getElem?_cons_zero, Option.some.injEq] at h
      subst h
      exact ⟨d, rfl, q1⟩
    | succ i =>
      simp only [List.getElem?_cons_succ] at h ⊢
      exact q2.get h
theorem ShL.of {S : Store} {U : Nat → Prop} : ∀ {l : List V} {ds : List D}, l.length = ds.length → (∀ (i : Nat) (v : V) (d : D), l[i]? = some v → ds[i]? = some d → Sh S U v d) → ShL S U l ds
  | [], [], _, _ => by simp only [ShL]
  | [], _ :: _, h, _ => by simp at h
  | _ :: _, [], h, _ => by simp at h
  | v :: r, d :: es, h, q => by
    simp only [ShL]
    exact ⟨d, es, rfl, q 0 v d rfl rfl, ShL.of (by simpa using h) fun i v d h1 h2 => q (i + 1) v d (by simpa using h1) (by simpa using h2)⟩
theorem ShL.get2 {S : Store} {U : Nat → Prop} {l : List V} {ds : List D} (q : ShL S U l ds) {i : Nat} {v : V} {d : D} (h1 : l[i]? = some v) (h2 : ds[i]? = some d) : Sh S U v d := by
  obtain ⟨d', h3, h4⟩ := q.get h1
  rw [h2] at h3
  cases h3
  exact h4
theorem ShL.append {S : Store} {U : Nat → Prop} : ∀ {l : List V} {ds : List D} {l' : List V} {ds' : List D}, ShL S U l ds → ShL S U l' ds' → ShL S U (l ++ l') (ds ++ ds')
  | [], ds, l', ds', q, q' => by simp only [ShL] at q; subst q; exact q'
  | v :: r, ds, l', ds', q, q' => by
    simp only [ShL, List.cons_append] at q ⊢
    obtain ⟨d, es, e, q1, q2⟩ := q
    subst e
    exact ⟨d, es ++ ds', rfl, q1, q2.append q'⟩
theorem ShL.single {S : Store} {U : Nat → Prop} {v : V} {d : D} (q : Sh S U v d) : ShL S U [v] [d] := by
  simp only [ShL]
  exact ⟨d, [], rfl, q, rfl⟩
theorem ShL.nil {S : Store} {U : Nat → Prop} : ShL S U [] [] := by simp only [ShL]
theorem ShL.cons {S : Store} {U : Nat → Prop} {v : V} {d : D} {l : List V} {ds : List D} (q : Sh S U v d) (r : ShL S U l ds) : ShL S U (v :: l) (d :: ds) := by
  simp only [ShL]
  exact ⟨d, ds, rfl, q, r⟩
theorem ShL.take {S : Store} {U : Nat → Prop} {l : List V} {ds : List D} (q : ShL S U l ds) (n : Nat) : ShL S U (l.take n) (ds.take n) :=
  ShL.of (by simp [q.len]) fun i v d h1 h2 => q.get2 (by rw [List.getElem?_take] at h1; split at h1; exact h1; cases h1) (by rw [List.getElem?_take] at h2; split at h2; exact h2; cases h2)
theorem ShL.drop {S : Store} {U : Nat → Prop} {l : List V} {ds : List D} (q : ShL S U l ds) (n : Nat) : ShL S U (l.drop n) (ds.drop n) :=
  ShL.of (by simp [q.len]) fun i v d h1 h2 => q.get2 (by rw [List.getElem?_drop] at h1; exact h1) (by rw [List.getElem?_drop] at h2; exact h2)
theorem ShL.rev {S : Store} {U : Nat → Prop} : ∀ {l : List V} {ds : List D}, ShL S U l ds → ShL S U l.reverse ds.reverse
  | [], ds, q => by simp only [ShL] at q; subst q; exact .nil
  | v :: r, ds, q => by
    simp only [ShL] at q
    obtain ⟨d, es, e, q1, q2⟩ := q
    subst e
    rw [List.reverse_cons, List.reverse_cons]
    exact q2.rev.append (.single q1)
theorem ShL.evens {S : Store} {U : Nat → Prop} : ∀ {l : List V} {ds : List D}, ShL S U l ds → ShL S U (Mi.evens l) (Mi.evens ds)
  | [], ds, q => by simp only [ShL] at q; subst q; exact .nil
  | [v], ds, q => by
    simp only [ShL] at q
    obtain ⟨d, es, e, q1, q2⟩ := q
    subst e q2
    exact .single q1
  | v :: w :: r, ds, q => by
    simp only [ShL] at q
    obtain ⟨d, es, e, q1, d2, es2, e2, q3, q4⟩ := q
    subst e e2
    simp only [Mi.evens]
    exact .cons q1 q4.evens
theorem ShL.set {S : Store} {U : Nat → Prop} : ∀ {l : List V} {ds : List D}, ShL S U l ds → ∀ {v : V} {d : D} (i : Nat), Sh S U v d → ShL S U (l.set i v) (ds.set i d)
  | [], ds, q, v, d, i, h => by simp only [ShL] at q; subst q; exact .nil
  | w :: r, ds, q, v, d, i, h => by
    simp only [ShL] at q
    obtain ⟨d1, es, e, q1, q2⟩ := q
    subst e
    cases i with
    | zero => exact .cons h q2
    | succ i => exact .cons q1 (q2.set i h)
theorem ShL.eraseIdx {S : Store} {U : Nat → Prop} : ∀ {l : List V} {ds : List D}, ShL S U l ds → ∀ (i : Nat), ShL S U (l.eraseIdx i) (ds.eraseIdx i)
  | [], ds, q, i => by simp only [ShL] at q; subst q; exact .nil
  | w :: r, ds, q, i => by
    simp only [ShL] at q
    obtain ⟨d1, es, e, q1, q2⟩ := q
    subst e
    cases i with
    | zero => exact q2
    | succ i => exact .cons q1 (q2.eraseIdx i)
theorem ShL.dropLast {S : Store} {U : Nat → Prop} {l : List V} {ds : List D} (q : ShL S U l ds) : ShL S U l.dropLast ds.dropLast := by
  rw [List.dropLast_eq_take, List.dropLast_eq_take, q.len]
  exact q.take _
theorem ShL.repl {S : Store} {U : Nat → Prop} {l : List V} {ds : List D} (q : ShL S U l ds) : ∀ n : Nat, ShL S U (List.replicate n l).flatten (List.replicate n ds).flatten
  | 0 => .nil
  | n + 1 => by
    rw [List.replicate_succ, List.replicate_succ, List.flatten_cons, List.flatten_cons]
    exact q.append (q.repl n)
end Mv
set_option maxRecDepth 10000
/-! W2: states, steps, what holds of a run. -/
namespace Mv
open Mi
/-- places that are changed -/
def mu (ρ : List Nat) (M : MS) (n : Nat) : Prop := ∃ (id : Nat) (v : V), ρ[id]? = some n ∧ M[id]? = some ⟨true, v⟩
abbrev um (ρ : List Nat) (M : MS) : Nat → Prop := fun n => ¬ mu ρ M n
structure Ok (ρ : List Nat) (S : Store) (M : MS) : Prop where
  len : ρ.length = M.length
  inj : ∀ (i j n : Nat), ρ[i]? = some n → ρ[j]? = some n → i = j
  obj : ∀ (i n : Nat) (o : VO), ρ[i]? = some n → M[i]? = some o → ∃ m, S[n]? = some m ∧ ShO S (um ρ M) o.v m
structure Step (ρ : List Nat) (S : Store) (M : MS) (ρ' : List Nat) (S' : Store) (M' : MS) : Prop where
  len : S.length ≤ S'.length
  fr : ∀ n, n < S.length → ¬ mu ρ M n → S'[n]? = S[n]?
  mu : ∀ n, n < S.length → mu ρ' M' n → mu ρ M n
  pre : ∀ (i n : Nat), ρ[i]? = some n → ρ'[i]? = some n
theorem Step.refl {ρ : List Nat} {S : Store} {M : MS} : Step ρ S M ρ S M := ⟨Nat.le_refl _, fun _ _ _ => rfl, fun _ _ h => h, fun _ _ h => h⟩
theorem lt_of_some {α : Type} {l : List α} {i : Nat} {a : α} (h : l[i]? = some a) : i < l.length := by
  rw [List.getElem?_eq_some_iff] at h
  exact h.1
theorem Step.trans {ρ ρ1 ρ2 : List Nat} {S S1 S2 : Store} {M M1 M2 : MS} (a : Step ρ S M ρ1 S1 M1) (b : Step ρ1 S1 M1 ρ2 S2 M2) : Step ρ S M ρ2 S2 M2 := by
  refine ⟨Nat.le_trans a.len b.len, fun n h1 h2 => ?_, fun n h1 h2 => a.mu n h1 (b.mu n (Nat.lt_of_lt_of_le h1 a.len) h2), fun i n h => b.pre i n (a.pre i n h)⟩
  rw [b.fr n (Nat.lt_of_lt_of_le h1 a.len) fun q => h2 (a.mu n h1 q), a.fr n h1 h2]
theorem Step.ap {ρ ρ' : List Nat} {S S' : Store} {M M' : MS} (s : Step ρ S M ρ' S' M') : ∀ (n : Nat) (o : MO), um ρ M n → S[n]? = some o → S'[n]? = some o ∧ um ρ' M' n := fun n o u h =>
  ⟨(s.fr n (lt_of_some h) u).trans h, fun q => u (s.mu n (lt_of_some h) q)⟩
theorem Step.sh {ρ ρ' : List Nat} {S S' : Store} {M M' : MS} (s : Step ρ S M ρ' S' M') {v : V} {d : D} (h : Sh S (um ρ M) v d) : Sh S' (um ρ' M') v d := Sh.mono s.ap v d h
theorem Step.shL {ρ ρ' : List Nat} {S S' : Store} {M M' : MS} (s : Step ρ S M ρ' S' M') {v : List V} {d : List D} (h : ShL S (um ρ M) v d) : ShL S' (um ρ' M') v d := ShL.mono s.ap v d h
/-- a value as an expression gives it: a number, or what is not changed -/
def Rl (ρ : List Nat) (S : Store) (M : MS) (v : V) (d : D) : Prop := match v with
  | .ref id => ∃ n, ρ[id]? = some n ∧ d = .loc n
  | v => Sh S (um ρ M) v d
theorem Rl.of {ρ : List Nat} {S : Store} {M : MS} {v : V} {d : D} (h : Sh S (um ρ M) v d) : Rl ρ S M v d := by
  cases v <;> first | exact h | (simp only [Sh] at h)
theorem Step.rl {ρ ρ' : List Nat} {S S' : Store} {M M' : MS} (s : Step ρ S M ρ' S' M') {v : V} {d : D} (h : Rl ρ S M v d) : Rl ρ' S' M' v d := by
  cases v <;> first | exact s.sh h | (obtain ⟨n, h1, h2⟩ := h; exact ⟨n, s.pre _ _ h1, h2⟩)
inductive RlL (ρ : List Nat) (S : Store) (M : MS) : List V → List D → Prop
  | nil : RlL ρ S M [] []
  | cons {v d vs ds} : Rl ρ S M v d → RlL ρ S M vs ds → RlL ρ S M (v :: vs) (d :: ds)
theorem Step.rlL {ρ ρ' : List Nat} {S S' : Store} {M M' : MS} (s : Step ρ S M ρ' S' M') {v : List V} {d : List D} (h : RlL ρ S M v d) : RlL ρ' S' M' v d := by
  induction h with
  | nil => exact .nil
  | cons a b ih => exact .cons (s.rl a) ih
theorem RlL.len {ρ : List Nat} {S : Store} {M : MS} {vs : List V} {ds : List D} (h : RlL ρ S M vs ds) : vs.length = ds.length := by
  induction h with
  | nil => rfl
  | cons a b ih => simp only [List.length_cons, ih]
theorem RlL.get {ρ : List Nat} {S : Store} {M : MS} {vs : List V} {ds : List D} (h : RlL ρ S M vs ds) : ∀ {i : Nat} {v : V}, vs[i]? = some v → ∃ d, ds[i]? = some d ∧ Rl ρ S M v d := by
  induction h with
  | nil => intro i v h; simp at h
  | cons a b ih =>
    intro i v h
    cases i with
    | zero =>
      simp only [List.getElem?_cons_zero, Option.some.injEq] at h
      subst h
      exact ⟨_, rfl, a⟩
    | succ i =>
      simp only [List.getElem?_cons_succ] at h ⊢
      exact ih h
theorem RlL.of {ρ : List Nat} {S : Store} {M : MS} : ∀ {vs : List V} {ds : List D}, ShL S (um ρ M) vs ds → RlL ρ S M vs ds
  | [], ds, h => by simp only [ShL] at h; subst h; exact .nil
  | v :: r, ds, h => by
    simp only [ShL] at h
    obtain ⟨d, es, e, h1, h2⟩ := h
    subst e
    exact .cons (.of h1) (.of h2)
theorem RlL.app {ρ : List Nat} {S : Store} {M : MS} {vs ws : List V} {ds es : List D} (h : RlL ρ S M vs ds) (h2 : RlL ρ S M ws es) : RlL ρ S M (vs ++ ws) (ds ++ es) := by
  induction h with
  | nil => exact h2
  | cons a b ih => exact .cons a ih
/-- exceptions -/
def RX (ρ : List Nat) (S : Store) (M : MS) (x : XV) (y : Exn) : Prop := x.cls = y.cls ∧ ShF S (um ρ M) x.fs y.fs
theorem Step.rx {ρ ρ' : List Nat} {S S' : Store} {M M' : MS} (s : Step ρ S M ρ' S' M') {x : XV} {y : Exn} (h : RX ρ S M x y) : RX ρ' S' M' x y := ⟨h.1, ShF.mono s.ap _ _ h.2⟩
abbrev KS (β α : Type) := List Nat → Store → MS → β → α → Prop
/-- what the values say, the store does -/
def Sm {β α : Type} (ρ : List Nat) (S : Store) (M : MS) (K : KS β α) (rv : RV β) (r : R α) : Prop := match rv with
  | .bad => True
  | .ok b M' => ∃ ρ' S' a, r = .ok a S' ∧ Step ρ S M ρ' S' M' ∧ Ok ρ' S' M' ∧ K ρ' S' M' b a
  | .exc x M' => ∃ ρ' S' y, r = .exc y S' ∧ Step ρ S M ρ' S' M' ∧ Ok ρ' S' M' ∧ RX ρ' S' M' x y
theorem Sm.step {β α : Type} {ρ ρ1 : List Nat} {S S1 : Store} {M M1 : MS} {K : KS β α} {rv : RV β} {r : R α} (s : Step ρ S M ρ1 S1 M1) (h : Sm ρ1 S1 M1 K rv r) : Sm ρ S M K rv r := by
  cases rv with
  | bad => trivial
  | ok b M' =>
    obtain ⟨ρ', S', a, h1, h2, h3, h4⟩ := h
    exact ⟨ρ', S', a, h1, s.trans h2, h3, h4⟩
  | exc x M' =>
    obtain ⟨ρ', S', a, h1, h2, h3, h4⟩ := h
    exact ⟨ρ', S', a, h1, s.trans h2, h3, h4⟩
theorem Sm.bind {β α β2 α2 : Type} {ρ : List Nat} {S : Store} {M : MS} {K : KS β α} {K2 : KS β2 α2} {rv : RV β} {r : R α} {kv : β → MS → RV β2} {k : α → Store → R α2} (h : Sm ρ S M K rv r)
    (h2 : ∀ ρ' S' M' b a, Step ρ S M ρ' S' M' → Ok ρ' S' M' → K ρ' S' M' b a → Sm ρ' S' M' K2 (kv b M') (k a S')) : Sm ρ S M K2 (rv.bind kv) (r.bind k) := by
  cases rv with
  | bad => trivial
  | ok b M' =>
    obtain ⟨ρ', S', a, h1, hs, h3, h4⟩ := h
    subst h1
    exact (h2 ρ' S' M' b a hs h3 h4).step hs
  | exc x M' =>
    obtain ⟨ρ', S', a, h1, hs, h3, h4⟩ := h
    subst h1
    exact ⟨ρ', S', a, rfl, hs, h3, h4⟩
theorem Sm.bad {β α : Type} {ρ : List Nat} {S : Store} {M : MS} {K : KS β α} {r : R α} : Sm ρ S M K .bad r := trivial
theorem Sm.ok {β α : Type} {ρ : List Nat} {S : Store} {M : MS} {K : KS β α} {b : β} {a : α} (o : Ok ρ S M) (k : K ρ S M b a) : Sm ρ S M K (.ok b M) (.ok a S) := ⟨ρ, S, a, rfl, .refl, o, k⟩
theorem Sm.imp {β α : Type} {ρ : List Nat} {S : Store} {M : MS} {K K2 : KS β α} {rv : RV β} {r : R α} (h : Sm ρ S M K rv r) (k : ∀ ρ' S' M' b a, Step ρ S M ρ' S' M' → K ρ' S' M' b a → K2 ρ' S' M' b a) : Sm ρ S M K2 rv r := by
  cases rv with
  | bad => trivial
  | ok b M' =>
    obtain ⟨ρ', S', a, h1, hs, h3, h4⟩ := h
    exact ⟨ρ', S', a, h1, hs, h3, k _ _ _ _ _ hs h4⟩
  | exc x M' => exact h
theorem Sm.calm {β α : Type} {ρ : List Nat} {S : Store} {M : MS} {K : KS β α} {rv : RV β} {r : R α} (h : Sm ρ S M K rv r) : Sm ρ S M K rv.calm r.calm := by
  cases rv with
  | bad => trivial
  | ok b M' =>
    obtain ⟨ρ', S', a, h1, hs, h3, h4⟩ := h
    subst h1
    exact ⟨ρ', S', a, rfl, hs, h3, h4⟩
  | exc x M' => trivial
/-! changes of the state -/
theorem Ok.lt {ρ : List Nat} {S : Store} {M : MS} (o : Ok ρ S M) {i n : Nat} (h : ρ[i]? = some n) : n < S.length := by
  have : i < M.length := by rw [← o.len]; exact lt_of_some h
  obtain ⟨m, h1, _⟩ := o.obj i n _ h (List.getElem?_eq_getElem this)
  exact lt_of_some h1
theorem Ok.numu {ρ : List Nat} {S : Store} {M : MS} (o : Ok ρ S M) : um ρ M S.length := fun ⟨i, v, h, _⟩ => Nat.lt_irrefl _ (o.lt h)
/-- an object more -/
theorem step_app {ρ : List Nat} {S : Store} {M : MS} (T : Store) : Step ρ S M ρ (S ++ T) M :=
  ⟨by simp, fun n h _ => List.getElem?_append_left h, fun _ _ h => h, fun _ _ h => h⟩
theorem ok_app {ρ : List Nat} {S : Store} {M : MS} (o : Ok ρ S M) (T : Store) : Ok ρ (S ++ T) M := by
  refine ⟨o.len, o.inj, fun i n v h1 h2 => ?_⟩
  obtain ⟨m, h3, h4⟩ := o.obj i n v h1 h2
  exact ⟨m, (List.getElem?_append_left (lt_of_some h3)).trans h3, ShO.mono (step_app (ρ := ρ) (M := M) T).ap h4⟩
theorem ap_app {U : Nat → Prop} {S : Store} (T : Store) : ∀ (n : Nat) (o : MO), U n → S[n]? = some o → (S ++ T)[n]? = some o ∧ U n := fun n o u h => ⟨(List.getElem?_append_left (lt_of_some h)).trans h, u⟩
/-- the object made last gets a number, and is changed from here on -/
theorem thaw_ok {ρ : List Nat} {S : Store} {M : MS} {o : MO} {v : V} (b : Bool) (k : Ok ρ S M) (h : ShO S (um ρ M) v o) :
    Ok (ρ ++ [S.length]) (S ++ [o]) (M ++ [⟨b, v⟩]) ∧ ∀ {ρ0 : List Nat} {S0 : Store} {M0 : MS}, Step ρ0 S0 M0 ρ S M → Step ρ0 S0 M0 (ρ ++ [S.length]) (S ++ [o]) (M ++ [⟨b, v⟩]) := by
  have hmu : ∀ n, mu (ρ ++ [S.length]) (M ++ [⟨b, v⟩]) n → mu ρ M n ∨ n = S.length := fun n ⟨i, w, h1, h2⟩ => by
    rcases Nat.lt_or_ge i ρ.length with hi | hi
    · rw [List.getElem?_append_left hi] at h1
      rw [List.getElem?_append_left (by rw [← k.len]; exact hi)] at h2
      exact .inl ⟨i, w, h1, h2⟩
    · rw [List.getElem?_append_right hi] at h1
      have : i - ρ.length = 0 := by
        have := lt_of_some h1
        simpa using this
      rw [this] at h1
      cases h1
      exact .inr rfl
  have ap : ∀ (n : Nat) (m : MO), um ρ M n → S[n]? = some m → (S ++ [o])[n]? = some m ∧ um (ρ ++ [S.length]) (M ++ [⟨b, v⟩]) n := fun n m u q =>
    ⟨(List.getElem?_append_left (lt_of_some q)).trans q, fun z => (hmu n z).elim u fun e => Nat.lt_irrefl _ (e ▸ lt_of_some q)⟩
  refine ⟨⟨by simp [k.len], fun i j n h1 h2 => ?_, fun i n w h1 h2 => ?_⟩, fun s => ⟨Nat.le_trans s.len (by simp), fun n h1 h2 => ?_, fun n h1 h2 => ?_, fun i n h => ?_⟩⟩
  · have one : ∀ (i n : Nat), (ρ ++ [S.length])[i]? = some n → (ρ[i]? = some n ∧ n < S.length) ∨ (i = ρ.length ∧ n = S.length) := fun i n h => by
      rcases Nat.lt_or_ge i ρ.length with hi | hi
      · rw [List.getElem?_append_left hi] at h
        exact .inl ⟨h, k.lt h⟩
      · rw [List.getElem?_append_right hi] at h
        have : i - ρ.length = 0 := by
          have := lt_of_some h
          simpa using this
        rw [this] at h
        cases h
        exact .inr ⟨by omega, rfl⟩
    rcases one i n h1 with ⟨a, a2⟩ | ⟨a, a2⟩ <;> rcases one j n h2 with ⟨c, c2⟩ | ⟨c, c2⟩
    · exact k.inj i j n a c
    · omega
    · omega
    · omega
  · rcases Nat.lt_or_ge i ρ.length with hi | hi
    · rw [List.getElem?_append_left hi] at h1
      rw [List.getElem?_append_left (by rw [← k.len]; exact hi)] at h2
      obtain ⟨m, q1, q2⟩ := k.obj i n w h1 h2
      exact ⟨m, (List.getElem?_append_left (lt_of_some q1)).trans q1, ShO.mono ap q2⟩
    · rw [List.getElem?_append_right hi] at h1
      rw [List.getElem?_append_right (by rw [← k.len]; exact hi), ← k.len] at h2
      have : i - ρ.length = 0 := by
        have := lt_of_some h1
        simpa using this
      rw [this] at h1 h2
      cases h1
      cases h2
      exact ⟨o, by simp, ShO.mono ap h⟩
  · rw [List.getElem?_append_left (Nat.lt_of_lt_of_le h1 s.len), s.fr n h1 h2]
  · rcases hmu n h2 with q | q
    · exact s.mu n h1 q
    · exact absurd (Nat.lt_of_lt_of_le h1 s.len) (by omega)
  · rw [List.getElem?_append_left (lt_of_some (s.pre i n h))]
    exact s.pre i n h
/-- a thing is changed -/
theorem set_ok {ρ : List Nat} {S : Store} {M : MS} {id n : Nat} {w v : V} {m : MO} (k : Ok ρ S M) (h1 : ρ[id]? = some n) (h2 : M[id]? = some ⟨true, w⟩) (h : ShO S (um ρ M) v m) :
    Ok ρ (S.set n m) (M.set id ⟨true, v⟩) ∧ Step ρ S M ρ (S.set n m) (M.set id ⟨true, v⟩) := by
  have hn := k.lt h1
  have hid := lt_of_some h2
  have hmu : ∀ j, mu ρ (M.set id ⟨true, v⟩) j → mu ρ M j := fun j ⟨i, u, q1, q2⟩ => by
    by_cases e : id = i
    · subst e
      exact ⟨id, w, q1, h2⟩
    · rw [List.getElem?_set_ne e] at q2
      exact ⟨i, u, q1, q2⟩
  have mun : mu ρ M n := ⟨id, w, h1, h2⟩
  have ap : ∀ (j : Nat) (o : MO), um ρ M j → S[j]? = some o → (S.set n m)[j]? = some o ∧ um ρ (M.set id ⟨true, v⟩) j := fun j o u q => by
    refine ⟨?_, fun z => u (hmu j z)⟩
    rw [List.getElem?_set_ne]
    · exact q
    · intro e
      subst e
      exact u mun
  refine ⟨⟨by rw [List.length_set]; exact k.len, k.inj, fun i j o q1 q2 => ?_⟩, ⟨by simp, fun j q1 q2 => ?_, fun j _ q => hmu j q, fun _ _ q => q⟩⟩
  · by_cases e : id = i
    · subst e
      rw [List.getElem?_set_self hid] at q2
      cases q2
      rw [h1] at q1
      cases q1
      exact ⟨m, List.getElem?_set_self hn, ShO.mono ap h⟩
    · rw [List.getElem?_set_ne e] at q2
      obtain ⟨o2, q3, q4⟩ := k.obj i j o q1 q2
      refine ⟨o2, ?_, ShO.mono ap q4⟩
      rw [List.getElem?_set_ne]
      · exact q3
      · intro e2
        subst e2
        exact e (k.inj _ _ _ h1 q1)
  · rw [List.getElem?_set_ne]
    intro e
    subst e
    exact q2 mun
/-- a thing is changed no more -/
theorem frz_ok {ρ : List Nat} {S : Store} {M : MS} {id n : Nat} {o : VO} (k : Ok ρ S M) (h1 : ρ[id]? = some n) (h2 : M[id]? = some o) :
    Ok ρ S (M.set id ⟨false, o.v⟩) ∧ Step ρ S M ρ S (M.set id ⟨false, o.v⟩) ∧ Sh S (um ρ (M.set id ⟨false, o.v⟩)) o.v (.loc n) := by
  have hid := lt_of_some h2
  have hmu : ∀ j, mu ρ (M.set id ⟨false, o.v⟩) j → mu ρ M j := fun j ⟨i, u, q1, q2⟩ => by
    by_cases e : id = i
    · subst e
      rw [List.getElem?_set_self hid] at q2
      cases q2
    · rw [List.getElem?_set_ne e] at q2
      exact ⟨i, u, q1, q2⟩
  have ap : ∀ (j : Nat) (o2 : MO), um ρ M j → S[j]? = some o2 → S[j]? = some o2 ∧ um ρ (M.set id ⟨false, o.v⟩) j := fun j o u q => ⟨q, fun z => u (hmu j z)⟩
  refine ⟨⟨by rw [List.length_set]; exact k.len, k.inj, fun i j o2 q1 q2 => ?_⟩, ⟨Nat.le_refl _, fun _ _ _ => rfl, fun j _ q => hmu j q, fun _ _ q => q⟩, ?_⟩
  · by_cases e : id = i
    · subst e
      rw [List.getElem?_set_self hid] at q2
      cases q2
      rw [h1] at q1
      cases q1
      obtain ⟨m, q3, q4⟩ := k.obj _ _ _ h1 h2
      exact ⟨m, q3, ShO.mono ap q4⟩
    · rw [List.getElem?_set_ne e] at q2
      obtain ⟨o3, q3, q4⟩ := k.obj i j o2 q1 q2
      exact ⟨o3, q3, ShO.mono ap q4⟩
  · obtain ⟨m, q3, q4⟩ := k.obj _ _ _ h1 h2
    refine (ShO.mono ap q4).sh (fun ⟨i, u, q1, q2⟩ => ?_) q3
    have := k.inj _ _ _ h1 q1
    subst this
    rw [List.getElem?_set_self hid] at q2
    cases q2
theorem Sm.frz {ρ : List Nat} {S : Store} {M : MS} {v : V} {d : D} (k : Ok ρ S M) (h : Rl ρ S M v d) : Sm ρ S M (fun ρ' S' M' w e => Sh S' (um ρ' M') w e ∧ e = d ∧ S' = S) (frz M v) (.ok d S) := by
  cases v with
  | ref id =>
    obtain ⟨n, h1, h2⟩ := h
    subst h2
    simp only [Mv.frz]
    split
    · rename_i o ho
      obtain ⟨a, b, c⟩ := frz_ok k h1 ho
      exact ⟨ρ, S, .loc n, rfl, b, a, c, rfl, rfl⟩
    · trivial
  | _ => exact .ok k ⟨h, rfl, rfl⟩
theorem rd_ok {ρ : List Nat} {S : Store} {M : MS} {v w : V} {d : D} (k : Ok ρ S M) (h : Rl ρ S M v d) (e : rd M v = some w) : ShT S (um ρ M) w d := by
  cases v with
  | ref id =>
    obtain ⟨n, h1, h2⟩ := h
    subst h2
    simp only [rd] at e
    split at e
    · rename_i o ho
      cases e
      obtain ⟨m, q1, q2⟩ := k.obj _ _ _ h1 ho
      exact .inr ⟨n, m, rfl, q1, q2⟩
    · cases e
  | _ => simp only [rd, Option.some.injEq] at e; subst e; exact .inl h
/-- several at once are changed no more -/
theorem Sm.frzs {ρ : List Nat} {S : Store} : ∀ {M : MS} {vs : List V} {ds : List D}, Ok ρ S M → RlL ρ S M vs ds → Sm ρ S M (fun ρ' S' M' ws es => ShL S' (um ρ' M') ws es ∧ es = ds ∧ S' = S ∧ ρ' = ρ) (frzs vs M) (.ok ds S) := by
  intro M vs ds k h
  suffices H : ∀ (vs : List V) (M : MS) (ds : List D), Ok ρ S M → RlL ρ S M vs ds → match Mv.frzs vs M with
      | .bad => True
      | .exc _ _ => False
      | .ok ws M' => Step ρ S M ρ S M' ∧ Ok ρ S M' ∧ ShL S (um ρ M') ws ds by
    have := H vs M ds k h
    cases q : Mv.frzs vs M with
    | bad => trivial
    | exc x M' => rw [q] at this; exact False.elim this
    | ok ws M' =>
      rw [q] at this
      exact ⟨ρ, S, ds, rfl, this.1, this.2.1, this.2.2, rfl, rfl, rfl⟩
  clear h k ds vs M
  intro vs
  induction vs with
  | nil =>
    intro M ds k h
    cases h
    exact ⟨.refl, k, .nil⟩
  | cons v r ih =>
    intro M ds k h
    cases h with
    | @cons _ d _ es h1 h2 =>
      have one : match Mv.frz M v with
        | .bad => True
        | .exc _ _ => False
        | .ok w M' => Step ρ S M ρ S M' ∧ Ok ρ S M' ∧ Sh S (um ρ M') w d := by
        cases v with
        | ref id =>
          obtain ⟨n, h3, h4⟩ := h1
          subst h4
          simp only [Mv.frz]
          split
          · trivial
          · rename_i q; split at q <;> cases q
          · rename_i w M' q
            split at q
            · rename_i o ho
              cases q
              obtain ⟨a, b, c⟩ := frz_ok k h3 ho
              exact ⟨b, a, c⟩
            · cases q
        | _ => exact ⟨.refl, k, h1⟩
      simp only [Mv.frzs]
      cases q : Mv.frz M v with
      | bad => trivial
      | exc x M' => rw [q] at one; exact False.elim one
      | ok w M1 =>
        rw [q] at one
        obtain ⟨s1, k1, g1⟩ := one
        have two := ih M1 es k1 (s1.rlL h2)
        simp only [RV.bind]
        cases q2 : Mv.frzs r M1 with
        | bad => trivial
        | exc x M' => rw [q2] at two; exact False.elim two
        | ok ws M2 =>
          rw [q2] at two
          obtain ⟨s2, k2, g2⟩ := two
          exact ⟨s1.trans s2, k2, .cons (s2.sh g1) g2⟩
end Mv
set_option maxRecDepth 10000
/-! W3: the operators. -/
namespace Mv
open Mi
section
variable {S : Store} {U : Nat → Prop}
theorem Sh.sub {v : V} {d : D} (h : Sh S U v d) : ShT S U v d := .inl h
theorem mapO_pd {n : Nat} (ih : ∀ (v : V) (d : D), Sh S U v d → ∀ p, pdV n v = some p → pd S n d = some p) : ∀ (l : List V) (ds : List D) (xs : List PD), ShL S U l ds → mapO (pdV n) l = some xs → mapO (pd S n) ds = some xs
  | [], ds, xs, q, h => by
    simp only [ShL] at q
    subst q
    exact h
  | v :: r, ds, xs, q, h => by
    simp only [ShL] at q
    obtain ⟨d, es, e, q1, q2⟩ := q
    subst e
    simp only [mapO] at h ⊢
    split at h
    · rename_i p hp
      split at h
      · rename_i ps hps
        cases h
        rw [ih v d q1 p hp]
        simp only
        rw [mapO_pd ih r es ps q2 hps]
      · cases h
    · cases h
theorem pd_ok : ∀ (n : Nat) (v : V) (d : D), ShT S U v d → ∀ p, pdV n v = some p → pd S n d = some p
  | 0, v, d, h, p, e => by simp only [pdV] at e; cases e
  | n + 1, v, d, h, p, e => by
    have ih := mapO_pd (S := S) (U := U) fun v d h p e => pd_ok n v d h.sub p e
    cases v with
    | non => rw [h.non]; simpa only [pdV, pd] using e
    | bl b => rw [h.bl]; simpa only [pdV, pd] using e
    | int b => rw [h.int]; simpa only [pdV, pd] using e
    | str b => rw [h.str]; simpa only [pdV, pd] using e
    | tup l =>
      obtain ⟨ds, e1, q⟩ := h.tup
      subst e1
      simp only [pdV, pd] at e ⊢
      split at e
      · rename_i xs hx
        rw [ih l ds xs q hx]
        exact e
      · cases e
    | lst l =>
      obtain ⟨k, ds, e1, e2, q⟩ := h.lst
      subst e1
      simp only [pdV, pd] at e ⊢
      rw [e2]
      simp only
      split at e
      · rename_i xs hx
        rw [ih l ds xs q hx]
        exact e
      · cases e
    | fls l =>
      obtain ⟨k, ds, e1, e2, q⟩ := h.fls
      subst e1
      simp only [pdV, pd] at e ⊢
      rw [e2]
      simp only
      split at e
      · rename_i xs hx
        rw [ih l ds xs q hx]
        exact e
      · cases e
    | _ => simp only [pdV] at e; cases e
theorem eq_ok {v w : V} {d e : D} (h : ShT S U v d) (h2 : ShT S U w e) {b : Bool} (q : eqV v w = some b) : eqD S d e = some b := by
  unfold eqV at q
  unfold eqD
  split at q
  · rename_i x hx
    split at q
    · rename_i y hy
      rw [pd_ok _ _ _ h _ hx, pd_ok _ _ _ h2 _ hy]
      exact q
    · cases q
  · cases q
theorem repr_ok {v : V} {d : D} (h : ShT S U v d) {b : List Nat} (q : reprV v = some b) : reprD S d = some b := by
  unfold reprV at q
  unfold reprD
  split at q
  · rename_i x hx
    rw [pd_ok _ _ _ h _ hx]
    exact q
  · cases q
theorem anyEq_ok {v : V} {d : D} {l : List V} {ds : List D} (h : ShT S U v d) (h2 : ShL S U l ds) {b : Bool} (q : anyEqV v l = some b) : anyEq S d ds = some b := by
  unfold anyEqV at q
  unfold anyEq pds
  split at q
  · rename_i xs hx
    split at q
    · rename_i x hx2
      rw [mapO_pd (fun v d h p e => pd_ok _ v d h.sub p e) _ _ _ h2 hx, pd_ok _ _ _ h _ hx2]
      exact q
    · cases q
  · cases q
theorem firstEq_ok {v : V} {d : D} {l : List V} {ds : List D} (h : ShT S U v d) (h2 : ShL S U l ds) {b : Nat} (q : firstEqV v l = some b) : firstEq S d ds = some b := by
  unfold firstEqV at q
  unfold firstEq pds
  split at q
  · rename_i xs hx
    split at q
    · rename_i x hx2
      rw [mapO_pd (fun v d h p e => pd_ok _ v d h.sub p e) _ _ _ h2 hx, pd_ok _ _ _ h _ hx2]
      exact q
    · cases q
  · cases q
theorem items_ok {v : V} {d : D} (h : ShT S U v d) {l : List V} (q : itemsV v = some l) : ∃ ds, itemsOf S d = some ds ∧ ShL S U l ds := by
  cases v <;> simp only [itemsV, Option.some.injEq] at q <;> try (cases q; done)
  · subst q
    obtain ⟨ds, e, q⟩ := h.tup
    subst e
    exact ⟨ds, rfl, q⟩
  · subst q
    obtain ⟨n, ds, e, e2, q⟩ := h.lst
    subst e
    exact ⟨ds, by simp only [itemsOf, e2], q⟩
  · subst q
    obtain ⟨n, ds, e, e2, q⟩ := h.fls
    subst e
    exact ⟨ds, by simp only [itemsOf, e2], q⟩
theorem lst_ok {v : V} {d : D} (h : ShT S U v d) {l : List V} (q : lstV v = some l) : ∃ ds, lstOf S d = some ds ∧ ShL S U l ds := by
  cases v <;> simp only [lstV, Option.some.injEq] at q <;> try (cases q; done)
  · subst q
    obtain ⟨n, ds, e, e2, q⟩ := h.lst
    subst e
    exact ⟨ds, by simp only [lstOf, e2], q⟩
  · subst q
    obtain ⟨n, ds, e, e2, q⟩ := h.fls
    subst e
    exact ⟨ds, by simp only [lstOf, e2], q⟩
theorem keq_ok {k a : V} {kd ad : D} (hk : k.isKey = true) (h : ShT S U k kd) (h2 : Sh S U a ad) : (ad = kd) ↔ keq a k = true := by
  cases k <;> simp only [V.isKey, Bool.false_eq_true] at hk
  · rw [h.int]
    cases a <;> simp only [Sh] at h2
    case int => subst h2; simp [keq]
    case tup => obtain ⟨ds, e, _⟩ := h2; subst e; simp [keq]
    case lst => obtain ⟨n, ds, e, _⟩ := h2; subst e; simp [keq]
    case fls => obtain ⟨n, ds, e, _⟩ := h2; subst e; simp [keq]
    case ins => obtain ⟨n, ds, e, _⟩ := h2; subst e; simp [keq]
    case dic => obtain ⟨n, ds, e, _⟩ := h2; subst e; simp [keq]
    case exn => obtain ⟨n, ds, e, _⟩ := h2; subst e; simp [keq]
    all_goals (subst h2; simp [keq])
  · rw [h.str]
    cases a <;> simp only [Sh] at h2
    case str => subst h2; simp [keq]
    case tup => obtain ⟨ds, e, _⟩ := h2; subst e; simp [keq]
    case lst => obtain ⟨n, ds, e, _⟩ := h2; subst e; simp [keq]
    case fls => obtain ⟨n, ds, e, _⟩ := h2; subst e; simp [keq]
    case ins => obtain ⟨n, ds, e, _⟩ := h2; subst e; simp [keq]
    case dic => obtain ⟨n, ds, e, _⟩ := h2; subst e; simp [keq]
    case exn => obtain ⟨n, ds, e, _⟩ := h2; subst e; simp [keq]
    all_goals (subst h2; simp [keq])
theorem key_ok {k : V} {d : D} (hk : k.isKey = true) (h : ShT S U k d) : d.isKey = true := by
  cases k <;> simp only [V.isKey, Bool.false_eq_true] at hk
  · rw [h.int]; rfl
  · rw [h.str]; rfl
theorem dicGet_ok {k : V} {d : D} (hk : k.isKey = true) (h : ShT S U k d) : ∀ {l : List (V × V)} {es : List (D × D)}, ShK S U l es → match dicGetV k l with
    | some v => ∃ e, dicGet d es = some e ∧ Sh S U v e
    | none => dicGet d es = none
  | [], es, q => by
    simp only [ShK] at q
    subst q
    rfl
  | (a, v) :: r, es, q => by
    simp only [ShK] at q
    obtain ⟨ad, d2, es, e, q0, q1, q2⟩ := q
    subst e
    simp only [dicGetV, dicGet]
    by_cases c : keq a k = true
    · rw [if_pos c, if_pos ((keq_ok hk h q0).2 c)]
      exact ⟨d2, rfl, q1⟩
    · rw [if_neg c, if_neg (fun z => c ((keq_ok hk h q0).1 z))]
      exact dicGet_ok hk h q2
theorem dicPut_ok {k v : V} {d e : D} (hk : k.isKey = true) (h : Sh S U k d) (hv : Sh S U v e) : ∀ {l : List (V × V)} {es : List (D × D)}, ShK S U l es → ShK S U (dicPutV k v l) (dicPut d e es)
  | [], es, q => by
    simp only [ShK] at q
    subst q
    simp only [dicPutV, dicPut, ShK]
    exact ⟨d, e, [], rfl, h, hv, rfl⟩
  | (a, u) :: r, es, q => by
    simp only [ShK] at q
    obtain ⟨ad, d2, es, eq, q0, q1, q2⟩ := q
    subst eq
    simp only [dicPutV, dicPut]
    by_cases c : keq a k = true
    · rw [if_pos c, if_pos ((keq_ok hk h.sub q0).2 c)]
      simp only [ShK]
      exact ⟨ad, e, es, rfl, q0, hv, q2⟩
    · rw [if_neg c, if_neg (fun z => c ((keq_ok hk h.sub q0).1 z))]
      simp only [ShK]
      exact ⟨ad, d2, _, rfl, q0, q1, dicPut_ok hk h hv q2⟩
theorem ShK.len : ∀ {l : List (V × V)} {es : List (D × D)}, ShK S U l es → l.length = es.length
  | [], es, q => by simp only [ShK] at q; subst q; rfl
  | (a, v) :: r, es, q => by
    simp only [ShK] at q
    obtain ⟨ad, d2, es, e, q0, q1, q2⟩ := q
    subst e
    simp only [List.length_cons, q2.len]
theorem dicOf_ok : ∀ {l : List V} {ds : List D} {acc : List (V × V)} {es : List (D × D)} {r : List (V × V)}, ShL S U l ds → ShK S U acc es → dicOfV l acc = some r → ∃ rs, dicOf ds es = some rs ∧ ShK S U r rs
  | [], ds, acc, es, r, q, a, h => by
    simp only [ShL] at q
    subst q
    simp only [dicOfV, Option.some.injEq] at h
    subst h
    exact ⟨es, rfl, a⟩
  | v :: l, ds, acc, es, r, q, a, h => by
    simp only [ShL] at q
    obtain ⟨d, ds, e, q1, q2⟩ := q
    subst e
    unfold dicOfV at h
    split at h
    · rename_i e; cases e
    · rename_i k w r2 acc2 e
      cases e
      split at h
      · rename_i hk
        simp only [Sh] at q1
        obtain ⟨ds2, e2, q3⟩ := q1
        subst e2
        simp only [ShL] at q3
        obtain ⟨kd, _, e3, q4, wd, _, e4, q5, e5⟩ := q3
        subst e3 e4 e5
        simp only [dicOf]
        rw [if_pos (key_ok hk q4.sub)]
        exact dicOf_ok q2 (dicPut_ok hk q4 q5 a) h
      · cases h
    · cases h
theorem isIn_ok {v w : V} {d e : D} (h : ShT S U v d) (h2 : ShT S U w e) {b : Bool} (q : isInV v w = some b) : isIn S d e = some b := by
  unfold isInV at q
  split at q
  · rename_i t
    split at q
    · rename_i s
      rw [h2.str, h.str]
      exact q
    · cases q
  · rename_i kvs
    split at q
    · rename_i hk
      obtain ⟨n, es, e1, e2, q2⟩ := h2.dic
      subst e1
      simp only [isIn, e2]
      rw [if_pos (key_ok hk h)]
      have := dicGet_ok hk h q2
      split at this
      · rename_i u hu
        obtain ⟨z, h3, _⟩ := this
        rw [hu] at q
        rw [h3]
        exact q
      · rename_i hu
        rw [hu] at q
        rw [this]
        exact q
    · cases q
  · obtain ⟨n, es, e1, e2, q2⟩ := h2.lst
    subst e1
    simp only [isIn, e2]
    exact anyEq_ok h q2 q
  · obtain ⟨n, es, e1, e2, q2⟩ := h2.fls
    subst e1
    simp only [isIn, e2]
    exact anyEq_ok h q2 q
  · obtain ⟨es, e1, q2⟩ := h2.tup
    subst e1
    simp only [isIn]
    exact anyEq_ok h q2 q
  · cases q
theorem nonV_ok {v : V} {d : D} (h : ShT S U v d) : decide (d = .non) = isNonV v := by
  cases v with
  | non => rw [h.non]; rfl
  | bl b => rw [h.bl]; rfl
  | int b => rw [h.int]; rfl
  | str b => rw [h.str]; rfl
  | glo b => rw [h.glo]; rfl
  | ref b => exact False.elim h.ref
  | tup l => obtain ⟨ds, e, _⟩ := h.tup; subst e; rfl
  | lst l => obtain ⟨n, ds, e, _⟩ := h.lst; subst e; rfl
  | fls l => obtain ⟨n, ds, e, _⟩ := h.fls; subst e; rfl
  | ins c l => obtain ⟨n, ds, e, _⟩ := h.ins; subst e; rfl
  | dic l => obtain ⟨n, ds, e, _⟩ := h.dic; subst e; rfl
  | exn c l => obtain ⟨n, ds, e, _⟩ := h.exn; subst e; rfl
theorem cop_ok {op : Cop} {v w : V} {d e : D} (h : ShT S U v d) (h2 : ShT S U w e) {b : Bool} (q : copV op v w = some b) : cop op d e S = some b := by
  unfold copV at q
  unfold cop
  cases op with
  | eq => exact eq_ok h h2 q
  | ne =>
    simp only [Option.map_eq_some_iff] at q
    obtain ⟨c, q1, q2⟩ := q
    simp only [eq_ok h h2 q1, Option.map_some, q2]
  | inn => exact isIn_ok h h2 q
  | notIn =>
    simp only [Option.map_eq_some_iff] at q
    obtain ⟨c, q1, q2⟩ := q
    simp only [isIn_ok h h2 q1, Option.map_some, q2]
  | is =>
    simp only at q ⊢
    split at q
    · rw [h2.non]
      simp only
      rw [nonV_ok h]
      exact q
    · cases q
  | isNot =>
    simp only at q ⊢
    split at q
    · rw [h2.non]
      simp only
      rw [nonV_ok h]
      exact q
    · cases q
  | _ =>
    simp only at q ⊢
    split at q
    · rw [h.int, h2.int]; exact q
    · rw [h.str, h2.str]; exact q
    · cases q
theorem truth_ok {v : V} {d : D} (h : ShT S U v d) {b : Bool} (q : truthV v = some b) : truth d S = some b := by
  cases v with
  | non => rw [h.non]; exact q
  | bl b => rw [h.bl]; exact q
  | int b => rw [h.int]; exact q
  | str b => rw [h.str]; exact q
  | tup l =>
    obtain ⟨ds, e, r⟩ := h.tup
    subst e
    have := r.len
    simp only [truthV, truth] at q ⊢
    rw [← q]
    cases l <;> cases ds <;> simp_all
  | lst l =>
    obtain ⟨n, ds, e, e2, r⟩ := h.lst
    subst e
    have := r.len
    simp only [truthV, truth, e2] at q ⊢
    rw [← q]
    cases l <;> cases ds <;> simp_all
  | fls l =>
    obtain ⟨n, ds, e, e2, r⟩ := h.fls
    subst e
    have := r.len
    simp only [truthV, truth, e2] at q ⊢
    rw [← q]
    cases l <;> cases ds <;> simp_all
  | _ => cases q
/-! what makes an object, and what does not -/
def isLD : V → Bool
  | .lst _ | .dic _ => true
  | _ => false
def PO (S : Store) (U : Nat → Prop) (w : V) (r : R D) : Prop := (∃ d, r = .ok d S ∧ Sh S U w d ∧ isLD w = false) ∨ ∃ o, r = .ok (.loc S.length) (S ++ [o]) ∧ ShO S U w o
theorem shL_eq {l : List V} {m : List V} {ds : List D} (e : l = m) (h : ShL S U l ds) : ShL S U m ds := e ▸ h
theorem bop_ok {op : Bop} {v w u : V} {d e : D} (h : ShT S U v d) (h2 : ShT S U w e) (q : bopV op v w = some u) : PO S U u (bop op d e S) := by
  unfold bopV at q
  split at q
  · cases q; rw [h.int, h2.int]; exact .inl ⟨_, rfl, by simp only [Sh], rfl⟩
  · cases q; rw [h.int, h2.int]; exact .inl ⟨_, rfl, by simp only [Sh], rfl⟩
  · split at q
    · rename_i c; cases q; rw [h.int, h2.int]; exact .inl ⟨_, by simp only [bop]; rw [if_pos (by omega)], by simp only [Sh], rfl⟩
    · cases q
  · split at q
    · rename_i c; cases q; rw [h.int, h2.int]; exact .inl ⟨_, by simp only [bop]; rw [if_pos (by omega)], by simp only [Sh], rfl⟩
    · cases q
  · split at q
    · rename_i c; cases q; rw [h.int, h2.int]; exact .inl ⟨_, by simp only [bop]; rw [if_pos (by omega)], by simp only [Sh], rfl⟩
    · cases q
  · split at q
    · rename_i c; cases q; rw [h.int, h2.int]; exact .inl ⟨_, by simp only [bop]; rw [if_pos (by omega)], by simp only [Sh], rfl⟩
    · cases q
  · split at q
    · rename_i c; cases q; rw [h.str, h2.str]; exact .inl ⟨_, by simp only [bop]; rw [if_pos c], by simp only [Sh], rfl⟩
    · cases q
  · split at q
    · rename_i a b c
      cases q
      obtain ⟨ds, e1, r1⟩ := h.tup
      obtain ⟨es, e2, r2⟩ := h2.tup
      subst e1 e2
      refine .inl ⟨_, by simp only [bop]; rw [if_pos (by rw [← r1.len, ← r2.len]; exact c)], ?_, rfl⟩
      simp only [Sh]
      exact ⟨_, rfl, r1.append r2⟩
    · cases q
  · split at q
    · rename_i a b c
      cases q
      obtain ⟨n, ds, e1, g1, r1⟩ := h.lst
      obtain ⟨m, es, e2, g2, r2⟩ := h2.lst
      subst e1 e2
      refine .inr ⟨_, by simp only [bop, g1, g2]; rw [if_pos (by rw [← r1.len, ← r2.len]; exact c)], ?_⟩
      simp only [ShO]
      exact ⟨_, rfl, r1.append r2⟩
    · cases q
  · split at q
    · rename_i a k c
      cases q
      obtain ⟨n, ds, e1, g1, r1⟩ := h.lst
      subst e1
      rw [h2.int]
      refine .inr ⟨_, by simp only [bop, g1]; rw [if_pos (by rw [← r1.len]; omega)], ?_⟩
      simp only [ShO]
      exact ⟨_, rfl, r1.repl _⟩
    · cases q
  · split at q
    · rename_i a k c
      cases q
      obtain ⟨ds, e1, r1⟩ := h.tup
      subst e1
      rw [h2.int]
      refine .inl ⟨_, by simp only [bop]; rw [if_pos (by rw [← r1.len]; omega)], ?_, rfl⟩
      simp only [Sh]
      exact ⟨_, rfl, r1.repl _⟩
    · cases q
  · cases q
theorem atIx_ok {l : List V} {ds : List D} (r : ShL S U l ds) {i : Int} {v : V} (h : atIx l i = some v) : ∃ d, atIx ds i = some d ∧ Sh S U v d := by
  unfold atIx at h ⊢
  rw [← r.len]
  split at h
  · rename_i c
    rw [if_pos c]
    exact r.get h
  · rename_i c
    rw [if_neg c]
    split at h
    · rename_i c2
      rw [if_pos c2]
      exact r.get h
    · cases h
theorem idx_ok {v i u : V} {d e : D} (h : ShT S U v d) (h2 : ShT S U i e) (q : idxV v i = some u) : ∃ x, idxD d e S = .ok x S ∧ Sh S U u x := by
  unfold idxV at q
  split at q
  · obtain ⟨ds, e1, r⟩ := h.tup
    subst e1
    rw [h2.int]
    obtain ⟨x, q1, q2⟩ := atIx_ok r q
    exact ⟨x, by simp only [idxD, q1, lift], q2⟩
  · rename_i s k
    split at q
    · rename_i c
      simp only [Option.map_eq_some_iff] at q
      obtain ⟨x, q1, q2⟩ := q
      subst q2
      rw [h.str, h2.int]
      refine ⟨.str [x], ?_, by simp only [Sh]⟩
      simp only [idxD]
      rw [if_pos c, q1]
      rfl
    · cases q
  · obtain ⟨n, ds, e1, g, r⟩ := h.lst
    subst e1
    rw [h2.int]
    obtain ⟨x, q1, q2⟩ := atIx_ok r q
    exact ⟨x, by simp only [idxD, g, q1, lift], q2⟩
  · obtain ⟨n, ds, e1, g, r⟩ := h.fls
    subst e1
    rw [h2.int]
    obtain ⟨x, q1, q2⟩ := atIx_ok r q
    exact ⟨x, by simp only [idxD, g, q1, lift], q2⟩
  · split at q
    · rename_i hk
      obtain ⟨n, es, e1, g, r⟩ := h.dic
      subst e1
      have := dicGet_ok hk h2 r
      rw [q] at this
      obtain ⟨x, q1, q2⟩ := this
      refine ⟨x, ?_, q2⟩
      simp only [idxD, g]
      rw [if_pos (key_ok hk h2), q1]
      rfl
    · cases q
  · cases q
theorem stepL_ok {l : List V} {ds : List D} (r : ShL S U l ds) {lo hi st : Option Int} {m : List V} (h : stepL l lo hi st = some m) : ∃ es, stepL ds lo hi st = some es ∧ ShL S U m es := by
  have cut : ∀ lo hi, ShL S U (cutL l lo hi) (cutL ds lo hi) := fun lo hi => by
    unfold cutL
    rw [r.len]
    exact (r.drop _).take _
  unfold stepL at h ⊢
  split at h
  · cases h
    exact ⟨_, rfl, cut _ _⟩
  · split at h
    · rename_i c
      rw [if_pos c]
      split at h
      · rename_i c2
        cases h
        rw [if_pos c2]
        exact ⟨_, rfl, r.rev⟩
      · cases h
    · rename_i c
      rw [if_neg c]
      split at h
      · rename_i c2
        rw [if_pos c2]
        split at h
        · rename_i c3
          cases h
          rw [if_pos c3]
          exact ⟨_, rfl, (cut _ _).evens⟩
        · cases h
      · cases h
theorem sli_ok {v u : V} {d : D} {lo hi st : Option Int} (h : ShT S U v d) (q : sliV v lo hi st = some u) : PO S U u (sliD d lo hi st S) := by
  unfold sliV at q
  split at q
  · rename_i l
    simp only [Option.map_eq_some_iff] at q
    obtain ⟨x, q1, q2⟩ := q
    subst q2
    obtain ⟨ds, e1, r⟩ := h.tup
    subst e1
    obtain ⟨es, h1, h2⟩ := stepL_ok r q1
    refine .inl ⟨.tup es, by simp only [sliD, h1, Option.map_some, lift], ?_, rfl⟩
    simp only [Sh]
    exact ⟨_, rfl, h2⟩
  · rename_i s
    split at q
    · rename_i c
      simp only [Option.map_eq_some_iff] at q
      obtain ⟨x, q1, q2⟩ := q
      subst q2
      rw [h.str]
      refine .inl ⟨.str x, ?_, by simp only [Sh], rfl⟩
      simp only [sliD]
      rw [if_pos c, q1]
      rfl
    · cases q
  · rename_i l
    simp only [Option.map_eq_some_iff] at q
    obtain ⟨x, q1, q2⟩ := q
    subst q2
    obtain ⟨n, ds, e1, g, r⟩ := h.lst
    subst e1
    obtain ⟨es, h1, h2⟩ := stepL_ok r q1
    refine .inr ⟨.lst es, by simp only [sliD, g, h1], ?_⟩
    simp only [ShO]
    exact ⟨_, rfl, h2⟩
  · rename_i l
    simp only [Option.map_eq_some_iff] at q
    obtain ⟨x, q1, q2⟩ := q
    subst q2
    obtain ⟨n, ds, e1, g, r⟩ := h.fls
    subst e1
    obtain ⟨es, h1, h2⟩ := stepL_ok r q1
    refine .inr ⟨.lst es, by simp only [sliD, g, h1], ?_⟩
    simp only [ShO]
    exact ⟨_, rfl, h2⟩
  · cases q
theorem ty_ok {v : V} {d : D} (h : ShT S U v d) {t : String ⊕ Nat} (q : tyV v = some t) : tyOf S d = some t := by
  cases v with
  | non => rw [h.non]; exact q
  | bl b => rw [h.bl]; exact q
  | int b => rw [h.int]; exact q
  | str b => rw [h.str]; exact q
  | tup l => obtain ⟨ds, e, r⟩ := h.tup; subst e; exact q
  | lst l => obtain ⟨n, ds, e, e2, r⟩ := h.lst; subst e; simp only [tyOf, e2]; exact q
  | fls l => obtain ⟨n, ds, e, e2, r⟩ := h.fls; subst e; simp only [tyOf, e2]; exact q
  | ins c l => obtain ⟨n, ds, e, e2, r⟩ := h.ins; subst e; simp only [tyOf, e2]; exact q
  | dic l => obtain ⟨n, ds, e, e2, r⟩ := h.dic; subst e; simp only [tyOf, e2]; exact q
  | _ => cases q
theorem isAny_ok {P : Prg} {v : V} {d : D} (h : ShT S U v d) : ∀ {ts : List Ty} {b : Bool}, isAnyV P v ts = some b → isAny P S d ts = some b
  | [], b, q => q
  | t :: r, b, q => by
    simp only [isAnyV, isTyV] at q
    simp only [isAny, isTy]
    cases e : tyV v with
    | none => rw [e] at q; cases q
    | some a =>
      rw [e] at q
      rw [ty_ok h e]
      simp only at q ⊢
      cases e2 : P.ask a t with
      | none => rw [e2] at q; cases q
      | some z =>
        rw [e2] at q
        cases z
        · exact isAny_ok h q
        · exact q
theorem ints_ok : ∀ {l : List V} {ds : List D} {is : List Int}, ShL S U l ds → intsV l = some is → intsOf ds = some is
  | [], ds, is, q, h => by simp only [ShL] at q; subst q; exact h
  | v :: r, ds, is, q, h => by
    simp only [ShL] at q
    obtain ⟨d, es, e, q1, q2⟩ := q
    subst e
    cases v <;> simp only [intsV] at h <;> try (cases h; done)
    simp only [Sh] at q1
    subst q1
    split at h
    · rename_i l hl
      cases h
      simp only [intsOf, ints_ok q2 hl]
    · cases h
theorem bls_ok : ∀ {l : List V} {ds : List D} {is : List Bool}, ShL S U l ds → blsV l = some is → blsOf ds = some is
  | [], ds, is, q, h => by simp only [ShL] at q; subst q; exact h
  | v :: r, ds, is, q, h => by
    simp only [ShL] at q
    obtain ⟨d, es, e, q1, q2⟩ := q
    subst e
    cases v <;> simp only [blsV] at h <;> try (cases h; done)
    simp only [Sh] at q1
    subst q1
    split at h
    · rename_i l hl
      cases h
      simp only [blsOf, bls_ok q2 hl]
    · cases h
theorem strs_ok : ∀ {l : List V} {ds : List D} {is : List (List Nat)}, ShL S U l ds → strsV l = some is → strsOf ds = some is
  | [], ds, is, q, h => by simp only [ShL] at q; subst q; exact h
  | v :: r, ds, is, q, h => by
    simp only [ShL] at q
    obtain ⟨d, es, e, q1, q2⟩ := q
    subst e
    cases v <;> simp only [strsV] at h <;> try (cases h; done)
    simp only [Sh] at q1
    subst q1
    split at h
    · rename_i l hl
      cases h
      simp only [strsOf, strs_ok q2 hl]
    · cases h
theorem shStrs (l : List (List Nat)) : ShL S U (l.map .str) (l.map .str) := by
  induction l with
  | nil => exact .nil
  | cons a r ih => exact .cons (by simp only [Sh]) ih
theorem boxed_ok {v : V} {d : D} (h : ShT S U v d) (q : v.boxed = true) : d.boxed = true := by
  cases v with
  | tup l => obtain ⟨ds, e, _⟩ := h.tup; subst e; rfl
  | lst l => obtain ⟨n, ds, e, _⟩ := h.lst; subst e; rfl
  | fls l => obtain ⟨n, ds, e, _⟩ := h.fls; subst e; rfl
  | ins c l => obtain ⟨n, ds, e, _⟩ := h.ins; subst e; rfl
  | dic l => obtain ⟨n, ds, e, _⟩ := h.dic; subst e; rfl
  | exn c l => obtain ⟨n, ds, e, _⟩ := h.exn; subst e; rfl
  | _ => cases q
theorem bi1_ok {P : Prg} {cl : Cl} {b : Bi} {v u : V} {d : D} (hb : ∀ ts, b ≠ .isinst ts) (h : ShT S U v d) (hi : insV v = none) (q : bi1V b v = some u) : PO S U u (bi1 P cl b d S) := by
  unfold bi1V at q
  cases b with
  | len =>
    simp only [biLenV] at q
    simp only [bi1]
    split at q
    · cases q
      obtain ⟨ds, e, r⟩ := h.tup
      subst e
      exact .inl ⟨.int ds.length, by simp only [biLen], by simp only [Sh, r.len], rfl⟩
    · split at q
      · rename_i c
        cases q
        rw [h.str]
        exact .inl ⟨_, by simp only [biLen]; rw [if_pos c], by simp only [Sh], rfl⟩
      · cases q
    · cases q
      obtain ⟨n, ds, e, e2, r⟩ := h.lst
      subst e
      exact .inl ⟨.int ds.length, by simp only [biLen, e2], by simp only [Sh, r.len], rfl⟩
    · cases q
      obtain ⟨n, ds, e, e2, r⟩ := h.fls
      subst e
      exact .inl ⟨.int ds.length, by simp only [biLen, e2], by simp only [Sh, r.len], rfl⟩
    · cases q
      obtain ⟨n, ds, e, e2, r⟩ := h.dic
      subst e
      exact .inl ⟨.int ds.length, by simp only [biLen, e2], by simp only [Sh, r.len], rfl⟩
    · cases q
  | isinst ts => exact absurd rfl (hb ts)
  | abs =>
    simp only at q
    split at q
    · cases q; rw [h.int]; exact .inl ⟨_, rfl, by simp only [Sh], rfl⟩
    · cases q
  | minL =>
    simp only [Option.bind_eq_some_iff, Option.map_eq_some_iff] at q
    obtain ⟨is, ⟨l, q1, q2⟩, i, q3, q4⟩ := q
    subst q4
    obtain ⟨ds, h1, h2⟩ := items_ok h q1
    exact .inl ⟨.int i, by simp only [bi1, h1, Option.bind_some, ints_ok h2 q2, q3, Option.map_some, lift], by simp only [Sh], rfl⟩
  | maxL =>
    simp only [Option.bind_eq_some_iff, Option.map_eq_some_iff] at q
    obtain ⟨is, ⟨l, q1, q2⟩, i, q3, q4⟩ := q
    subst q4
    obtain ⟨ds, h1, h2⟩ := items_ok h q1
    exact .inl ⟨.int i, by simp only [bi1, h1, Option.bind_some, ints_ok h2 q2, q3, Option.map_some, lift], by simp only [Sh], rfl⟩
  | sumL =>
    simp only [Option.bind_eq_some_iff, Option.map_eq_some_iff] at q
    obtain ⟨is, ⟨l, q1, q2⟩, q3⟩ := q
    subst q3
    obtain ⟨ds, h1, h2⟩ := lst_ok h q1
    exact .inl ⟨.int is.sum, by simp only [bi1, h1, Option.bind_some, ints_ok h2 q2, Option.map_some, lift], by simp only [Sh], rfl⟩
  | allL =>
    simp only [Option.bind_eq_some_iff, Option.map_eq_some_iff] at q
    obtain ⟨is, ⟨l, q1, q2⟩, q3⟩ := q
    subst q3
    obtain ⟨ds, h1, h2⟩ := lst_ok h q1
    exact .inl ⟨.bl (is.all id), by simp only [bi1, h1, Option.bind_some, bls_ok h2 q2, Option.map_some, lift], by simp only [Sh], rfl⟩
  | anyL =>
    simp only [Option.bind_eq_some_iff, Option.map_eq_some_iff] at q
    obtain ⟨is, ⟨l, q1, q2⟩, q3⟩ := q
    subst q3
    obtain ⟨ds, h1, h2⟩ := lst_ok h q1
    exact .inl ⟨.bl (is.any id), by simp only [bi1, h1, Option.bind_some, bls_ok h2 q2, Option.map_some, lift], by simp only [Sh], rfl⟩
  | int1 =>
    simp only [biIntV] at q
    simp only [bi1]
    split at q
    · cases q; rw [h.int]; exact .inl ⟨_, rfl, by simp only [Sh], rfl⟩
    · cases q; rw [h.bl]; exact .inl ⟨_, rfl, by simp only [Sh], rfl⟩
    · split at q
      · rename_i c
        simp only [Option.map_eq_some_iff] at q
        obtain ⟨i, q1, q2⟩ := q
        subst q2
        rw [h.str]
        exact .inl ⟨.int i, by simp only [biInt]; rw [if_pos c, q1]; rfl, by simp only [Sh], rfl⟩
      · cases q
    · cases q
  | str1 =>
    simp only [biStrV] at q
    simp only [bi1]
    split at q
    · split at q
      · rename_i c
        cases q; rw [h.int]; exact .inl ⟨_, by simp only [biStr]; rw [if_pos c], by simp only [Sh], rfl⟩
      · cases q
    · cases q; rw [h.str]; exact .inl ⟨_, rfl, by simp only [Sh], rfl⟩
    · cases q
  | bool1 =>
    simp only [Option.map_eq_some_iff] at q
    obtain ⟨x, q1, q2⟩ := q
    subst q2
    have := truth_ok h q1
    refine .inl ⟨.bl x, ?_, by simp only [Sh], rfl⟩
    simp only [bi1, biBool]
    cases v with
    | lst l =>
      obtain ⟨n, ds, e, e2, r⟩ := h.lst
      subst e
      simp only [e2, this, Option.map_some, lift]
    | fls l =>
      obtain ⟨n, ds, e, e2, r⟩ := h.fls
      subst e
      simp only [e2, this, Option.map_some, lift]
    | dic l => cases q1
    | exn c l => cases q1
    | ins c l => cases hi
    | ref c => exact False.elim h.ref
    | non => rw [h.non] at this ⊢; simp only [this, Option.map_some, lift]
    | bl c => rw [h.bl] at this ⊢; simp only [this, Option.map_some, lift]
    | int c => rw [h.int] at this ⊢; simp only [this, Option.map_some, lift]
    | str c => rw [h.str] at this ⊢; simp only [this, Option.map_some, lift]
    | glo c => cases q1
    | tup l =>
      obtain ⟨ds, e, r⟩ := h.tup
      subst e
      simp only [this, Option.map_some, lift]
  | repr1 =>
    simp only [biReprV] at q
    split at q
    · rename_i t ht
      split at q
      · rename_i c
        cases q
        refine .inl ⟨.str t, ?_, by simp only [Sh], rfl⟩
        simp only [bi1, biRepr, repr_ok h ht]
        rw [if_pos ⟨boxed_ok h c.1, c.2⟩]
      · cases q
    · cases q
  | list1 =>
    simp only [biListV] at q
    simp only [bi1]
    split at q
    · rename_i s
      split at q
      · rename_i c
        cases q
        rw [h.str]
        refine .inr ⟨.lst (s.map fun c => .str [c]), ?_, ?_⟩
        · simp only [biList]
          rw [if_pos c]
          rfl
        · simp only [ShO]
          refine ⟨_, rfl, ?_⟩
          clear c hi h
          induction s with
          | nil => exact .nil
          | cons a r ih => exact .cons (by simp only [Sh]) ih
      · cases q
    · simp only [Option.map_eq_some_iff] at q
      obtain ⟨x, q1, q2⟩ := q
      subst q2
      obtain ⟨ds, h1, h2⟩ := items_ok h q1
      refine .inr ⟨.lst ds, ?_, by simp only [ShO]; exact ⟨_, rfl, h2⟩⟩
      unfold biList
      split
      · simp only [itemsOf] at h1
        cases h1
      · rw [h1]
        rfl
  | tuple1 =>
    simp only [Option.map_eq_some_iff] at q
    obtain ⟨x, q1, q2⟩ := q
    subst q2
    obtain ⟨ds, h1, h2⟩ := items_ok h q1
    exact .inl ⟨.tup ds, by simp only [bi1, biTuple, h1], by simp only [Sh]; exact ⟨_, rfl, h2⟩, rfl⟩
  | dict1 =>
    simp only at q
    split at q
    · rename_i l hl
      simp only [Option.map_eq_some_iff] at q
      obtain ⟨x, q1, q2⟩ := q
      subst q2
      obtain ⟨ds, h1, h2⟩ := items_ok h hl
      obtain ⟨rs, h3, h4⟩ := dicOf_ok (es := []) h2 (by simp only [ShK]) q1
      refine .inr ⟨.dic rs, ?_, by simp only [ShO]; exact ⟨_, rfl, h4⟩⟩
      simp only [bi1, biDict, h1, h3, alloc]
    · cases q
  | sorted1 =>
    simp only [Option.bind_eq_some_iff] at q
    obtain ⟨is, ⟨l, q1, q2⟩, q3⟩ := q
    split at q3
    · rename_i c
      cases q3
      obtain ⟨ds, h1, h2⟩ := lst_ok h q1
      refine .inr ⟨.lst ((sortI is).map .int), ?_, ?_⟩
      · simp only [bi1, biSorted, h1, Option.bind_some, ints_ok h2 q2]
        rw [if_pos c]
        rfl
      · simp only [ShO]
        refine ⟨_, rfl, ?_⟩
        generalize sortI is = js
        induction js with
        | nil => exact .nil
        | cons a r ih => exact .cons (by simp only [Sh]) ih
    · cases q3
  | _ => cases q
theorem bi2_ok {b : Bi} {v w u : V} {d e : D} (h : ShT S U v d) (h2 : ShT S U w e) (q : bi2V b v w = some u) : ∃ x, bi2 b d e S = .ok x S ∧ Sh S U u x := by
  unfold bi2V at q
  split at q
  · cases q; rw [h.int, h2.int]; exact ⟨_, rfl, by simp only [Sh]⟩
  · cases q; rw [h.int, h2.int]; exact ⟨_, rfl, by simp only [Sh]⟩
  · split at q
    · rename_i c
      cases q
      rw [h.int, h2.int]
      refine ⟨_, by simp only [bi2, biDivmod]; rw [if_pos (by omega)], ?_⟩
      simp only [Sh]
      exact ⟨_, rfl, .cons (by simp only [Sh]) (.cons (by simp only [Sh]) .nil)⟩
    · cases q
  · cases q
theorem ofD_ok : ∀ (d : D) (v : V), ofD d = some v → Sh S U v d
  | .non, v, h => by simp only [ofD, Option.some.injEq] at h; subst h; simp only [Sh]
  | .bl b, v, h => by simp only [ofD, Option.some.injEq] at h; subst h; simp only [Sh]
  | .int b, v, h => by simp only [ofD, Option.some.injEq] at h; subst h; simp only [Sh]
  | .str b, v, h => by simp only [ofD, Option.some.injEq] at h; subst h; simp only [Sh]
  | .glo b, v, h => by simp only [ofD, Option.some.injEq] at h; subst h; simp only [Sh]
  | .loc b, v, h => by simp only [ofD] at h; cases h
  | .ty b, v, h => by simp only [ofD] at h; cases h
  | .tup l, v, h => by
    simp only [ofD] at h
    split at h
    · rename_i vs hv
      cases h
      simp only [Sh]
      exact ⟨l, rfl, ofDs_ok l vs hv⟩
    · cases h
where
  ofDs_ok : ∀ (l : List D) (vs : List V), ofDs l = some vs → ShL S U vs l
  | [], vs, h => by simp only [ofDs, Option.some.injEq] at h; subst h; exact .nil
  | d :: r, vs, h => by
    simp only [ofDs] at h
    split at h
    · rename_i v hv
      split at h
      · rename_i vs hvs
        cases h
        exact .cons (ofD_ok d v hv) (ofDs_ok r vs hvs)
      · cases h
    · cases h
theorem look_ok {f : String} : ∀ {l : List (String × V)} {gs : List (String × D)} {v : V}, ShF S U l gs → lookV f l = some v → ∃ d, look f gs = some d ∧ Sh S U v d
  | [], gs, v, q, h => by simp only [lookV] at h; cases h
  | (g, u) :: r, gs, v, q, h => by
    simp only [ShF] at q
    obtain ⟨d, es, e, q1, q2⟩ := q
    subst e
    simp only [lookV, look] at h ⊢
    split at h
    · rename_i c
      cases h
      rw [if_pos c]
      exact ⟨d, rfl, q1⟩
    · rename_i c
      rw [if_neg c]
      exact look_ok q2 h
theorem look_none {f : String} : ∀ {l : List (String × V)} {gs : List (String × D)}, ShF S U l gs → (lookV f l).isNone = true → (look f gs).isNone = true
  | [], gs, q, h => by simp only [ShF] at q; subst q; rfl
  | (g, u) :: r, gs, q, h => by
    simp only [ShF] at q
    obtain ⟨d, es, e, q1, q2⟩ := q
    subst e
    simp only [lookV, look] at h ⊢
    split at h
    · cases h
    · rename_i c
      rw [if_neg c]
      exact look_none q2 h
theorem put_ok {f : String} {v : V} {d : D} (hv : Sh S U v d) : ∀ {l : List (String × V)} {gs : List (String × D)}, ShF S U l gs → ShF S U (putV f v l) (put f d gs)
  | [], gs, q => by
    simp only [ShF] at q
    subst q
    simp only [putV, put, ShF]
    exact ⟨d, [], rfl, hv, rfl⟩
  | (g, u) :: r, gs, q => by
    simp only [ShF] at q
    obtain ⟨d2, es, e, q1, q2⟩ := q
    subst e
    simp only [putV, put]
    split
    · simp only [ShF]
      exact ⟨d, es, rfl, hv, q2⟩
    · simp only [ShF]
      exact ⟨d2, _, rfl, q1, put_ok hv q2⟩
theorem ShF.len : ∀ {l : List (String × V)} {es : List (String × D)}, ShF S U l es → l.length = es.length
  | [], es, q => by simp only [ShF] at q; subst q; rfl
  | (a, v) :: r, es, q => by
    simp only [ShF] at q
    obtain ⟨d2, es, e, q1, q2⟩ := q
    subst e
    simp only [List.length_cons, q2.len]
/-- as PO, but it may be an old one -/
def PR (S : Store) (U : Nat → Prop) (w : V) (r : R D) : Prop := (∃ d, r = .ok d S ∧ Sh S U w d) ∨ ∃ o, r = .ok (.loc S.length) (S ++ [o]) ∧ ShO S U w o
theorem PO.pr {w : V} {r : R D} (h : PO S U w r) : PR S U w r := by
  rcases h with ⟨d, a, b, _⟩ | h
  · exact .inl ⟨d, a, b⟩
  · exact .inr h
theorem split_ok {o u : V} {d : D} {vs : List V} {ds : List D} (h : ShT S U o d) (hv : vs.length = ds.length) (hs : ∀ (i : Nat) (v : V) (e : D), vs[i]? = some v → ds[i]? = some e → ShT S U v e)
    (q : mbV .split o vs = some u) : PO S U u (mbE .split d ds S) := by
  unfold mbV at q
  split at q <;> try (rename_i e; cases e; done)
  · rename_i v _
    obtain ⟨e, rfl⟩ : ∃ e, ds = [e] := by
      match ds, hv with
      | [e], _ => exact ⟨e, rfl⟩
    have hv := hs 0 v e rfl rfl
    split at q
    · split at q
      · cases q
        rw [h.str, hv.str]
        refine .inr ⟨.lst ((splitC _ [] _).map .str), by simp only [mbE, mb1, mbSplit]; rw [if_pos (by assumption)]; rfl, ?_⟩
        simp only [ShO]
        exact ⟨_, rfl, shStrs _⟩
      · cases q
    · cases q
  · cases q
theorem mb_ok {m : Mb} {o u : V} {d : D} {vs : List V} {ds : List D} (h : ShT S U o d) (hv : vs.length = ds.length) (hs : ∀ (i : Nat) (v : V) (e : D), vs[i]? = some v → ds[i]? = some e → ShT S U v e)
    (hu : ∀ (i : Nat) (v : V) (e : D), vs[i]? = some v → ds[i]? = some e → m = .get2 → Sh S U v e) (q : mbV m o vs = some u) : PR S U u (mbE m d ds S) := by
  unfold mbV at q
  split at q
  · rename_i v
    obtain ⟨e, rfl⟩ : ∃ e, ds = [e] := by
      match ds, hv with
      | [e], _ => exact ⟨e, rfl⟩
    have hv := hs 0 v e rfl rfl
    split at q
    · split at q
      · split at q
        · rename_i ts hts
          simp only [Option.map_eq_some_iff] at q
          obtain ⟨x, q1, q2⟩ := q
          subst q2
          obtain ⟨es, e1, r⟩ := h.tup
          subst e1
          rw [hv.str]
          exact .inl ⟨.int x, by simp only [mbE, mb1, mbIndex, strs_ok r hts, q1], by simp only [Sh]⟩
        · cases q
      · cases q
    · cases q
  · rename_i v
    obtain ⟨e, rfl⟩ : ∃ e, ds = [e] := by
      match ds, hv with
      | [e], _ => exact ⟨e, rfl⟩
    have hv := hs 0 v e rfl rfl
    split at q
    · split at q
      · simp only [Option.map_eq_some_iff] at q
        obtain ⟨x, q1, q2⟩ := q
        subst q2
        obtain ⟨n, es, e1, e2, r⟩ := h.lst
        subst e1
        rw [hv.bl]
        exact .inl ⟨_, by simp only [mbE, mb1, mbCount, e2, bls_ok r q1]; rfl, by simp only [Sh]⟩
      · cases q
    · cases q
  · rename_i v
    obtain ⟨e, rfl⟩ : ∃ e, ds = [e] := by
      match ds, hv with
      | [e], _ => exact ⟨e, rfl⟩
    have hv := hs 0 v e rfl rfl
    split at q
    · rename_i s
      split at q
      · rename_i ts hts
        simp only [Option.bind_eq_some_iff] at hts
        obtain ⟨l, hl, hts⟩ := hts
        split at q
        · rename_i c
          cases q
          obtain ⟨es, h1, h2⟩ := items_ok hv hl
          rw [h.str]
          exact .inl ⟨_, by simp only [mbE, mb1, mbJoin, h1, Option.bind_some, strs_ok h2 hts]; rw [if_pos c], by simp only [Sh]⟩
        · cases q
      · cases q
    · cases q
  · rename_i v
    obtain ⟨e, rfl⟩ : ∃ e, ds = [e] := by
      match ds, hv with
      | [e], _ => exact ⟨e, rfl⟩
    have hv := hs 0 v e rfl rfl
    exact (split_ok (U := U) h (by rfl) (vs := [v]) (fun i v e h1 h2 => hs i v e h1 h2) (by simp only [mbV]; exact q)).pr
  · rename_i k
    obtain ⟨e, rfl⟩ : ∃ e, ds = [e] := by
      match ds, hv with
      | [e], _ => exact ⟨e, rfl⟩
    have hv := hs 0 k e rfl rfl
    split at q
    · split at q
      · rename_i kvs hk
        cases q
        obtain ⟨n, es, e1, e2, r⟩ := h.dic
        subst e1
        have := dicGet_ok hk hv r
        split at this
        · rename_i w hw
          obtain ⟨z, g1, g2⟩ := this
          refine .inl ⟨z, ?_, by rw [hw]; exact g2⟩
          simp only [mbE, mb1, mbGet, e2, g1, Option.getD_some]
          rw [if_pos (key_ok hk hv)]
        · rename_i hw
          refine .inl ⟨.non, ?_, by rw [hw]; simp only [Option.getD_none, Sh]⟩
          simp only [mbE, mb1, mbGet, e2, this, Option.getD_none]
          rw [if_pos (key_ok hk hv)]
      · cases q
    · cases q
  · rename_i k x
    obtain ⟨e, y, rfl⟩ : ∃ e y, ds = [e, y] := by
      match ds, hv with
      | [e, y], _ => exact ⟨e, y, rfl⟩
    have hv := hs 0 k e rfl rfl
    split at q
    · split at q
      · rename_i kvs hk
        cases q
        obtain ⟨n, es, e1, e2, r⟩ := h.dic
        subst e1
        have := dicGet_ok hk hv r
        split at this
        · rename_i w hw
          obtain ⟨z, g1, g2⟩ := this
          refine .inl ⟨z, ?_, by rw [hw]; exact g2⟩
          simp only [mbE, mb1, mbGet, e2, g1, Option.getD_some]
          rw [if_pos (key_ok hk hv)]
        · rename_i hw
          refine .inl ⟨y, ?_, by rw [hw]; exact hu 1 x y rfl rfl rfl⟩
          simp only [mbE, mb1, mbGet, e2, this, Option.getD_none]
          rw [if_pos (key_ok hk hv)]
      · cases q
    · cases q
  · cases q
end
end Mv
set_option maxRecDepth 10000
/-! W4: runs of the operators. -/
namespace Mv
open Mi
variable {ρ : List Nat} {S : Store} {M : MS} {P : Prg} {cv : ClV} {cl : Cl}
/-- made last, and nothing else knows it -/
def Fr (b : Nat) (ρ : List Nat) (S : Store) (M : MS) (v : V) (d : D) : Prop := ∃ S1 o, S = S1 ++ [o] ∧ d = .loc S1.length ∧ b ≤ S1.length ∧ Ok ρ S1 M ∧ ShO S1 (um ρ M) v o
abbrev KP (b : Nat) : KS V D := fun ρ S M v d => Rl ρ S M v d ∧ (isLD v = true → Fr b ρ S M v d)
abbrev KR : KS V D := fun ρ S M v d => Rl ρ S M v d
theorem new_ok {o : MO} {w : V} (k : Ok ρ S M) (h : ShO S (um ρ M) w o) : Rl ρ (S ++ [o]) M w (.loc S.length) :=
  .of ((ShO.mono (ap_app [o]) h).sh k.numu (by simp))
theorem Sm.po {b : Nat} {w : V} {r : R D} (k : Ok ρ S M) (hb : b ≤ S.length) (h : PO S (um ρ M) w r) : Sm ρ S M (KP b) (.ok w M) r := by
  rcases h with ⟨d, e, h1, h2⟩ | ⟨o, e, h1⟩
  · subst e
    exact .ok k ⟨.of h1, fun z => by rw [h2] at z; cases z⟩
  · subst e
    exact ⟨ρ, _, _, rfl, step_app _, ok_app k _, new_ok k h1, fun _ => ⟨S, o, rfl, rfl, hb, k, h1⟩⟩
theorem Sm.pr {w : V} {r : R D} (k : Ok ρ S M) (h : PR S (um ρ M) w r) : Sm ρ S M KR (.ok w M) r := by
  rcases h with ⟨d, e, h1⟩ | ⟨o, e, h1⟩
  · subst e
    exact .ok k (.of h1)
  · subst e
    exact ⟨ρ, _, _, rfl, step_app _, ok_app k _, new_ok k h1⟩
theorem Sm.lift {β α : Type} {K : KS β α} {o : Option β} {r : R α} (h : ∀ b, o = some b → Sm ρ S M K (.ok b M) r) : Sm ρ S M K (liftV o M) r := by
  cases o with
  | none => trivial
  | some b => exact h b rfl
theorem Sm.kp {b : Nat} {rv : RV V} {r : R D} (h : Sm ρ S M (KP b) rv r) : Sm ρ S M KR rv r := h.imp fun _ _ _ _ _ _ k => k.1
theorem bopM_ok {op : Bop} {x y : V} {d e : D} (k : Ok ρ S M) (h : Rl ρ S M x d) (h2 : Rl ρ S M y e) {b : Nat} (hb : b ≤ S.length) : Sm ρ S M (KP b) (bopM op x y M) (bop op d e S) := by
  unfold bopM rd2
  split
  · rename_i a ha
    split
    · rename_i c hc
      exact .lift fun w hw => .po k hb (bop_ok (rd_ok k h ha) (rd_ok k h2 hc) hw)
    · trivial
  · trivial
theorem copM_ok {op : Cop} {x y : V} {d e : D} (k : Ok ρ S M) (h : Rl ρ S M x d) (h2 : Rl ρ S M y e) : Sm ρ S M (fun _ _ _ b c => b = c) (copM op x y M) (lift (cop op d e S) S) := by
  unfold copM
  split
  · rename_i a ha
    split
    · rename_i c hc
      refine .lift fun w hw => ?_
      rw [cop_ok (rd_ok k h ha) (rd_ok k h2 hc) hw]
      exact .ok k rfl
    · trivial
  · trivial
theorem truthM_ok {x : V} {d : D} (k : Ok ρ S M) (h : Rl ρ S M x d) : Sm ρ S M (fun _ _ _ b c => b = c) (truthM x M) (lift (truth d S) S) := by
  unfold truthM
  split
  · rename_i a ha
    refine .lift fun w hw => ?_
    rw [truth_ok (rd_ok k h ha) hw]
    exact .ok k rfl
  · trivial
theorem idxM_ok {x y : V} {d e : D} (k : Ok ρ S M) (h : Rl ρ S M x d) (h2 : Rl ρ S M y e) : Sm ρ S M KR (idxM x y M) (idxD d e S) := by
  unfold idxM rd2
  split
  · rename_i a ha
    split
    · rename_i c hc
      refine .lift fun w hw => ?_
      obtain ⟨z, q1, q2⟩ := idx_ok (rd_ok k h ha) (rd_ok k h2 hc) hw
      rw [q1]
      exact .ok k (.of q2)
    · trivial
  · trivial
theorem sliM_ok {x : V} {d : D} {lo hi st : Option Int} (k : Ok ρ S M) (h : Rl ρ S M x d) {b : Nat} (hb : b ≤ S.length) : Sm ρ S M (KP b) (sliM x lo hi st M) (sliD d lo hi st S) := by
  unfold sliM
  split
  · rename_i a ha
    exact .lift fun w hw => .po k hb (sli_ok (rd_ok k h ha) hw)
  · trivial
/-- calls -/
def ClOk (cv : ClV) (cl : Cl) : Prop := ∀ (g : Nat) (vs : List V) (ds : List D) (ρ : List Nat) (S : Store) (M : MS), Ok ρ S M → RlL ρ S M vs ds → Sm ρ S M KR (cv g vs M) (cl g ds S)
theorem rl_int {i : Int} : Rl ρ S M (.int i) (.int i) := rfl
theorem Rl.sh {v : V} {d : D} (h : Rl ρ S M v d) (nr : ∀ id, v ≠ .ref id) : Sh S (um ρ M) v d := by
  cases v <;> first | exact h | (exact absurd rfl (nr _))
def fldD (P : Prg) (cl : Cl) (f : String) (d : D) (S : Store) : R D := match d with
    | .loc n => match S[n]? with
      | some (.ins c fs) => match P.prop c f with
        | some g => (cl g [d] S).calm
        | none => if P.fld c f then lift (look f fs) S else .bad
      | _ => .bad
    | _ => .bad
theorem fldM_ok {x : V} {d : D} {f : String} (C : ClOk cv cl) (k : Ok ρ S M) (h : Rl ρ S M x d) : Sm ρ S M KR (fldM P cv x f M) (fldD P cl f d S) := by
  unfold fldM
  split
  · rename_i c fs hr
    obtain ⟨n, gs, e1, e2, q⟩ := (rd_ok k h hr).ins
    subst e1
    simp only [fldD, e2]
    split
    · rename_i g hg
      try simp only [hg]
      exact (C _ _ _ _ _ _ k (.cons h .nil)).calm
    · rename_i hg
      try simp only [hg]
      split
      · refine .lift fun w hw => ?_
        obtain ⟨z, q1, q2⟩ := look_ok q hw
        rw [q1]
        exact .ok k (Rl.of q2)
      · trivial
  · trivial
theorem rl_ref {id n : Nat} (h : ρ[id]? = some n) : Rl ρ S M (.ref id) (.loc n) := ⟨n, h, rfl⟩
theorem perm_ok {vs : List V} {ds : List D} (h : RlL ρ S M vs ds) (perm : List Nat) : RlL ρ S M (permV .non perm vs) (permD perm ds) := by
  unfold permV permD
  split
  · exact h
  · have one : ∀ i, Rl ρ S M (vs.getD i .non) (ds.getD i .non) := fun i => by
      rw [List.getD_eq_getElem?_getD, List.getD_eq_getElem?_getD]
      cases e : vs[i]? with
      | none =>
        have : ds[i]? = none := by
          rw [List.getElem?_eq_none_iff] at e ⊢
          rw [← h.len]
          exact e
        rw [this]
        rfl
      | some v =>
        obtain ⟨d, h1, h2⟩ := h.get e
        rw [h1]
        exact h2
    clear h
    induction perm with
    | nil => exact .nil
    | cons a r ih => exact .cons (one a) (by
        rcases r with _ | ⟨b, r⟩
        · exact .nil
        · exact ih (by simp))
/-- the numbers behind one are forgotten -/
theorem take_ok (k : Ok ρ S M) (n : Nat) : Ok (ρ.take n) S (M.take n) ∧ ∀ j, mu (ρ.take n) (M.take n) j → ∃ i v, i < n ∧ ρ[i]? = some j ∧ M[i]? = some ⟨true, v⟩ := by
  have get : ∀ {α : Type} {l : List α} {i : Nat} {a : α}, (l.take n)[i]? = some a → i < n ∧ l[i]? = some a := fun h => by
    rw [List.getElem?_take] at h
    split at h
    · exact ⟨by assumption, h⟩
    · cases h
  have hmu : ∀ j, mu (ρ.take n) (M.take n) j → ∃ i v, i < n ∧ ρ[i]? = some j ∧ M[i]? = some ⟨true, v⟩ := fun j ⟨i, v, h1, h2⟩ => ⟨i, v, (get h1).1, (get h1).2, (get h2).2⟩
  refine ⟨⟨by simp [k.len], fun i j m h1 h2 => k.inj i j m (get h1).2 (get h2).2, fun i m o h1 h2 => ?_⟩, hmu⟩
  obtain ⟨x, q1, q2⟩ := k.obj i m o (get h1).2 (get h2).2
  refine ⟨x, q1, ShO.mono (fun j o u e => ⟨e, fun z => ?_⟩) q2⟩
  obtain ⟨i, v, _, z1, z2⟩ := hmu j z
  exact u ⟨i, v, z1, z2⟩
theorem take_step {ρ0 : List Nat} {S0 : Store} {M0 : MS} (k : Ok ρ S M) (s : Step ρ0 S0 M0 ρ S M) {n : Nat} (hn : ρ0.length ≤ n) : Step ρ0 S0 M0 (ρ.take n) S (M.take n) := by
  refine ⟨s.len, s.fr, fun j h1 h2 => ?_, fun i m h => ?_⟩
  · obtain ⟨i, v, _, z1, z2⟩ := (take_ok k n).2 j h2
    exact s.mu j h1 ⟨i, v, z1, z2⟩
  · rw [List.getElem?_take, if_pos (Nat.lt_of_lt_of_le (lt_of_some h) hn)]
    exact s.pre i m h
theorem take_sh (k : Ok ρ S M) {n : Nat} {v : V} {d : D} (h : Sh S (um ρ M) v d) : Sh S (um (ρ.take n) (M.take n)) v d :=
  Sh.mono (fun j o u e => ⟨e, fun z => by
    obtain ⟨i, v, _, z1, z2⟩ := (take_ok k n).2 j z
    exact u ⟨i, v, z1, z2⟩⟩) v d h
theorem mkM_ok {c : Nat} {perm : List Nat} {vs : List V} {ds : List D} (C : ClOk cv cl) (k : Ok ρ S M) (h : RlL ρ S M vs ds) : Sm ρ S M KR (mkM P cv c perm vs M) (match P.init c with
    | some g => (cl g (permD perm (.loc S.length :: ds)) (S ++ [.ins c []])).bind fun r S' => match r with
      | .non => .ok (.loc S.length) S'
      | _ => .bad
    | none => .bad) := by
  unfold mkM
  split
  · rename_i g hg
    try simp only [hg]
    obtain ⟨k1, s1⟩ := thaw_ok (o := .ins c []) (v := .ins c []) true k (by simp only [ShO]; exact ⟨[], rfl, by simp only [ShF]⟩)
    have s1 := s1 .refl
    have hid : (ρ ++ [S.length])[M.length]? = some S.length := by rw [← k.len]; simp
    have := C g (permV .non perm (.ref M.length :: vs)) (permD perm (.loc S.length :: ds)) _ _ _ k1 (perm_ok (.cons (rl_ref hid) (s1.rlL h)) perm)
    cases q : cv g (permV .non perm (.ref M.length :: vs)) (M ++ [⟨true, .ins c []⟩]) with
    | bad => trivial
    | exc x M' =>
      rw [q] at this
      obtain ⟨ρ', S', y, h1, h2, h3, h4⟩ := this
      rw [h1]
      exact ⟨ρ', S', y, rfl, s1.trans h2, h3, h4⟩
    | ok r M' =>
      rw [q] at this
      obtain ⟨ρ', S', d, h1, h2, h3, h4⟩ := this
      rw [h1]
      simp only [RV.bind, R.bind]
      cases r with
      | non =>
        have : d = .non := by simpa only [Rl, Sh] using h4
        subst this
        simp only
        split
        · rename_i o ho
          have hρ := h2.pre _ _ hid
          obtain ⟨m, g1, g2⟩ := h3.obj _ _ _ hρ ho
          obtain ⟨t1, t2⟩ := take_ok h3 M.length
          refine ⟨ρ'.take M.length, S', .loc S.length, rfl, take_step h3 (s1.trans h2) (Nat.le_of_eq k.len), t1, .of ?_⟩
          refine (ShO.mono (fun j o u e => ⟨e, fun z => ?_⟩) g2).sh (fun z => ?_) g1
          · obtain ⟨i, v, _, z1, z2⟩ := t2 j z
            exact u ⟨i, v, z1, z2⟩
          · obtain ⟨i, v, z0, z1, z2⟩ := t2 _ z
            have := h3.inj _ _ _ hρ z1
            omega
        · trivial
      | _ => trivial
  · trivial
theorem bi1M_ok {b : Bi} {x : V} {d : D} (C : ClOk cv cl) (k : Ok ρ S M) (h : Rl ρ S M x d) {n : Nat} (hn : n ≤ S.length) : Sm ρ S M (KP n) (bi1M P cv b x M) (bi1 P cl b d S) := by
  unfold bi1M
  split
  · trivial
  · rename_i v hv
    have T := rd_ok k h hv
    split
    · rename_i ts
      refine .lift fun w hw => ?_
      simp only [Option.map_eq_some_iff] at hw
      obtain ⟨z, h1, h2⟩ := hw
      subst h2
      have : bi1 P cl (.isinst ts) d S = .ok (.bl z) S := by simp only [bi1, isAny_ok T h1, Option.map_some, Mi.lift]
      rw [this]
      exact .ok k ⟨rfl, fun z => by cases z⟩
    · rename_i hb
      split
      · rename_i hi
        exact .lift fun w hw => .po k hn (bi1_ok (fun ts e => hb ts e) T hi hw)
      · rename_i c hi
        split
        · trivial
        · rename_i m hm
          split
          · rename_i g hg
            cases v <;> simp only [insV] at hi <;> try (cases hi; done)
            cases hi
            obtain ⟨p, gs, e1, e2, q⟩ := T.ins
            subst e1
            have call := (C g [x] [.loc p] _ _ _ k (.cons h .nil)).calm
            cases b <;> simp only [dund] at hm <;> try (cases hm; done)
            all_goals cases hm
            all_goals simp only [bi1, biLen, biStr, biBool, e2, hg]
            all_goals refine call.bind fun ρ' S' M' r e s o k2 => ?_
            all_goals split <;> try trivial
            · rename_i hd
              cases r <;> simp only [dundOk] at hd <;> try (cases hd; done)
              simp only [Rl, Sh] at k2
              subst k2
              simp only
              have hd := of_decide_eq_true hd
              rw [if_pos (by omega)]
              exact .ok o ⟨rfl, fun z => by cases z⟩
            · rename_i hd
              cases r <;> simp only [dundOk] at hd <;> try (cases hd; done)
              simp only [Rl, Sh] at k2
              subst k2
              exact .ok o ⟨rfl, fun z => by cases z⟩
            · rename_i hd
              cases r <;> simp only [dundOk] at hd <;> try (cases hd; done)
              simp only [Rl, Sh] at k2
              subst k2
              exact .ok o ⟨rfl, fun z => by cases z⟩
          · trivial
theorem biM_ok {b : Bi} {vs : List V} {ds : List D} (C : ClOk cv cl) (k : Ok ρ S M) (h : RlL ρ S M vs ds) {n : Nat} (hn : n ≤ S.length) : Sm ρ S M (KP n) (biM P cv b vs M) (biE P cl b ds S) := by
  unfold biM
  split
  · cases h
    split
    · exact .po k hn (.inr ⟨.lst [], rfl, by simp only [ShO]; exact ⟨_, rfl, .nil⟩⟩)
    · exact .po k hn (.inr ⟨.dic [], rfl, by simp only [ShO]; exact ⟨_, rfl, by simp only [ShK]⟩⟩)
    · trivial
  · cases h with
    | cons a b =>
      cases b
      exact bi1M_ok C k a hn
  · rename_i v w
    cases h with
    | @cons _ d _ es a b2 =>
      cases b2 with
      | @cons _ e _ _ a2 b3 =>
        cases b3
        refine .lift fun u hu => ?_
        have nr : ∀ (z : V), (∀ id, z ≠ .ref id) ∨ ∃ id, z = .ref id := fun z => by
          cases z <;> first | exact .inr ⟨_, rfl⟩ | exact .inl fun _ e => by cases e
        have two : (∀ id, v ≠ .ref id) ∧ (∀ id, w ≠ .ref id) := by
          unfold bi2V at hu
          split at hu
          · exact ⟨fun _ e => (by cases e), fun _ e => (by cases e)⟩
          · exact ⟨fun _ e => (by cases e), fun _ e => (by cases e)⟩
          · exact ⟨fun _ e => (by cases e), fun _ e => (by cases e)⟩
          · cases hu
        obtain ⟨x, h1, h2⟩ := bi2_ok (a.sh two.1).sub (a2.sh two.2).sub hu
        have : biE P cl b [d, e] S = .ok x S := h1
        rw [this]
        have nld : isLD u = false := by
          unfold bi2V at hu
          split at hu
          · cases hu; rfl
          · cases hu; rfl
          · split at hu
            · cases hu; rfl
            · cases hu
          · cases hu
        exact .ok k ⟨.of h2, fun z => by rw [nld] at z; cases z⟩
  · trivial
theorem mutL_ok {x : V} {d : D} {id : Nat} {l : List V} (k : Ok ρ S M) (h : Rl ρ S M x d) (e : mutL M x = some (id, l)) : ∃ n ds, d = .loc n ∧ ρ[id]? = some n ∧ M[id]? = some ⟨true, .lst l⟩ ∧ S[n]? = some (.lst ds) ∧ ShL S (um ρ M) l ds := by
  cases x <;> simp only [mutL] at e <;> try (cases e; done)
  obtain ⟨n, h1, h2⟩ := h
  subst h2
  split at e
  · rename_i l2 hl
    cases e
    obtain ⟨m, q1, q2⟩ := k.obj _ _ _ h1 hl
    simp only [ShO] at q2
    obtain ⟨ds, q3, q4⟩ := q2
    subst q3
    exact ⟨n, ds, rfl, h1, hl, q1, q4⟩
  · cases e
theorem appM_ok {x v : V} {d e : D} (k : Ok ρ S M) (h : Rl ρ S M x d) (h2 : Rl ρ S M v e) : Sm ρ S M KR (appM x v M) (mbAppend d e S) := by
  have : mbAppend d e S = (R.ok e S).bind fun e S => mbAppend d e S := rfl
  rw [this]
  unfold appM
  refine (Sm.frz k h2).bind fun ρ' S' M' w f s o ⟨q1, q2, q3⟩ => ?_
  subst q2 q3
  split
  · rename_i id l hl
    obtain ⟨n, ds, e1, e2, e3, e4, e5⟩ := mutL_ok o (s.rl h) hl
    subst e1
    split
    · rename_i c
      simp only [mbAppend, e4]
      rw [if_pos (by rw [← e5.len]; exact c)]
      obtain ⟨a, b⟩ := set_ok (v := .lst (l ++ [w])) (m := .lst (ds ++ [f])) o e2 e3 (by simp only [ShO]; exact ⟨_, rfl, e5.append (.single q1)⟩)
      exact ⟨_, _, _, rfl, b, a, rfl⟩
    · trivial
  · trivial
theorem rds_ok {vs ws : List V} {ds : List D} (k : Ok ρ S M) (h : RlL ρ S M vs ds) (e : rds M vs = some ws) : ws.length = ds.length ∧ ∀ (i : Nat) (w : V) (d : D), ws[i]? = some w → ds[i]? = some d → ShT S (um ρ M) w d := by
  induction h generalizing ws with
  | nil =>
    simp only [rds, Option.some.injEq] at e
    subst e
    exact ⟨rfl, fun i w d h => by simp at h⟩
  | @cons v d r es a b ih =>
    simp only [rds] at e
    split at e
    · rename_i w hw
      split at e
      · rename_i ws2 hws
        cases e
        obtain ⟨l, g⟩ := ih hws
        refine ⟨by simp [l], fun i x y h1 h2 => ?_⟩
        cases i with
        | zero =>
          cases h1
          cases h2
          exact rd_ok k a hw
        | succ i => exact g i x y (by simpa using h1) (by simpa using h2)
      · cases e
    · cases e
theorem mbM_ok {m : Mb} {x : V} {d : D} {vs : List V} {ds : List D} (k : Ok ρ S M) (h : Rl ρ S M x d) (h2 : RlL ρ S M vs ds) {b : Nat} (hb : b ≤ S.length) : Sm ρ S M (fun ρ S M v d => Rl ρ S M v d ∧ (m = .split → isLD v = true → Fr b ρ S M v d)) (mbM m x vs M) (mbE m d ds S) := by
  have weak : ∀ {rv : RV V} {r : R D}, m ≠ .split → Sm ρ S M KR rv r → Sm ρ S M (fun ρ S M v d => Rl ρ S M v d ∧ (m = .split → isLD v = true → Fr b ρ S M v d)) rv r := fun hm s => s.imp fun _ _ _ _ _ _ q => ⟨q, fun e => absurd e hm⟩
  have gen : m ≠ .split → m ≠ .get2 → Sm ρ S M KR (match rd M x with
      | some o => match rds M vs with
        | some ws => liftV (mbV m o ws) M
        | none => .bad
      | none => .bad) (mbE m d ds S) := fun hm hg => by
    split
    · rename_i o ho
      split
      · rename_i ws hws
        obtain ⟨l, g⟩ := rds_ok k h2 hws
        exact .lift fun u hu => .pr k (mb_ok (rd_ok k h ho) l g (fun _ _ _ _ _ e => absurd e hg) hu)
      · trivial
    · trivial
  unfold mbM
  split
  · refine weak (fun e => by cases e) ?_
    split
    · rename_i v
      cases h2 with
      | cons a c =>
        cases c
        exact appM_ok k h a
    · trivial
  · refine weak (fun e => by cases e) ?_
    split
    · cases h2
      split
      · rename_i id l hl
        obtain ⟨n, ds, e1, e2, e3, e4, e5⟩ := mutL_ok k h hl
        subst e1
        split
        · rename_i v hv
          rw [List.getLast?_eq_getElem?] at hv
          obtain ⟨z, q1, q2⟩ := e5.get hv
          have q3 : ds.getLast? = some z := by rw [List.getLast?_eq_getElem?, ← e5.len]; exact q1
          simp only [mbE, mbPop0, e4, q3]
          obtain ⟨a, c⟩ := set_ok (v := .lst l.dropLast) (m := .lst ds.dropLast) k e2 e3 (by simp only [ShO]; exact ⟨_, rfl, e5.dropLast⟩)
          exact ⟨_, _, _, rfl, c, a, .of (c.sh q2)⟩
        · trivial
      · trivial
    · trivial
  · refine weak (fun e => by cases e) ?_
    split
    · rename_i v
      cases h2 with
      | @cons _ e _ _ a c =>
        cases c
        split
        · rename_i id l hl
          obtain ⟨n, ds, e1, e2, e3, e4, e5⟩ := mutL_ok k h hl
          subst e1
          split
          · rename_i i
            simp only [Rl, Sh] at a
            subst a
            unfold popAt
            split
            · rename_i c
              split
              · rename_i v hv
                obtain ⟨z, q1, q2⟩ := e5.get hv
                simp only [mbE, mb1, mbPop1, e4]
                rw [if_pos (by omega)]
                simp only [q1]
                obtain ⟨a, c⟩ := set_ok (v := .lst (l.eraseIdx i.toNat)) (m := .lst (ds.eraseIdx i.toNat)) k e2 e3 (by simp only [ShO]; exact ⟨_, rfl, e5.eraseIdx _⟩)
                exact ⟨_, _, _, rfl, c, a, .of (c.sh q2)⟩
              · trivial
            · trivial
          · trivial
        · trivial
    · trivial
  · trivial
  · refine weak (fun e => by cases e) ?_
    have : mbE .get2 d ds S = (R.ok ds S).bind fun ds S => mbE .get2 d ds S := rfl
    rw [this]
    refine (Sm.frzs k h2).bind fun ρ' S' M' ws es s o ⟨q1, q2, q3, q4⟩ => ?_
    subst q2 q3 q4
    split
    · rename_i o2 ho
      refine .lift fun u hu => .pr o (mb_ok (rd_ok o (s.rl h) ho) q1.len (fun i v e a b => (q1.get2 a b).sub) (fun i v e a b _ => q1.get2 a b) hu)
    · trivial
  · by_cases hm : m = .split
    · subst hm
      split
      · rename_i o ho
        split
        · rename_i ws hws
          obtain ⟨l, g⟩ := rds_ok k h2 hws
          exact .lift fun u hu => (Sm.po k hb (split_ok (rd_ok k h ho) l g hu)).imp fun _ _ _ _ _ _ q => ⟨q.1, fun _ => q.2⟩
        · trivial
      · trivial
    · exact weak hm (gen hm (by assumption))
theorem mbOk_ok {m : Mb} {v : V} {U : Nat → Prop} {d : D} (h : ShT S U v d) (q : mbOkV m v = true) : mbOk m d S = true := by
  unfold mbOkV at q
  unfold mbOk
  split at q
  · rename_i t ht
    rw [ty_ok h ht]
    exact q
  · cases q
end Mv
set_option maxRecDepth 10000
/-! W5: runs of expressions. -/
namespace Mv
open Mi
structure RE (ρ : List Nat) (S : Store) (M : MS) (ve : VE) (de : Env) : Prop where
  len : ve.length = de.length
  get : ∀ (i : Nat) (v : V), ve[i]? = some (some v) → ∃ d, de[i]? = some (some d) ∧ Rl ρ S M v d
theorem Step.re {ρ ρ' : List Nat} {S S' : Store} {M M' : MS} (s : Step ρ S M ρ' S' M') {ve : VE} {de : Env} (h : RE ρ S M ve de) : RE ρ' S' M' ve de :=
  ⟨h.len, fun i v q => by obtain ⟨d, h1, h2⟩ := h.get i v q; exact ⟨d, h1, s.rl h2⟩⟩
theorem RE.set {ρ : List Nat} {S : Store} {M : MS} {ve : VE} {de : Env} (h : RE ρ S M ve de) (i : Nat) {v : V} {d : D} (q : Rl ρ S M v d) : RE ρ S M (ve.set i (some v)) (de.set i (some d)) := by
  refine ⟨by simp [h.len], fun j w g => ?_⟩
  by_cases e : i = j
  · subst e
    have hi : i < ve.length := by have := lt_of_some g; simpa using this
    rw [List.getElem?_set_self hi] at g
    cases g
    exact ⟨d, List.getElem?_set_self (by rw [← h.len]; exact hi), q⟩
  · rw [List.getElem?_set_ne e] at g
    obtain ⟨d2, h1, h2⟩ := h.get j w g
    exact ⟨d2, by rw [List.getElem?_set_ne e]; exact h1, h2⟩
theorem RE.unset {ρ : List Nat} {S : Store} {M : MS} {ve : VE} {de : Env} (h : RE ρ S M ve de) (i : Nat) : RE ρ S M (ve.set i none) (de.set i none) := by
  refine ⟨by simp [h.len], fun j w g => ?_⟩
  by_cases e : i = j
  · subst e
    have hi : i < ve.length := by have := lt_of_some g; simpa using this
    rw [List.getElem?_set_self hi] at g
    cases g
  · rw [List.getElem?_set_ne e] at g
    obtain ⟨d2, h1, h2⟩ := h.get j w g
    exact ⟨d2, by rw [List.getElem?_set_ne e]; exact h1, h2⟩
theorem RE.unsets {ρ : List Nat} {S : Store} {M : MS} : ∀ (own : List Nat) {ve : VE} {de : Env}, RE ρ S M ve de → RE ρ S M (setAll ve own none) (setAll de own none)
  | [], _, _, h => h
  | i :: r, _, _, h => RE.unsets r (h.unset i)
/-! lists that are walked -/
mutual
theorem flat_eq {S S' : Store} {U U' : Nat → Prop} : ∀ (v : V) (d d' : D), v.flat = true → Sh S U v d → Sh S' U' v d' → d = d'
  | .non, d, d', f, h, h' => by simp only [Sh] at h h'; rw [h, h']
  | .bl _, d, d', f, h, h' => by simp only [Sh] at h h'; rw [h, h']
  | .int _, d, d', f, h, h' => by simp only [Sh] at h h'; rw [h, h']
  | .str _, d, d', f, h, h' => by simp only [Sh] at h h'; rw [h, h']
  | .glo _, d, d', f, h, h' => by simp only [Sh] at h h'; rw [h, h']
  | .tup l, d, d', f, h, h' => by
    simp only [Sh] at h h'
    obtain ⟨ds, e, q⟩ := h
    obtain ⟨ds', e', q'⟩ := h'
    simp only [V.flat] at f
    rw [e, e', flats_eq l ds ds' f q q']
  | .lst l, d, d', f, h, h' => by simp [V.flat] at f
  | .fls l, d, d', f, h, h' => by simp [V.flat] at f
  | .ins _ l, d, d', f, h, h' => by simp [V.flat] at f
  | .dic l, d, d', f, h, h' => by simp [V.flat] at f
  | .exn _ l, d, d', f, h, h' => by simp [V.flat] at f
  | .ref l, d, d', f, h, h' => by simp [V.flat] at f
theorem flats_eq {S S' : Store} {U U' : Nat → Prop} : ∀ (v : List V) (d d' : List D), V.flats v = true → ShL S U v d → ShL S' U' v d' → d = d'
  | [], d, d', f, h, h' => by simp only [ShL] at h h'; rw [h, h']
  | v :: r, d, d', f, h, h' => by
    simp only [ShL] at h h'
    obtain ⟨x, xs, e, q1, q2⟩ := h
    obtain ⟨x', xs', e', q1', q2'⟩ := h'
    simp only [V.flats, Bool.and_eq_true] at f
    rw [e, e', flat_eq v x x' f.1 q1 q1', flats_eq r xs xs' f.2 q2 q2']
end
def RG (ρ : List Nat) (S : Store) (M : MS) (lv : List (Nat × List V)) (ld : List (Nat × List D)) : Prop := ∀ n l, (n, l) ∈ ld → (um ρ M n ∧ (S[n]? = some (.lst l) ∨ S[n]? = some (.fls l))) ∨ ∃ id xs, (id, xs) ∈ lv ∧ ρ[id]? = some n ∧ V.flats xs = true ∧ ShL S (um ρ M) xs l
theorem Step.rg {ρ ρ' : List Nat} {S S' : Store} {M M' : MS} (s : Step ρ S M ρ' S' M') {lv : List (Nat × List V)} {ld : List (Nat × List D)} (h : RG ρ S M lv ld) : RG ρ' S' M' lv ld := fun n l m => by
  rcases h n l m with ⟨a, b | b⟩ | ⟨id, xs, a, b, c, d⟩
  · exact .inl ⟨(s.ap n _ a b).2, .inl (s.ap n _ a b).1⟩
  · exact .inl ⟨(s.ap n _ a b).2, .inr (s.ap n _ a b).1⟩
  · exact .inr ⟨id, xs, a, s.pre _ _ b, c, s.shL d⟩
theorem same_of {S : Store} : ∀ {ld : List (Nat × List D)}, (∀ n l, (n, l) ∈ ld → S[n]? = some (.lst l) ∨ S[n]? = some (.fls l)) → same S ld = true
  | [], _ => rfl
  | (n, l) :: r, h => by
    simp only [same, Bool.and_eq_true]
    refine ⟨?_, same_of fun n l m => h n l (List.mem_cons_of_mem _ m)⟩
    rcases h n l List.mem_cons_self with e | e
    · rw [e]; simp
    · rw [e]; simp
theorem sameV_mem {M : MS} : ∀ {lv : List (Nat × List V)}, sameV M lv = true → ∀ {id : Nat} {xs : List V}, (id, xs) ∈ lv → ∃ b, M[id]? = some ⟨b, .lst xs⟩
  | [], _, _, _, m => by cases m
  | (i, l) :: r, h, id, xs, m => by
    simp only [sameV, Bool.and_eq_true] at h
    rcases List.mem_cons.mp m with e | m
    · cases e
      have := h.1
      split at this
      · rename_i b k hk
        rw [V.beqs_eq _ _ this] at hk
        exact ⟨_, hk⟩
      · cases this
    · exact sameV_mem h.2 m
theorem guard_ok {ρ : List Nat} {S : Store} {M : MS} {lv : List (Nat × List V)} {ld : List (Nat × List D)} (k : Ok ρ S M) (h : RG ρ S M lv ld) (e : sameV M lv = true) : same S ld = true :=
  same_of fun n l m => by
    rcases h n l m with ⟨_, a⟩ | ⟨id, xs, a, b, c, d⟩
    · exact a
    · obtain ⟨bb, q⟩ := sameV_mem e a
      obtain ⟨mo, q1, q2⟩ := k.obj _ _ _ b q
      simp only [ShO] at q2
      obtain ⟨ds, q3, q4⟩ := q2
      subst q3
      rw [flats_eq _ _ _ c q4 d] at q1
      exact .inl q1
abbrev KI : KS (List V × List (Nat × List V)) (List D × List (Nat × List D)) := fun ρ S M a b => ShL S (um ρ M) a.1 b.1 ∧ RG ρ S M a.2 b.2
section
variable {ρ : List Nat} {S : Store} {M : MS} {P : Prg} {cv : ClV} {cl : Cl}
theorem RG.nil : RG ρ S M [] [] := fun n l m => by cases m
theorem seq_ok {v : V} {d : D} (k : Ok ρ S M) (h : Rl ρ S M v d) {w : List V × List (Nat × List V)} (q : seqM M v = some w) : ∃ u, seqD S d = some u ∧ KI ρ S M w u := by
  cases v <;> simp only [seqM, Option.some.injEq] at q <;> try (cases q; done)
  · subst q
    simp only [Rl, Sh] at h
    obtain ⟨ds, e, h⟩ := h
    subst e
    exact ⟨(ds, []), rfl, h, .nil⟩
  · subst q
    simp only [Rl, Sh] at h
    obtain ⟨n, ds, e, u, h1, h2⟩ := h
    subst e
    refine ⟨(ds, [(n, ds)]), by simp only [seqD, h1], h2, fun m l hm => ?_⟩
    cases List.mem_singleton.mp hm
    exact .inl ⟨u, .inl h1⟩
  · subst q
    simp only [Rl, Sh] at h
    obtain ⟨n, ds, e, u, h1, h2⟩ := h
    subst e
    refine ⟨(ds, [(n, ds)]), by simp only [seqD, h1], h2, fun m l hm => ?_⟩
    cases List.mem_singleton.mp hm
    exact .inl ⟨u, .inr h1⟩
  · rename_i id
    split at q
    · rename_i b l hl
      split at q
      · rename_i hf
        cases q
        obtain ⟨n, h1, h2⟩ := h
        subst h2
        obtain ⟨mo, q1, q2⟩ := k.obj _ _ _ h1 hl
        simp only [ShO] at q2
        obtain ⟨ds, q3, q4⟩ := q2
        subst q3
        refine ⟨(ds, [(n, ds)]), by simp only [seqD, q1], q4, fun m l2 hm => ?_⟩
        cases List.mem_singleton.mp hm
        exact .inr ⟨id, l, List.mem_singleton.mpr rfl, h1, hf, q4⟩
      · cases q
    · cases q
theorem walk_ok {v : V} {d : D} (k : Ok ρ S M) (h : Rl ρ S M v d) {w : List V × List (Nat × List V)} (q : walkM M v = some w) : ∃ u, walkD S d = some u ∧ KI ρ S M w u := by
  unfold walkM at q
  split at q
  · rename_i s
    cases q
    simp only [Rl, Sh] at h
    subst h
    refine ⟨_, rfl, ?_, .nil⟩
    show ShL _ _ (s.map _) (s.map _)
    induction s with
    | nil => exact .nil
    | cons a r ih => exact .cons (by simp only [Sh]) ih
  · obtain ⟨u, h1, h2⟩ := seq_ok k h q
    refine ⟨u, ?_, h2⟩
    cases d <;> simp only [seqD, walkD] at h1 ⊢ <;> first | exact h1 | (cases h1; done)
theorem sh_range (lo hi : Int) {U : Nat → Prop} : ShL S U (rangeV lo hi) (rangeL lo hi) := by
  unfold rangeV rangeL
  generalize List.range (hi - lo).toNat = l
  induction l with
  | nil => exact .nil
  | cons a r ih => exact .cons (by simp only [Sh]) ih
theorem sh_enum {U : Nat → Prop} : ∀ (k : Nat) {l : List V} {ds : List D}, ShL S U l ds → ShL S U (enumV k l) (enumL k ds)
  | k, [], ds, h => by simp only [ShL] at h; subst h; exact .nil
  | k, v :: r, ds, h => by
    simp only [ShL] at h
    obtain ⟨d, es, e, h1, h2⟩ := h
    subst e
    simp only [enumV, enumL]
    exact .cons (by simp only [Sh]; exact ⟨_, rfl, .cons (by simp only [Sh]) (.single h1)⟩) (sh_enum (k + 1) h2)
theorem sh_zip {U : Nat → Prop} : ∀ {l : List V} {ds : List D} {m : List V} {es : List D}, ShL S U l ds → ShL S U m es → ShL S U (zipV l m) (zipL ds es)
  | [], ds, m, es, h, h' => by simp only [ShL] at h; subst h; simp only [zipV, zipL]; exact .nil
  | v :: r, ds, [], es, h, h' => by
    simp only [ShL] at h h'
    obtain ⟨d, es, e, h1, h2⟩ := h
    subst e h'
    simp only [zipV, zipL]
    exact .nil
  | v :: r, ds, w :: m, es, h, h' => by
    simp only [ShL] at h h'
    obtain ⟨d, es, e, h1, h2⟩ := h
    obtain ⟨d', es', e', h1', h2'⟩ := h'
    subst e e'
    simp only [zipV, zipL]
    exact .cons (by simp only [Sh]; exact ⟨_, rfl, .cons h1 (.single h1')⟩) (sh_zip h2 h2')
theorem RG.app {a c : List (Nat × List V)} {b d : List (Nat × List D)} (h : RG ρ S M a b) (h2 : RG ρ S M c d) : RG ρ S M (a ++ c) (b ++ d) := fun n l m => by
  rcases List.mem_append.mp m with m | m
  · rcases h n l m with q | ⟨id, xs, q, r⟩
    · exact .inl q
    · exact .inr ⟨id, xs, List.mem_append_left _ q, r⟩
  · rcases h2 n l m with q | ⟨id, xs, q, r⟩
    · exact .inl q
    · exact .inr ⟨id, xs, List.mem_append_right _ q, r⟩
abbrev KO : KS (Option V) (Option D) := fun ρ S M a b => match a, b with
  | some v, some d => Sh S (um ρ M) v d
  | none, none => True
  | _, _ => False
abbrev KL : KS (List V) (List D) := fun ρ S M a b => ShL S (um ρ M) a b
theorem lcV_ok {fv : V → MS → RV (Option V)} {f : D → Store → R (Option D)} {gv : MS → Bool} {g : Store → Bool} {ρ0 : List Nat} {S0 : Store} {M0 : MS}
    (hf : ∀ ρ S M v d, Step ρ0 S0 M0 ρ S M → Ok ρ S M → Sh S (um ρ M) v d → Sm ρ S M KO (fv v M) (f d S))
    (hg : ∀ ρ S M, Step ρ0 S0 M0 ρ S M → Ok ρ S M → gv M = true → g S = true) :
    ∀ (l : List V) (ds : List D) (acc : List V) (accD : List D) (ρ : List Nat) (S : Store) (M : MS), Step ρ0 S0 M0 ρ S M → Ok ρ S M → ShL S (um ρ M) l ds → ShL S (um ρ M) acc accD → Sm ρ S M KL (lcV fv gv acc l M) (lcL f g accD ds S)
  | [], ds, acc, accD, ρ, S, M, s, k, h, h2 => by
    simp only [ShL] at h
    subst h
    simp only [lcV, lcL]
    split
    · rename_i c
      rw [if_pos (hg _ _ _ s k c)]
      exact .ok k h2
    · trivial
  | v :: r, ds, acc, accD, ρ, S, M, s, k, h, h2 => by
    simp only [ShL] at h
    obtain ⟨d, es, e, h3, h4⟩ := h
    subst e
    simp only [lcV, lcL]
    split
    · rename_i c
      rw [if_pos (hg _ _ _ s k c)]
      have one := hf _ _ _ _ _ s k h3
      cases q : fv v M with
      | bad => trivial
      | exc x M' => trivial
      | ok o M' =>
        rw [q] at one
        obtain ⟨ρ', S', a, e1, s1, k1, q1⟩ := one
        rw [e1]
        cases o with
        | none =>
          cases a with
          | none => exact (lcV_ok hf hg r es acc accD ρ' S' M' (s.trans s1) k1 (s1.shL h4) (s1.shL h2)).step s1
          | some a => exact False.elim q1
        | some w =>
          cases a with
          | none => exact False.elim q1
          | some a =>
            simp only
            rw [h2.len]
            split
            · exact (lcV_ok hf hg r es (acc ++ [w]) (accD ++ [a]) ρ' S' M' (s.trans s1) k1 (s1.shL h4) ((s1.shL h2).append (.single q1))).step s1
            · trivial
    · trivial
abbrev KE (e : E) (b : Nat) : KS V D := fun ρ S M v d => Rl ρ S M v d ∧ (fresh e = true → isLD v = true → Fr b ρ S M v d)
theorem Sm.wk {e : E} {b : Nat} {rv : RV V} {r : R D} (hf : fresh e = false) (h : Sm ρ S M KR rv r) : Sm ρ S M (KE e b) rv r := h.imp fun _ _ _ _ _ _ q => ⟨q, fun z => by rw [hf] at z; cases z⟩
theorem Sm.kq {e : E} {b : Nat} {rv : RV V} {r : R D} (h : Sm ρ S M (KP b) rv r) : Sm ρ S M (KE e b) rv r := h.imp fun _ _ _ _ _ _ q => ⟨q.1, fun _ => q.2⟩
theorem Sm.ke {e : E} {b : Nat} {rv : RV V} {r : R D} (h : Sm ρ S M (KE e b) rv r) : Sm ρ S M KR rv r := h.imp fun _ _ _ _ _ _ q => q.1
theorem Fr.le {b c : Nat} {v : V} {d : D} (h : b ≤ c) (q : Fr c ρ S M v d) : Fr b ρ S M v d := by
  obtain ⟨S1, o, h1, h2, h3, h4⟩ := q
  exact ⟨S1, o, h1, h2, Nat.le_trans h h3, h4⟩
theorem Sm.alloc {b : Nat} {v : V} {o : MO} (k : Ok ρ S M) (hb : b ≤ S.length) (h : ShO S (um ρ M) v o) : Sm ρ S M (KP b) (.ok v M) (Mi.alloc o S) := .po k hb (.inr ⟨o, rfl, h⟩)
theorem shO_lst {U : Nat → Prop} {l : List V} {ds : List D} (h : ShL S U l ds) : ShO S U (.lst l) (.lst ds) := by simp only [ShO]; exact ⟨_, rfl, h⟩
theorem itM_ok {b : Bi} {it : I} {l : List V} {ds : List D} (k : Ok ρ S M) (h : ShL S (um ρ M) l ds) {n : Nat} (hn : n ≤ S.length) : Sm ρ S M (KP n) (itM b l M) (match b with
      | .tuple1 => .ok (.tup ds) S
      | .list1 => Mi.alloc (.lst ds) S
      | .dict1 => match dicOf ds [] with
        | some kvs => Mi.alloc (.dic kvs) S
        | none => .bad
      | _ => .bad) := by
  unfold itM
  split
  · exact .po k hn (.inl ⟨_, rfl, by simp only [Sh]; exact ⟨_, rfl, h⟩, rfl⟩)
  · exact .alloc k hn (shO_lst h)
  · split
    · rename_i kvs hk
      obtain ⟨rs, h3, h4⟩ := dicOf_ok (es := []) h (by simp only [ShK]) hk
      simp only [h3]
      exact .alloc k hn (by simp only [ShO]; exact ⟨_, rfl, h4⟩)
    · trivial
  · trivial
theorem lenTgs_ok {l : List V} {ds : List D} {U : Nat → Prop} (h : ShL S U l ds) : l.length = ds.length := h.len
theorem setIdx_ok {x i v : V} {xd id' d : D} (k : Ok ρ S M) (hx : Rl ρ S M x xd) (hi : Rl ρ S M i id') (hv : Rl ρ S M v d) : Sm ρ S M (fun _ _ _ _ _ => True) (setIdxM x i v M) (setIdx xd id' d S) := by
  have : setIdx xd id' d S = (R.ok d S).bind fun d S => setIdx xd id' d S := rfl
  rw [this]
  unfold setIdxM
  refine (Sm.frz k hv).bind fun ρ' S' M' w f s o ⟨q1, q2, q3⟩ => ?_
  subst q2 q3
  have hx := s.rl hx
  have hi := s.rl hi
  split
  · rename_i id
    obtain ⟨n, h1, h2⟩ := hx
    subst h2
    split
    · rename_i l hl
      obtain ⟨m, g1, g2⟩ := o.obj _ _ _ h1 hl
      simp only [ShO] at g2
      obtain ⟨ds, g3, g4⟩ := g2
      subst g3
      split
      · rename_i j hi
        have hi : id' = .int j := by simpa only [Rl, Sh] using hi
        subst hi
        simp only [setIdx, g1]
        rw [g4.len]
        split
        · obtain ⟨a, b⟩ := set_ok (v := .lst (l.set j.toNat w)) (m := .lst (ds.set j.toNat f)) o h1 hl (by simp only [ShO]; exact ⟨_, rfl, g4.set _ q1⟩)
          exact ⟨_, _, _, rfl, b, a, trivial⟩
        · trivial
      · trivial
    · rename_i kvs hl
      obtain ⟨m, g1, g2⟩ := o.obj _ _ _ h1 hl
      simp only [ShO] at g2
      obtain ⟨es, g3, g4⟩ := g2
      subst g3
      split
      · rename_i c
        have nr : ∀ id, i ≠ .ref id := fun z e => by subst e; cases c.1
        have hi := hi.sh nr
        have hk := key_ok c.1 hi.sub
        simp only [setIdx, g1]
        rw [if_pos ⟨hk, by rw [← g4.len]; exact c.2⟩]
        obtain ⟨a, b⟩ := set_ok (v := .dic (dicPutV i w kvs)) (m := .dic (dicPut id' f es)) o h1 hl (by simp only [ShO]; exact ⟨_, rfl, dicPut_ok c.1 hi q1 g4⟩)
        exact ⟨_, _, _, rfl, b, a, trivial⟩
      · trivial
    · trivial
  · trivial
theorem setFld_ok {x v : V} {xd d : D} {f : String} (k : Ok ρ S M) (hx : Rl ρ S M x xd) (hv : Rl ρ S M v d) : Sm ρ S M (fun _ _ _ _ _ => True) (setFldM P x f v M) (setFld P xd f d S) := by
  have : setFld P xd f d S = (R.ok d S).bind fun d S => setFld P xd f d S := rfl
  rw [this]
  unfold setFldM
  refine (Sm.frz k hv).bind fun ρ' S' M' w e s o ⟨q1, q2, q3⟩ => ?_
  subst q2 q3
  have hx := s.rl hx
  split
  · rename_i id
    obtain ⟨n, h1, h2⟩ := hx
    subst h2
    split
    · rename_i c fs hl
      obtain ⟨m, g1, g2⟩ := o.obj _ _ _ h1 hl
      simp only [ShO] at g2
      obtain ⟨gs, g3, g4⟩ := g2
      subst g3
      simp only [setFld, g1]
      rw [g4.len]
      split
      · obtain ⟨a, b⟩ := set_ok (v := .ins c (putV f w fs)) (m := .ins c (put f e gs)) o h1 hl (by simp only [ShO]; exact ⟨_, rfl, put_ok q1 g4⟩)
        exact ⟨_, _, _, rfl, b, a, trivial⟩
      · trivial
    · trivial
  · trivial
end
end Mv
set_option maxRecDepth 10000
set_option maxHeartbeats 1000000
/-! W6: what the values say of an expression, the store does. -/
namespace Mv
open Mi
section
variable {P : Prg} {cv : ClV} {cl : Cl} (C : ClOk cv cl)
include C
mutual
theorem eV_ok : ∀ (e : E) {ρ : List Nat} {S : Store} {M : MS} {env : VE} {de : Env}, Ok ρ S M → RE ρ S M env de → Sm ρ S M (KE e S.length) (eV P cv e env M) (evE P cl e de S)
  | .never, _, _, _, _, _, k, r => by simp only [eV]; trivial
  | .int i, _, _, _, _, _, k, r => by simp only [eV, evE]; exact .ok k ⟨rfl, fun z => by cases z⟩
  | .str i, _, _, _, _, _, k, r => by simp only [eV, evE]; exact .ok k ⟨rfl, fun z => by cases z⟩
  | .bl i, _, _, _, _, _, k, r => by simp only [eV, evE]; exact .ok k ⟨rfl, fun z => by cases z⟩
  | .non, _, _, _, _, _, k, r => by simp only [eV, evE]; exact .ok k ⟨rfl, fun z => by cases z⟩
  | .var i, _, _, _, env, de, k, r => by
    simp only [eV, evE]
    split
    · rename_i v hv
      obtain ⟨d, h1, h2⟩ := r.get i v hv
      rw [h1]
      exact .ok k ⟨h2, fun z => by cases z⟩
    · trivial
  | .con d, _, _, _, _, _, k, r => by
    simp only [eV, evE]
    exact .lift fun v hv => .ok k ⟨.of (ofD_ok d v hv), fun z => by cases z⟩
  | .bin op a b, ρ, S, M, env, de, k, r => by
    simp only [eV, evE]
    refine (eV_ok a k r).bind fun ρ1 S1 M1 x d s1 k1 h1 => ?_
    refine (eV_ok b k1 (s1.re r)).bind fun ρ2 S2 M2 y e s2 k2 h2 => ?_
    exact (bopM_ok k2 (s2.rl h1.1) h2.1 (s1.trans s2).len).kq
  | .neg a, ρ, S, M, env, de, k, r => by
    simp only [eV, evE]
    refine (eV_ok a k r).bind fun ρ1 S1 M1 x d s1 k1 h1 => ?_
    split
    · rename_i i
      have : d = .int i := by simpa only [Rl, Sh] using h1.1
      subst this
      exact .ok k1 ⟨rfl, fun z => by cases z⟩
    · trivial
  | .cmp op a b, ρ, S, M, env, de, k, r => by
    simp only [eV, evE]
    refine (eV_ok a k r).bind fun ρ1 S1 M1 x d s1 k1 h1 => ?_
    refine (eV_ok b k1 (s1.re r)).bind fun ρ2 S2 M2 y e s2 k2 h2 => ?_
    have : cmpD op d e S2 = (lift (cop op d e S2) S2).bind fun k S => .ok (D.bl k) S := by
      unfold cmpD
      cases cop op d e S2 <;> rfl
    rw [this]
    refine (copM_ok k2 (s2.rl h1.1) h2.1).bind fun ρ3 S3 M3 u w s3 k3 h3 => ?_
    subst h3
    exact .ok k3 ⟨rfl, fun z => by cases z⟩
  | .cmp2 o1 o2 a b c, ρ, S, M, env, de, k, r => by
    simp only [eV, evE]
    refine (eV_ok a k r).bind fun ρ1 S1 M1 x d s1 k1 h1 => ?_
    refine (eV_ok b k1 (s1.re r)).bind fun ρ2 S2 M2 y e s2 k2 h2 => ?_
    refine (copM_ok k2 (s2.rl h1.1) h2.1).bind fun ρ3 S3 M3 u w s3 k3 h3 => ?_
    subst h3
    cases u with
    | false => exact .ok k3 ⟨rfl, fun z => by cases z⟩
    | true =>
      simp only [if_true]
      refine (eV_ok c k3 (s3.re (s2.re (s1.re r)))).bind fun ρ4 S4 M4 z f s4 k4 h4 => ?_
      have : lift ((cop o2 e f S4).map D.bl) S4 = (lift (cop o2 e f S4) S4).bind fun k S => .ok (D.bl k) S := by
        cases cop o2 e f S4 <;> rfl
      rw [this]
      refine (copM_ok k4 (s4.rl (s3.rl h2.1)) h4.1).bind fun ρ5 S5 M5 u w s5 k5 h5 => ?_
      subst h5
      exact .ok k5 ⟨rfl, fun z => by cases z⟩
  | .andE a b, ρ, S, M, env, de, k, r => by
    simp only [eV, evE]
    refine (eV_ok a k r).bind fun ρ1 S1 M1 x d s1 k1 h1 => ?_
    refine (truthM_ok k1 h1.1).bind fun ρ2 S2 M2 u w s2 k2 h2 => ?_
    subst h2
    cases u with
    | false => exact .ok k2 ⟨s2.rl h1.1, fun z => by cases z⟩
    | true => exact (eV_ok b k2 (s2.re (s1.re r))).ke.wk rfl
  | .orE a b, ρ, S, M, env, de, k, r => by
    simp only [eV, evE]
    refine (eV_ok a k r).bind fun ρ1 S1 M1 x d s1 k1 h1 => ?_
    refine (truthM_ok k1 h1.1).bind fun ρ2 S2 M2 u w s2 k2 h2 => ?_
    subst h2
    cases u with
    | true => exact .ok k2 ⟨s2.rl h1.1, fun z => by cases z⟩
    | false => exact (eV_ok b k2 (s2.re (s1.re r))).ke.wk rfl
  | .notE a, ρ, S, M, env, de, k, r => by
    simp only [eV, evE]
    refine (eV_ok a k r).bind fun ρ1 S1 M1 x d s1 k1 h1 => ?_
    refine (truthM_ok k1 h1.1).bind fun ρ2 S2 M2 u w s2 k2 h2 => ?_
    subst h2
    exact .ok k2 ⟨rfl, fun z => by cases z⟩
  | .ite c a b, ρ, S, M, env, de, k, r => by
    simp only [eV, evE]
    refine (eV_ok c k r).bind fun ρ1 S1 M1 x d s1 k1 h1 => ?_
    refine (truthM_ok k1 h1.1).bind fun ρ2 S2 M2 u w s2 k2 h2 => ?_
    subst h2
    have hb := (s1.trans s2).len
    cases u with
    | true => exact (eV_ok a k2 (s2.re (s1.re r))).imp fun _ _ _ _ _ _ q => ⟨q.1, fun z y => (q.2 (by simp only [fresh, Bool.and_eq_true] at z; exact z.1) y).le hb⟩
    | false => exact (eV_ok b k2 (s2.re (s1.re r))).imp fun _ _ _ _ _ _ q => ⟨q.1, fun z y => (q.2 (by simp only [fresh, Bool.and_eq_true] at z; exact z.2) y).le hb⟩
  | .tup es, ρ, S, M, env, de, k, r => by
    simp only [eV, evE]
    refine (eVs_ok es k r).bind fun ρ1 S1 M1 vs ds s1 k1 h1 => ?_
    have : (if ds.length ≤ szl then .ok (.tup ds) S1 else .bad : R D) = (R.ok ds S1).bind fun ds S1 => if ds.length ≤ szl then .ok (.tup ds) S1 else .bad := rfl
    rw [this]
    refine (Sm.frzs k1 h1).bind fun ρ2 S2 M2 ws es s2 k2 ⟨h2, h3, h4, h5⟩ => ?_
    rw [h2.len]
    split
    · exact .ok k2 ⟨.of (by simp only [Sh]; exact ⟨_, rfl, h2⟩), fun z => by cases z⟩
    · trivial
  | .lst es, ρ, S, M, env, de, k, r => by
    simp only [eV, evE]
    refine (eVs_ok es k r).bind fun ρ1 S1 M1 vs ds s1 k1 h1 => ?_
    have : (if ds.length ≤ szl then alloc (.lst ds) S1 else .bad : R D) = (R.ok ds S1).bind fun ds S1 => if ds.length ≤ szl then alloc (.lst ds) S1 else .bad := rfl
    rw [this]
    refine (Sm.frzs k1 h1).bind fun ρ2 S2 M2 ws es s2 k2 ⟨h2, h3, h4, h5⟩ => ?_
    rw [h2.len]
    split
    · exact (Sm.alloc k2 (s1.trans s2).len (shO_lst h2)).kq
    · trivial
  | .idx a i, ρ, S, M, env, de, k, r => by
    simp only [eV, evE]
    refine (eV_ok a k r).bind fun ρ1 S1 M1 x d s1 k1 h1 => ?_
    refine (eV_ok i k1 (s1.re r)).bind fun ρ2 S2 M2 y e s2 k2 h2 => ?_
    exact (idxM_ok k2 (s2.rl h1.1) h2.1).wk rfl
  | .sli a lo hi st, ρ, S, M, env, de, k, r => by
    simp only [eV, evE]
    refine (eV_ok a k r).bind fun ρ1 S1 M1 x d s1 k1 h1 => ?_
    refine (eVo_ok lo k1 (s1.re r)).bind fun ρ2 S2 M2 l l' s2 k2 h2 => ?_
    refine (eVo_ok hi k2 (s2.re (s1.re r))).bind fun ρ3 S3 M3 h h' s3 k3 h3 => ?_
    refine (eVo_ok st k3 (s3.re (s2.re (s1.re r)))).bind fun ρ4 S4 M4 t t' s4 k4 h4 => ?_
    subst h2 h3 h4
    exact (sliM_ok k4 (s4.rl (s3.rl (s2.rl h1.1))) (s1.trans (s2.trans (s3.trans s4))).len).kq
  | .fld a f, ρ, S, M, env, de, k, r => by
    simp only [eV, evE]
    refine (eV_ok a k r).bind fun ρ1 S1 M1 x d s1 k1 h1 => ?_
    show Sm _ _ _ _ _ (fldD P cl f d S1)
    exact (fldM_ok C k1 h1.1).wk rfl
  | .call g perm es, ρ, S, M, env, de, k, r => by
    simp only [eV, evE]
    refine (eVs_ok es k r).bind fun ρ1 S1 M1 vs ds s1 k1 h1 => ?_
    exact (C g _ _ _ _ _ k1 (perm_ok h1 perm)).wk rfl
  | .mk c perm es, ρ, S, M, env, de, k, r => by
    simp only [eV, evE]
    refine (eVs_ok es k r).bind fun ρ1 S1 M1 vs ds s1 k1 h1 => ?_
    exact (mkM_ok C k1 h1).wk rfl
  | .cm c g perm es, ρ, S, M, env, de, k, r => by
    simp only [eV, evE]
    refine (eVs_ok es k r).bind fun ρ1 S1 M1 vs ds s1 k1 h1 => ?_
    exact (C g _ _ _ _ _ k1 (perm_ok (.cons (show Rl ρ1 S1 M1 (.glo c) (.glo c) from rfl) h1) perm)).wk rfl
  | .mth o m perm es, ρ, S, M, env, de, k, r => by
    simp only [eV, evE]
    refine (eV_ok o k r).bind fun ρ1 S1 M1 x d s1 k1 h1 => ?_
    unfold mthM
    split
    · rename_i c fs hr
      obtain ⟨n, gs, e1, e2, q⟩ := (rd_ok k1 h1.1 hr).ins
      subst e1
      simp only [e2]
      split
      · rename_i g hg
        try simp only [hg]
        split
        · rename_i hl
          rw [if_pos (look_none q hl)]
          refine (eVs_ok es k1 (s1.re r)).bind fun ρ2 S2 M2 vs ds s2 k2 h2 => ?_
          exact (C g _ _ _ _ _ k2 (perm_ok (.cons (s2.rl h1.1) h2) perm)).wk rfl
        · trivial
      · trivial
    · trivial
  | .callv i es, ρ, S, M, env, de, k, r => by
    simp only [eV, evE]
    split
    · rename_i g hg
      obtain ⟨d, h1, h2⟩ := r.get i _ hg
      have : d = .glo g := by simpa only [Rl, Sh] using h2
      subst this
      rw [h1]
      refine (eVs_ok es k r).bind fun ρ2 S2 M2 vs ds s2 k2 h2 => ?_
      exact (C g _ _ _ _ _ k2 h2).wk rfl
    · trivial
  | .bi b es, ρ, S, M, env, de, k, r => by
    simp only [eV, evE]
    refine (eVs_ok es k r).bind fun ρ1 S1 M1 vs ds s1 k1 h1 => ?_
    exact (biM_ok C k1 h1 s1.len).kq
  | .mb m o es, ρ, S, M, env, de, k, r => by
    simp only [eV, evE]
    refine (eV_ok o k r).bind fun ρ1 S1 M1 x d s1 k1 h1 => ?_
    split
    · rename_i v hv
      split
      · rename_i hm
        rw [if_pos (mbOk_ok (rd_ok k1 h1.1 hv) hm)]
        refine (eVs_ok es k1 (s1.re r)).bind fun ρ2 S2 M2 vs ds s2 k2 h2 => ?_
        exact (mbM_ok k2 (s2.rl h1.1) h2 (s1.trans s2).len).imp fun _ _ _ _ _ _ q => ⟨q.1, fun z => q.2 (by cases m <;> first | rfl | (simp [fresh] at z))⟩
      · trivial
    · trivial
  | .lc elt t it cs own, ρ, S, M, env, de, k, r => by
    simp only [eV, evE]
    refine (eVi_ok it k r).bind fun ρ1 S1 M1 src srcD s1 k1 h1 => ?_
    refine (lcV_ok (ρ0 := ρ1) (S0 := S1) (M0 := M1) (fun ρ2 S2 M2 v d s2 k2 h2 => ?_) (fun ρ2 S2 M2 s2 k2 h2 => guard_ok k2 (s2.rg h1.2) h2) src.1 srcD.1 [] [] ρ1 S1 M1 .refl k1 h1.1 .nil).bind fun ρ2 S2 M2 l ds s2 k2 h2 => ?_
    · refine (eVt_ok t k2 (.of h2) ((s2.re (s1.re r)).unsets own)).bind fun ρ3 S3 M3 env3 de3 s3 k3 h3 => ?_
      refine (eVc_ok cs k3 h3).bind fun ρ4 S4 M4 u w s4 k4 h4 => ?_
      subst h4
      cases u with
      | false => exact .ok k4 trivial
      | true =>
        simp only [if_true]
        refine (eV_ok elt k4 (s4.re h3)).bind fun ρ5 S5 M5 e d5 s5 k5 h5 => ?_
        have : (R.ok (some d5) S5 : R (Option D)) = (R.ok d5 S5).bind fun d5 S5 => .ok (some d5) S5 := rfl
        rw [this]
        refine (Sm.frz k5 h5.1).bind fun ρ6 S6 M6 w f s6 k6 ⟨q1, q2, q3⟩ => ?_
        exact .ok k6 q1
    · exact (Sm.alloc k2 (s1.trans s2).len (shO_lst h2)).kq
  | .ofIt b it, ρ, S, M, env, de, k, r => by
    simp only [eV, evE]
    refine (eVi_ok it k r).bind fun ρ1 S1 M1 src srcD s1 k1 h1 => ?_
    exact (itM_ok (it := it) k1 h1.1 s1.len).kq
theorem eVs_ok : ∀ (es : Es) {ρ : List Nat} {S : Store} {M : MS} {env : VE} {de : Env}, Ok ρ S M → RE ρ S M env de → Sm ρ S M RlL (eVs P cv es env M) (evEs P cl es de S)
  | .nil, _, _, _, _, _, k, r => by simp only [eVs, evEs]; exact .ok k .nil
  | .cons e es, ρ, S, M, env, de, k, r => by
    simp only [eVs, evEs]
    refine (eV_ok e k r).bind fun ρ1 S1 M1 x d s1 k1 h1 => ?_
    refine (eVs_ok es k1 (s1.re r)).bind fun ρ2 S2 M2 y e s2 k2 h2 => ?_
    exact .ok k2 (.cons (s2.rl h1.1) h2)
  | .star e es, ρ, S, M, env, de, k, r => by
    simp only [eVs, evEs]
    refine (eV_ok e k r).bind fun ρ1 S1 M1 x d s1 k1 h1 => ?_
    split
    · rename_i w hw
      split
      · rename_i l hl
        obtain ⟨ds, g1, g2⟩ := items_ok (rd_ok k1 h1.1 hw) hl
        simp only [g1]
        refine (eVs_ok es k1 (s1.re r)).bind fun ρ2 S2 M2 y e s2 k2 h2 => ?_
        exact .ok k2 (RlL.app (s2.rlL (.of g2)) h2)
      · trivial
    · trivial
theorem eVo_ok : ∀ (o : Oe) {ρ : List Nat} {S : Store} {M : MS} {env : VE} {de : Env}, Ok ρ S M → RE ρ S M env de → Sm ρ S M (fun _ _ _ a b => a = b) (eVo P cv o env M) (evO P cl o de S)
  | .none, _, _, _, _, _, k, r => by simp only [eVo, evO]; exact .ok k rfl
  | .some e, ρ, S, M, env, de, k, r => by
    simp only [eVo, evO]
    refine (eV_ok e k r).bind fun ρ1 S1 M1 x d s1 k1 h1 => ?_
    split
    · rename_i i
      have : d = .int i := by simpa only [Rl, Sh] using h1.1
      subst this
      exact .ok k1 rfl
    · trivial
theorem eVc_ok : ∀ (es : Es) {ρ : List Nat} {S : Store} {M : MS} {env : VE} {de : Env}, Ok ρ S M → RE ρ S M env de → Sm ρ S M (fun _ _ _ a b => a = b) (eVc P cv es env M) (evC P cl es de S)
  | .nil, _, _, _, _, _, k, r => by simp only [eVc, evC]; exact .ok k rfl
  | .cons e es, ρ, S, M, env, de, k, r => by
    simp only [eVc, evC]
    refine (eV_ok e k r).bind fun ρ1 S1 M1 x d s1 k1 h1 => ?_
    refine (truthM_ok k1 h1.1).bind fun ρ2 S2 M2 u w s2 k2 h2 => ?_
    subst h2
    cases u with
    | false => exact .ok k2 rfl
    | true => exact eVc_ok es k2 (s2.re (s1.re r))
  | .star _ _, _, _, _, _, _, k, r => by simp only [eVc]; trivial
theorem eVi_ok : ∀ (it : I) {ρ : List Nat} {S : Store} {M : MS} {env : VE} {de : Env}, Ok ρ S M → RE ρ S M env de → Sm ρ S M KI (eVi P cv it env M) (evI P cl it de S)
  | .val e, ρ, S, M, env, de, k, r => by
    simp only [eVi, evI]
    refine (eV_ok e k r).bind fun ρ1 S1 M1 x d s1 k1 h1 => ?_
    refine .lift fun w hw => ?_
    obtain ⟨u, q1, q2⟩ := walk_ok k1 h1.1 hw
    rw [q1]
    exact .ok k1 q2
  | .rng1 a, ρ, S, M, env, de, k, r => by
    simp only [eVi, evI]
    refine (eV_ok a k r).bind fun ρ1 S1 M1 x d s1 k1 h1 => ?_
    split
    · rename_i i
      have : d = .int i := by simpa only [Rl, Sh] using h1.1
      subst this
      simp only
      unfold rng1M
      split
      · rw [if_pos (by omega)]
        exact .ok k1 ⟨sh_range _ _, .nil⟩
      · trivial
    · trivial
  | .rng2 a b, ρ, S, M, env, de, k, r => by
    simp only [eVi, evI]
    refine (eV_ok a k r).bind fun ρ1 S1 M1 x d s1 k1 h1 => ?_
    refine (eV_ok b k1 (s1.re r)).bind fun ρ2 S2 M2 y e s2 k2 h2 => ?_
    split
    · rename_i i j
      have : d = .int i := by simpa only [Rl, Sh] using h1.1
      subst this
      have : e = .int j := by simpa only [Rl, Sh] using h2.1
      subst this
      simp only
      unfold rng2M
      split
      · rw [if_pos (by omega)]
        exact .ok k2 ⟨sh_range _ _, .nil⟩
      · trivial
    · trivial
  | .enum e, ρ, S, M, env, de, k, r => by
    simp only [eVi, evI]
    refine (eV_ok e k r).bind fun ρ1 S1 M1 x d s1 k1 h1 => ?_
    refine Sm.bind (K := KI) (.lift fun w hw => ?_) fun ρ2 S2 M2 w u s2 k2 h2 => ?_
    · obtain ⟨u, q1, q2⟩ := seq_ok k1 h1.1 hw
      rw [q1]
      exact .ok k1 q2
    · exact .ok k2 ⟨sh_enum 0 h2.1, h2.2⟩
  | .zip a b, ρ, S, M, env, de, k, r => by
    simp only [eVi, evI]
    refine (eV_ok a k r).bind fun ρ1 S1 M1 x d s1 k1 h1 => ?_
    refine (eV_ok b k1 (s1.re r)).bind fun ρ2 S2 M2 y e s2 k2 h2 => ?_
    refine Sm.bind (K := KI) (.lift fun w hw => ?_) fun ρ3 S3 M3 w u s3 k3 h3 => ?_
    · obtain ⟨u, q1, q2⟩ := seq_ok k2 (s2.rl h1.1) hw
      rw [q1]
      exact .ok k2 q2
    refine Sm.bind (K := KI) (.lift fun w hw => ?_) fun ρ4 S4 M4 w2 u2 s4 k4 h4 => ?_
    · obtain ⟨u, q1, q2⟩ := seq_ok k3 (s3.rl h2.1) hw
      rw [q1]
      exact .ok k3 q2
    · exact .ok k4 ⟨sh_zip (s4.shL h3.1) h4.1, RG.app (s4.rg h3.2) h4.2⟩
  | .items e, _, _, _, _, _, k, r => by simp only [eVi]; trivial
theorem eVt_ok : ∀ (t : Tg) {v : V} {d : D} {ρ : List Nat} {S : Store} {M : MS} {env : VE} {de : Env}, Ok ρ S M → Rl ρ S M v d → RE ρ S M env de → Sm ρ S M RE (eVt P cv t v env M) (evT P cl t d de S)
  | .name i, v, d, ρ, S, M, env, de, k, h, r => by
    simp only [eVt, evT]
    rw [r.len]
    split
    · exact .ok k (r.set i h)
    · trivial
  | .tup ts, v, d, ρ, S, M, env, de, k, h, r => by
    simp only [eVt, evT]
    split
    · rename_i l
      obtain ⟨ds, e, q⟩ : ∃ ds, d = .tup ds ∧ ShL S (um ρ M) l ds := by simpa only [Rl, Sh] using h
      subst e
      simp only
      rw [q.len]
      split
      · exact eVts_ok ts k (.of q) r
      · trivial
    · trivial
  | .sub o i, v, d, ρ, S, M, env, de, k, h, r => by
    simp only [eVt, evT]
    refine (Sm.calm (Sm.bind (K2 := fun _ _ _ _ _ => True) (eV_ok o k r) fun ρ1 S1 M1 x xd s1 k1 h1 => ?_)).bind fun ρ3 S3 M3 _ _ s3 k3 _ => .ok k3 (s3.re r)
    refine (eV_ok i k1 (s1.re r)).bind fun ρ2 S2 M2 y e s2 k2 h2 => ?_
    exact setIdx_ok k2 (s2.rl h1.1) h2.1 (s2.rl (s1.rl h))
  | .attr o f, v, d, ρ, S, M, env, de, k, h, r => by
    simp only [eVt, evT]
    refine (Sm.calm (Sm.bind (K2 := fun _ _ _ _ _ => True) (eV_ok o k r) fun ρ1 S1 M1 x xd s1 k1 h1 => ?_)).bind fun ρ3 S3 M3 _ _ s3 k3 _ => .ok k3 (s3.re r)
    exact setFld_ok k1 h1.1 (s1.rl h)
theorem eVts_ok : ∀ (ts : Tgs) {vs : List V} {ds : List D} {ρ : List Nat} {S : Store} {M : MS} {env : VE} {de : Env}, Ok ρ S M → RlL ρ S M vs ds → RE ρ S M env de → Sm ρ S M RE (eVts P cv ts vs env M) (evTs P cl ts ds de S)
  | .nil, vs, ds, ρ, S, M, env, de, k, h, r => by
    cases h with
    | nil => simp only [eVts, evTs]; exact .ok k r
    | cons a b => simp only [eVts]; trivial
  | .cons t ts, vs, ds, ρ, S, M, env, de, k, h, r => by
    cases h with
    | nil => simp only [eVts]; trivial
    | cons a b =>
      simp only [eVts, evTs]
      refine (eVt_ok t k a r).bind fun ρ1 S1 M1 env1 de1 s1 k1 h1 => ?_
      exact eVts_ok ts k1 (s1.rlL b) h1
end
end
end Mv
set_option maxRecDepth 10000
set_option maxHeartbeats 1000000
/-! W7: statements, defs. -/
namespace Mv
open Mi
section
variable {ρ : List Nat} {S : Store} {M : MS}
/-- how a statement ends -/
abbrev KS2 : KS OV O := fun ρ S M a b => match a, b with
  | .next e, .next f => RE ρ S M e f
  | .ret v, .ret d => Rl ρ S M v d
  | .brk e, .brk f => RE ρ S M e f
  | .cont e, .cont f => RE ρ S M e f
  | .exn x e, .exn y f => RX ρ S M x y ∧ RE ρ S M e f
  | _, _ => False
theorem Sm.bindS {β α : Type} {K : KS β α} {rv : RV β} {r : R α} {env : VE} {de : Env} {kv : β → MS → RV OV} {k : α → Store → R O} (h : Sm ρ S M K rv r) (re : RE ρ S M env de)
    (h2 : ∀ ρ' S' M' b a, Step ρ S M ρ' S' M' → Ok ρ' S' M' → K ρ' S' M' b a → Sm ρ' S' M' KS2 (kv b M') (k a S')) : Sm ρ S M KS2 (rv.bindS env kv) (r.bindS de k) := by
  cases rv with
  | bad => trivial
  | ok b M' =>
    obtain ⟨ρ', S', a, h1, hs, h3, h4⟩ := h
    subst h1
    exact (h2 ρ' S' M' b a hs h3 h4).step hs
  | exc x M' =>
    obtain ⟨ρ', S', a, h1, hs, h3, h4⟩ := h
    subst h1
    exact ⟨ρ', S', _, rfl, hs, h3, h4, hs.re re⟩
theorem thaw_sm {v : V} {d : D} {b : Nat} (k : Ok ρ S M) (h : Rl ρ S M v d) (f : isLD v = true → Fr b ρ S M v d) {ρ0 : List Nat} {S0 : Store} {M0 : MS} (s : Step ρ0 S0 M0 ρ S M) (hb : S0.length ≤ b) : Sm ρ0 S0 M0 KR (thaw v M) (.ok d S) := by
  have key : isLD v = true → ∃ M', thaw v M = .ok (.ref M.length) M' ∧ M' = M ++ [⟨true, v⟩] := fun z => by
    cases v <;> first | exact ⟨_, rfl, rfl⟩ | (cases z; done)
  by_cases z : isLD v = true
  · obtain ⟨M', e, e2⟩ := key z
    rw [e, e2]
    obtain ⟨S1, o, h1, h2, h3, h4, h5⟩ := f z
    subst h1 h2
    obtain ⟨k2, s2⟩ := thaw_ok true h4 h5
    refine ⟨ρ ++ [S1.length], _, _, rfl, ?_, k2, ⟨S1.length, by rw [← h4.len]; simp, rfl⟩⟩
    have sl : S0.length ≤ S1.length := Nat.le_trans hb h3
    have s1 : Step ρ0 S0 M0 ρ S1 M := ⟨sl, fun n a c => by
      rw [← s.fr n a c, List.getElem?_append_left (Nat.lt_of_lt_of_le a sl)], s.mu, s.pre⟩
    exact s2 s1
  · have : thaw v M = .bad := by cases v <;> first | rfl | exact absurd rfl z
    rw [this]
    trivial
theorem forV_ok {bv : V → VE → MS → RV VE} {b : D → Env → Store → R Env} {sv : VE → MS → RV OV} {s : Env → Store → R O} {gv : MS → Bool} {g : Store → Bool} {ρ0 : List Nat} {S0 : Store} {M0 : MS}
    (hb : ∀ ρ S M v d env de, Step ρ0 S0 M0 ρ S M → Ok ρ S M → Sh S (um ρ M) v d → RE ρ S M env de → Sm ρ S M RE (bv v env M) (b d de S))
    (hs : ∀ ρ S M env de, Step ρ0 S0 M0 ρ S M → Ok ρ S M → RE ρ S M env de → Sm ρ S M KS2 (sv env M) (s de S))
    (hg : ∀ ρ S M, Step ρ0 S0 M0 ρ S M → Ok ρ S M → gv M = true → g S = true) :
    ∀ (l : List V) (ds : List D) (env : VE) (de : Env) (ρ : List Nat) (S : Store) (M : MS), Step ρ0 S0 M0 ρ S M → Ok ρ S M → ShL S (um ρ M) l ds → RE ρ S M env de → Sm ρ S M KS2 (forV bv sv gv l env M) (forL b s g ds de S)
  | [], ds, env, de, ρ, S, M, st, k, h, r => by
    simp only [ShL] at h
    subst h
    simp only [forV, forL]
    split
    · rename_i c
      rw [if_pos (hg _ _ _ st k c)]
      exact .ok k r
    · trivial
  | v :: l, ds, env, de, ρ, S, M, st, k, h, r => by
    simp only [ShL] at h
    obtain ⟨d, es, e, h3, h4⟩ := h
    subst e
    simp only [forV, forL]
    split
    · rename_i c
      rw [if_pos (hg _ _ _ st k c)]
      refine (hb _ _ _ _ _ _ _ st k h3 r).bindS r fun ρ1 S1 M1 env1 de1 s1 k1 r1 => ?_
      refine (hs _ _ _ _ _ (st.trans s1) k1 r1).bind fun ρ2 S2 M2 o p s2 k2 h2 => ?_
      have next := fun env2 de2 (r2 : RE ρ2 S2 M2 env2 de2) => forV_ok hb hs hg l es env2 de2 ρ2 S2 M2 ((st.trans s1).trans s2) k2 ((s1.trans s2).shL h4) r2
      cases o <;> cases p <;> first | exact next _ _ h2 | exact .ok k2 h2 | exact False.elim h2
    · trivial
theorem whileV_ok {cvv : VE → MS → RV Bool} {c : Env → Store → R Bool} {sv : VE → MS → RV OV} {s : Env → Store → R O} {ρ0 : List Nat} {S0 : Store} {M0 : MS}
    (hc : ∀ ρ S M env de, Step ρ0 S0 M0 ρ S M → Ok ρ S M → RE ρ S M env de → Sm ρ S M (fun _ _ _ a b => a = b) (cvv env M) (c de S))
    (hs : ∀ ρ S M env de, Step ρ0 S0 M0 ρ S M → Ok ρ S M → RE ρ S M env de → Sm ρ S M KS2 (sv env M) (s de S)) :
    ∀ (n : Nat) (env : VE) (de : Env) (ρ : List Nat) (S : Store) (M : MS), Step ρ0 S0 M0 ρ S M → Ok ρ S M → RE ρ S M env de → Sm ρ S M KS2 (whileV cvv sv n env M) (whileL c s n de S)
  | 0, env, de, ρ, S, M, st, k, r => by simp only [whileV]; trivial
  | n + 1, env, de, ρ, S, M, st, k, r => by
    simp only [whileV, whileL]
    refine (hc _ _ _ _ _ st k r).bindS r fun ρ1 S1 M1 u w s1 k1 h1 => ?_
    subst h1
    cases u with
    | false => exact .ok k1 (s1.re r)
    | true =>
      simp only [if_true]
      refine (hs _ _ _ _ _ (st.trans s1) k1 (s1.re r)).bind fun ρ2 S2 M2 o p s2 k2 h2 => ?_
      have next := fun env2 de2 (r2 : RE ρ2 S2 M2 env2 de2) => whileV_ok hc hs n env2 de2 ρ2 S2 M2 ((st.trans s1).trans s2) k2 r2
      cases o <;> cases p <;> first | exact next _ _ h2 | exact .ok k2 h2 | exact False.elim h2
end
theorem RV.assoc {α β γ : Type} (r : RV α) (k : α → MS → RV β) (l : β → MS → RV γ) : (r.bind k).bind l = r.bind fun a M => (k a M).bind l := by cases r <;> rfl
theorem RV.assocS {α β : Type} (r : RV α) (k : α → MS → RV β) (env : VE) (l : β → MS → RV OV) : (r.bind k).bindS env l = r.bindS env fun a M => (k a M).bindS env l := by cases r <;> rfl
def th (b : Bool) (v : V) (M : MS) : RV V := if b = true then thaw v M else .ok v M
section
variable {P : Prg} {cv : ClV} {cl : Cl} (C : ClOk cv cl)
include C
omit C in
theorem raise_ok {c : Nat} {vs : List V} {ds : List D} {ρ : List Nat} {S : Store} {M : MS} {env : VE} {de : Env} (k : Ok ρ S M) (h : RlL ρ S M vs ds) (r : RE ρ S M env de) : Sm ρ S M KS2 (raiseV P c vs env M) (raiseX P c ds de S) := by
  unfold raiseV raiseX
  split
  · rename_i f hf
    try simp only [hf]
    split
    · cases h with
      | @cons v d _ _ a b =>
        cases b
        have : (R.ok (.exn ⟨c, [(f, d)]⟩ de) S : R O) = (R.ok d S).bind fun d S => .ok (.exn ⟨c, [(f, d)]⟩ de) S := rfl
        simp only
        rw [this]
        refine (Sm.frz k a).bind fun ρ' S' M' w e s o ⟨q1, q2, q3⟩ => ?_
        exact .ok o ⟨⟨rfl, by simp only [ShF]; exact ⟨_, _, rfl, q1, rfl⟩⟩, s.re r⟩
    · trivial
  · rename_i hf
    try simp only [hf]
    split
    · cases h
      exact .ok k ⟨⟨rfl, by simp only [ShF]⟩, r⟩
    · trivial
  · trivial
theorem evTh_ok (e : E) (b : Bool) (hb : b = true → fresh e = true) {ρ : List Nat} {S : Store} {M : MS} {env : VE} {de : Env} (k : Ok ρ S M) (r : RE ρ S M env de) : Sm ρ S M KR ((eV P cv e env M).bind (th b)) (evE P cl e de S) := by
  have h := eV_ok (P := P) C e k r
  cases q : eV P cv e env M with
  | bad => trivial
  | exc x M' => rw [q] at h; exact h
  | ok v M' =>
    rw [q] at h
    obtain ⟨ρ', S', d, h1, h2, h3, h4⟩ := h
    rw [h1]
    simp only [RV.bind, th]
    split
    · rename_i c
      exact thaw_sm h3 h4.1 (h4.2 (hb c)) h2 (Nat.le_refl _)
    · exact ⟨ρ', S', d, rfl, h2, h3, h4.1⟩
theorem eVtt_ok (ms : List Nat) : ∀ (ts : Tgs) (es : Es) {ρ : List Nat} {S : Store} {M : MS} {env : VE} {de : Env}, Ok ρ S M → RE ρ S M env de → Sm ρ S M RlL (eVtt P cv ms ts es env M) (evEs P cl es de S)
  | .nil, .nil, _, _, _, _, _, k, r => by simp only [eVtt, evEs]; exact .ok k .nil
  | .nil, .cons .., _, _, _, _, _, k, r => by simp only [eVtt]; trivial
  | .nil, .star .., _, _, _, _, _, k, r => by simp only [eVtt]; trivial
  | .cons .., .nil, _, _, _, _, _, k, r => by simp only [eVtt]; trivial
  | .cons .., .star .., _, _, _, _, _, k, r => by simp only [eVtt]; trivial
  | .cons t ts, .cons e es, ρ, S, M, env, de, k, r => by
    have one : eVtt P cv ms (.cons t ts) (.cons e es) env M = ((eV P cv e env M).bind (th (match t with | .name i => ms.contains i && fresh e | _ => false))).bind fun v M => (eVtt P cv ms ts es env M).bind fun vs M => .ok (v :: vs) M := by
      rw [RV.assoc]
      simp only [eVtt]
      congr 1
      funext v M
      cases t <;> rfl
    rw [one]
    simp only [evEs]
    refine (evTh_ok C e _ (fun z => ?_) k r).bind fun ρ2 S2 M2 v d2 s2 k2 h2 => ?_
    · cases t with
      | name i => simp only [Bool.and_eq_true] at z; exact z.2
      | _ => cases z
    · refine (eVtt_ok ms ts es k2 (s2.re r)).bind fun ρ3 S3 M3 vs ds s3 k3 h3 => ?_
      exact .ok k3 (.cons (s3.rl h2) h3)
theorem asgV_ok (ms : List Nat) (t : Tg) (e : E) {ρ : List Nat} {S : Store} {M : MS} {env : VE} {de : Env} (k : Ok ρ S M) (r : RE ρ S M env de) : Sm ρ S M KS2 (asgV P cv ms t e env M) (evS P cl (.asg t e) de S) := by
  have gen : ∀ b : Bool, (b = true → fresh e = true) → Sm ρ S M KS2 (((eV P cv e env M).bind (th b)).bindS env fun v M => (eVt P cv t v env M).bindS env fun env M => .ok (.next env) M) (evS P cl (.asg t e) de S) := fun b hb => by
    simp only [evS]
    refine (evTh_ok C e b hb k r).bindS r fun ρ1 S1 M1 v d s1 k1 h1 => ?_
    refine (eVt_ok C t k1 h1 (s1.re r)).bindS (s1.re r) fun ρ2 S2 M2 env2 de2 s2 k2 h2 => ?_
    exact .ok k2 h2
  have flat : Sm ρ S M KS2 ((eV P cv e env M).bindS env fun v M => (eVt P cv t v env M).bindS env fun env M => .ok (.next env) M) (evS P cl (.asg t e) de S) := by
    have := gen false (fun z => by cases z)
    rw [RV.assocS] at this
    exact this
  unfold asgV
  split
  · rename_i i
    have := gen (ms.contains i && fresh e) (fun z => by simp only [Bool.and_eq_true] at z; exact z.2)
    rw [RV.assocS] at this
    have e2 : ((eV P cv e env M).bindS env fun v M => if (ms.contains i && fresh e) = true then (thaw v M).bindS env fun v M => (eVt P cv (.name i) v env M).bindS env fun env M => .ok (.next env) M else (eVt P cv (.name i) v env M).bindS env fun env M => .ok (.next env) M) = (eV P cv e env M).bindS env fun a M => (th (ms.contains i && fresh e) a M).bindS env fun v M => (eVt P cv (.name i) v env M).bindS env fun env M => .ok (.next env) M := by
      congr 1
      funext v M
      unfold th
      split <;> rfl
    rw [e2]
    exact this
  · rename_i ts
    split
    · rename_i es
      simp only [evS, evE]
      have e3 : ∀ (r : R (List D)), ((r.bind fun ds S => if ds.length ≤ szl then R.ok (D.tup ds) S else R.bad).bindS de fun d S => (evT P cl (.tup ts) d de S).bindS de fun env S => R.ok (O.next env) S)
          = r.bindS de fun ds S => if ds.length ≤ szl then (if ds.length = ts.len then (evTs P cl ts ds de S).bindS de fun env S => R.ok (O.next env) S else R.bad) else R.bad := fun r => by
        cases r with
        | ok ds S =>
          by_cases c : ds.length ≤ szl
          · by_cases c2 : ds.length = ts.len
            · simp only [R.bind, R.bindS, if_pos c, evT, if_pos c2]
            · simp only [R.bind, R.bindS, if_pos c, evT, if_neg c2]
          · simp only [R.bind, R.bindS, if_neg c]
        | _ => rfl
      rw [e3]
      refine (eVtt_ok C ms ts es k r).bindS r fun ρ1 S1 M1 vs ds s1 k1 h1 => ?_
      rw [h1.len]
      split
      · rename_i c
        rw [if_pos c.1, if_pos c.2]
        refine (eVts_ok C ts k1 h1 (s1.re r)).bindS (s1.re r) fun ρ2 S2 M2 env2 de2 s2 k2 h2 => ?_
        exact .ok k2 h2
      · trivial
    · exact flat
  · exact flat
omit C in
theorem unset_ok {ρ : List Nat} {S : Store} {M : MS} (i : Option Nat) {o : OV} {p : O} (h : KS2 ρ S M o p) : KS2 ρ S M (unsetV i o) (unset i p) := by
  cases i with
  | none => exact h
  | some i =>
    cases o <;> cases p <;> first | exact RE.unset h i | exact h | exact False.elim h
variable (ms : List Nat) (mk : Bool)
mutual
theorem sV_ok : ∀ (s : St) {ρ : List Nat} {S : Store} {M : MS} {env : VE} {de : Env}, Ok ρ S M → RE ρ S M env de → Sm ρ S M KS2 (sV P cv ms mk s env M) (evS P cl s de S)
  | .expr e, ρ, S, M, env, de, k, r => by
    simp only [sV, evS]
    refine (eV_ok C e k r).bindS r fun ρ1 S1 M1 v d s1 k1 h1 => ?_
    exact .ok k1 (s1.re r)
  | .asg t e, ρ, S, M, env, de, k, r => by
    simp only [sV]
    exact asgV_ok C ms t e k r
  | .aug i op e, ρ, S, M, env, de, k, r => by
    simp only [sV, evS]
    refine (eV_ok C (.var i) k r).bindS r fun ρ1 S1 M1 x xd s1 k1 h1 => ?_
    refine (eV_ok C e k1 (s1.re r)).bindS (s1.re r) fun ρ2 S2 M2 y yd s2 k2 h2 => ?_
    have h1 := s2.rl h1.1
    have h2 := h2.1
    split
    · rename_i a b _ _
      have e1 : xd = .int a := by simpa only [Rl, Sh] using h1
      have e2 : yd = .int b := by simpa only [Rl, Sh] using h2
      subst e1 e2
      refine (eVt_ok C (.name i) (v := .int (_ + _)) (d := .int (_ + _)) k2 rl_int (s2.re (s1.re r))).bindS (s2.re (s1.re r)) fun ρ3 S3 M3 env3 de3 s3 k3 h3 => ?_
      exact .ok k3 h3
    · rename_i a b _ _
      have e1 : xd = .int a := by simpa only [Rl, Sh] using h1
      have e2 : yd = .int b := by simpa only [Rl, Sh] using h2
      subst e1 e2
      refine (eVt_ok C (.name i) (v := .int (_ - _)) (d := .int (_ - _)) k2 rl_int (s2.re (s1.re r))).bindS (s2.re (s1.re r)) fun ρ3 S3 M3 env3 de3 s3 k3 h3 => ?_
      exact .ok k3 h3
    · trivial
  | .ifs c a b, ρ, S, M, env, de, k, r => by
    simp only [sV, evS]
    refine (eV_ok C c k r).bindS r fun ρ1 S1 M1 x d s1 k1 h1 => ?_
    refine (truthM_ok k1 h1.1).bindS (s1.re r) fun ρ2 S2 M2 u w s2 k2 h2 => ?_
    subst h2
    cases u with
    | true => exact sVs_ok a k2 (s2.re (s1.re r))
    | false => exact sVs_ok b k2 (s2.re (s1.re r))
  | .for_ t it b, ρ, S, M, env, de, k, r => by
    simp only [sV, evS]
    refine (eVi_ok C it k r).bindS r fun ρ1 S1 M1 src srcD s1 k1 h1 => ?_
    exact forV_ok (ρ0 := ρ1) (S0 := S1) (M0 := M1) (fun ρ2 S2 M2 v d env de s2 k2 h2 r2 => eVt_ok C t k2 (.of h2) r2) (fun ρ2 S2 M2 env de s2 k2 r2 => sVs_ok b k2 r2) (fun ρ2 S2 M2 s2 k2 h2 => guard_ok k2 (s2.rg h1.2) h2) src.1 srcD.1 env de ρ1 S1 M1 .refl k1 h1.1 (s1.re r)
  | .while_ c b, ρ, S, M, env, de, k, r => by
    simp only [sV, evS]
    refine whileV_ok (ρ0 := ρ) (S0 := S) (M0 := M) (fun ρ2 S2 M2 env de s2 k2 r2 => ?_) (fun ρ2 S2 M2 env de s2 k2 r2 => sVs_ok b k2 r2) fuel env de ρ S M .refl k r
    exact (eV_ok C c k2 r2).bind fun ρ3 S3 M3 x d s3 k3 h3 => truthM_ok k3 h3.1
  | .ret e, ρ, S, M, env, de, k, r => by
    simp only [sV, evS]
    have e2 : ((eV P cv e env M).bindS env fun v M => if (mk && fresh e) = true then (thaw v M).bindS env fun v M => .ok (.ret v) M else .ok (.ret v) M) = ((eV P cv e env M).bind (th (mk && fresh e))).bindS env fun v M => .ok (.ret v) M := by
      rw [RV.assocS]
      congr 1
      funext v M
      unfold th
      split <;> rfl
    rw [e2]
    refine (evTh_ok C e _ (fun z => by simp only [Bool.and_eq_true] at z; exact z.2) k r).bindS r fun ρ1 S1 M1 v d s1 k1 h1 => ?_
    exact .ok k1 h1
  | .raise c es, ρ, S, M, env, de, k, r => by
    simp only [sV, evS]
    refine (eVs_ok C es k r).bindS r fun ρ1 S1 M1 v d s1 k1 h1 => ?_
    exact raise_ok k1 h1 (s1.re r)
  | .try_ b cs as h, ρ, S, M, env, de, k, r => by
    simp only [sV, evS]
    refine (sVs_ok b k r).bind fun ρ1 S1 M1 o p s1 k1 h1 => ?_
    cases o <;> cases p <;> try exact False.elim h1
    all_goals try exact .ok k1 h1
    rename_i x env1 y de1
    obtain ⟨hx, hr⟩ := h1
    have hc : caughtV P x cs = caught P y cs := by unfold caughtV caught; rw [hx.1]
    simp only
    rw [hc]
    split
    · cases as with
      | none => exact sVs_ok h k1 hr
      | some i =>
        simp only
        rw [hr.len]
        split
        · have hn := new_ok (o := .exn y.cls y.fs) (w := .exn x.cls x.fs) k1 (by simp only [ShO]; exact ⟨_, by rw [hx.1], hx.2⟩)
          have s2 : Step ρ1 S1 M1 ρ1 (S1 ++ [.exn y.cls y.fs]) M1 := step_app _
          refine ((sVs_ok h (ok_app k1 _) ((s2.re hr).set i hn)).step s2).bind fun ρ3 S3 M3 o p s3 k3 h3 => ?_
          exact .ok k3 (unset_ok (some i) h3)
        · trivial
    · exact .ok k1 ⟨hx, hr⟩
  | .tryN b, ρ, S, M, env, de, k, r => by
    simp only [sV, evS]
    refine (sVs_ok b k r).bind fun ρ1 S1 M1 o p s1 k1 h1 => ?_
    cases o <;> cases p <;> first | exact False.elim h1 | trivial | exact .ok k1 h1
  | .never, _, _, _, _, _, k, r => by simp only [sV]; trivial
  | .pass, _, _, _, _, _, k, r => by simp only [sV, evS]; exact .ok k r
  | .brk, _, _, _, _, _, k, r => by simp only [sV, evS]; exact .ok k r
  | .cont, _, _, _, _, _, k, r => by simp only [sV, evS]; exact .ok k r
theorem sVs_ok : ∀ (s : Sts) {ρ : List Nat} {S : Store} {M : MS} {env : VE} {de : Env}, Ok ρ S M → RE ρ S M env de → Sm ρ S M KS2 (sVs P cv ms mk s env M) (evSs P cl s de S)
  | .nil, _, _, _, _, _, k, r => by simp only [sVs, evSs]; exact .ok k r
  | .cons s q, ρ, S, M, env, de, k, r => by
    simp only [sVs, evSs]
    refine (sV_ok s k r).bind fun ρ1 S1 M1 o p s1 k1 h1 => ?_
    cases o <;> cases p <;> first | exact sVs_ok q k1 h1 | exact .ok k1 h1 | exact False.elim h1
end
theorem run_ok (f : Fn) {ρ : List Nat} {S : Store} {M : MS} {vs : List V} {ds : List D} (k : Ok ρ S M) (h : RlL ρ S M vs ds) : Sm ρ S M KR (runV P cv ms mk f vs M) (runFn P cl f ds S) := by
  unfold runV runFn
  rw [h.len]
  split
  · have re : RE ρ S M (vs.map some ++ List.replicate (f.nl - f.np) none) (ds.map some ++ List.replicate (f.nl - f.np) none) := by
      refine ⟨by simp [h.len], fun i v q => ?_⟩
      rcases Nat.lt_or_ge i vs.length with hi | hi
      · rw [List.getElem?_append_left (by simpa using hi), List.getElem?_map] at q
        obtain ⟨w, q1, q2⟩ := Option.map_eq_some_iff.mp q
        cases q2
        obtain ⟨d, q3, q4⟩ := h.get q1
        exact ⟨d, by rw [List.getElem?_append_left (by simpa using lt_of_some q3), List.getElem?_map, q3]; rfl, q4⟩
      · rw [List.getElem?_append_right (by simpa using hi), List.getElem?_replicate] at q
        split at q <;> cases q
    have body := sVs_ok (P := P) C ms mk f.body k re
    cases q : sVs P cv ms mk f.body (vs.map some ++ List.replicate (f.nl - f.np) none) M with
    | bad => trivial
    | exc x M' => trivial
    | ok o M' =>
      rw [q] at body
      obtain ⟨ρ', S', p, h1, h2, h3, h4⟩ := body
      rw [h1]
      obtain ⟨t1, t2⟩ := take_ok h3 M.length
      have ts := take_step h3 h2 (Nat.le_of_eq k.len)
      cases o with
      | next env =>
        cases p <;> try exact False.elim h4
        exact ⟨_, _, _, rfl, ts, t1, rfl⟩
      | brk env => trivial
      | cont env => trivial
      | exn x env =>
        cases p <;> try exact False.elim h4
        refine ⟨_, _, _, rfl, ts, t1, h4.1.1, ShF.mono (fun j o u e => ⟨e, fun z => ?_⟩) _ _ h4.1.2⟩
        obtain ⟨i, v, _, z1, z2⟩ := t2 j z
        exact u ⟨i, v, z1, z2⟩
      | ret v =>
        cases p <;> try exact False.elim h4
        rename_i d
        simp only [RV.fin, R.fin]
        have plain : Sh S' (um ρ' M') v d → Sm ρ S M KR (.ok v (M'.take M.length)) (.ok d S') := fun z => ⟨_, _, _, rfl, ts, t1, .of (take_sh h3 z)⟩
        unfold retV
        split
        · rename_i id
          obtain ⟨n, g1, g2⟩ := h4
          subst g2
          split
          · rename_i hid
            refine ⟨_, _, _, rfl, ts, t1, ⟨n, ?_, rfl⟩⟩
            rw [List.getElem?_take, if_pos hid]
            exact g1
          · rename_i hid
            split
            · rename_i ob ho
              obtain ⟨m, g3, g4⟩ := h3.obj _ _ _ g1 ho
              have own : ¬ mu (ρ'.take M.length) (M'.take M.length) n := fun z => by
                obtain ⟨i, v, z0, z1, z2⟩ := t2 _ z
                have := h3.inj _ _ _ g1 z1
                omega
              have g5 : ShO S' (um (ρ'.take M.length) (M'.take M.length)) ob.v m := ShO.mono (fun j o u e => ⟨e, fun z => by
                obtain ⟨i, v, _, z1, z2⟩ := t2 j z
                exact u ⟨i, v, z1, z2⟩⟩) g4
              split
              · split
                · rename_i hmu
                  -- the object keeps its place under a new number
                  have ml : (M'.take M.length).length = M.length := by
                    rw [List.length_take]
                    have : M.length ≤ M'.length := by
                      rw [← h3.len]
                      rw [← k.len]
                      rcases Nat.lt_or_ge ρ'.length ρ.length with c | c
                      · have := h2.pre ρ'.length _ (List.getElem?_eq_getElem c)
                        exact absurd (lt_of_some this) (Nat.lt_irrefl _)
                      · exact c
                    omega
                  have rl : (ρ'.take M.length).length = M.length := t1.len.trans ml
                  have hmu2 : ∀ j, mu (ρ'.take M.length ++ [n]) (M'.take M.length ++ [ob]) j → mu ρ' M' j := fun j ⟨i, v, z1, z2⟩ => by
                    rcases Nat.lt_or_ge i M.length with c | c
                    · rw [List.getElem?_append_left (by omega)] at z1 z2
                      obtain ⟨i, v, _, z3, z4⟩ := t2 j ⟨i, v, z1, z2⟩
                      exact ⟨i, v, z3, z4⟩
                    · rw [List.getElem?_append_right (by omega)] at z1 z2
                      have i0 : i - (ρ'.take M.length).length = 0 := by have := lt_of_some z1; simpa using this
                      have i1 : i - (M'.take M.length).length = 0 := by have := lt_of_some z2; simpa using this
                      rw [i0] at z1
                      rw [i1] at z2
                      cases z1
                      cases z2
                      exact ⟨id, _, g1, ho⟩
                  have mono : ∀ (j : Nat) (o : MO), um ρ' M' j → S'[j]? = some o → S'[j]? = some o ∧ um (ρ'.take M.length ++ [n]) (M'.take M.length ++ [ob]) j := fun j o u e => ⟨e, fun z => u (hmu2 j z)⟩
                  have at2 : ∀ {i j : Nat}, (ρ'.take M.length ++ [n])[i]? = some j → (i < M.length ∧ ρ'[i]? = some j) ∨ (i = M.length ∧ j = n) := fun {i j} z => by
                    rcases Nat.lt_or_ge i M.length with c | c
                    · rw [List.getElem?_append_left (by omega), List.getElem?_take, if_pos c] at z
                      exact .inl ⟨c, z⟩
                    · rw [List.getElem?_append_right (by omega)] at z
                      have i0 : i - (ρ'.take M.length).length = 0 := by have := lt_of_some z; simpa using this
                      rw [i0] at z
                      cases z
                      exact .inr ⟨by omega, rfl⟩
                  refine ⟨ρ'.take M.length ++ [n], S', .loc n, rfl, ⟨h2.len, h2.fr, fun j c z => h2.mu j c (hmu2 j z), fun i j z => ?_⟩, ⟨by simp only [List.length_append, rl, ml]; rfl, fun i j a z1 z2 => ?_, fun i j o z1 z2 => ?_⟩, ?_⟩
                  · have := lt_of_some z
                    rw [List.getElem?_append_left (by rw [rl, ← k.len]; exact this), List.getElem?_take, if_pos (by rw [← k.len]; exact this)]
                    exact h2.pre _ _ z
                  · rcases at2 z1 with ⟨c1, e1⟩ | ⟨c1, e1⟩ <;> rcases at2 z2 with ⟨c2, e2⟩ | ⟨c2, e2⟩
                    · exact h3.inj _ _ _ e1 e2
                    · subst e2
                      have := h3.inj _ _ _ e1 g1
                      omega
                    · subst e1
                      have := h3.inj _ _ _ e2 g1
                      omega
                    · omega
                  · rcases at2 z1 with ⟨c1, e1⟩ | ⟨c1, e1⟩
                    · rw [List.getElem?_append_left (by omega), List.getElem?_take, if_pos c1] at z2
                      obtain ⟨m2, y1, y2⟩ := h3.obj _ _ _ e1 z2
                      exact ⟨m2, y1, ShO.mono mono y2⟩
                    · rw [List.getElem?_append_right (by omega)] at z2
                      have i1 : i - (M'.take M.length).length = 0 := by omega
                      rw [i1] at z2
                      cases z2
                      subst e1
                      exact ⟨m, g3, ShO.mono mono g4⟩
                  · exact ⟨n, by rw [List.getElem?_append_right (by omega), rl]; simp, rfl⟩
                · trivial
              · exact ⟨_, _, _, rfl, ts, t1, .of (g5.sh own g3)⟩
            · trivial
        · exact plain (h4.sh fun id z => by simp_all)
  · trivial
end
theorem call_ok (P : Prg) (A : An) : ∀ k : Nat, ClOk (callV P A k) (callN P k)
  | 0 => fun g vs ds ρ S M _ _ => trivial
  | k + 1 => fun g vs ds ρ S M o h => by
    simp only [callV, callN]
    split
    · rename_i f hf
      try simp only [hf]
      exact run_ok (call_ok P A k) _ _ f o h
    · trivial
theorem ints_sh {S : Store} {U : Nat → Prop} : ∀ ns : List Int, ShL S U (ns.map V.int) (ns.map D.int)
  | [] => .nil
  | i :: r => .cons (by simp only [Sh]) (ints_sh r)
/-- the law, by values -/
theorem law_of {P : Prg} (A : An) {n k : Nat} (ns : List Int) {M : MS} (h : callV P A k n [.fls (ns.map .int)] [] = .ok (.bl true) M) : ∃ S, callN P k n [.loc 0] [.fls (ns.map .int)] = .ok (.bl true) S := by
  have e0 : ∀ {i : Nat} {a : Nat}, ([] : List Nat)[i]? = some a → False := fun h => by simp at h
  have k0 : Ok [] [.fls (ns.map D.int)] [] := ⟨rfl, fun _ _ _ h => (e0 h).elim, fun _ _ _ h => (e0 h).elim⟩
  have sh : Sh [.fls (ns.map D.int)] (um [] []) (.fls (ns.map V.int)) (.loc 0) := by
    simp only [Sh]
    exact ⟨0, _, rfl, fun ⟨i, v, z, _⟩ => e0 z, rfl, ints_sh ns⟩
  have := call_ok P A k n [.fls (ns.map .int)] [.loc 0] [] _ [] k0 (.cons (.of sh) .nil)
  rw [h] at this
  obtain ⟨ρ', S', d, h1, _, _, h2⟩ := this
  have : d = .bl true := by simpa only [Rl, Sh] using h2
  subst this
  exact ⟨S', h1⟩
end Mv
set_option maxRecDepth 10000
/-! U: rules for runs of the values' interpreter. -/
namespace Mv
open Mi
section
variable {α β : Type} {M : MS}
@[simp] theorem vb_ok (a : α) (k : α → MS → RV β) : (RV.ok a M).bind k = k a M := rfl
@[simp] theorem bind_exc (x : XV) (k : α → MS → RV β) : (RV.exc x M).bind k = .exc x M := rfl
@[simp] theorem bind_bad (k : α → MS → RV β) : (RV.bad : RV α).bind k = .bad := rfl
@[simp] theorem bindS_ok (a : α) (env : VE) (k : α → MS → RV OV) : (RV.ok a M).bindS env k = k a M := rfl
@[simp] theorem bindS_exc (x : XV) (env : VE) (k : α → MS → RV OV) : (RV.exc x M).bindS env k = .ok (.exn x env) M := rfl
@[simp] theorem bindS_bad (env : VE) (k : α → MS → RV OV) : (RV.bad : RV α).bindS env k = .bad := rfl
@[simp] theorem calm_ok (a : α) : (RV.ok a M).calm = .ok a M := rfl
@[simp] theorem calm_exc (x : XV) : (RV.exc x M : RV α).calm = .bad := rfl
@[simp] theorem calm_bad : (RV.bad : RV α).calm = .bad := rfl
@[simp] theorem liftV_some (a : α) : liftV (some a) M = .ok a M := rfl
@[simp] theorem liftV_none : liftV (none : Option α) M = .bad := rfl
@[simp] theorem bind_ite {c : Prop} [Decidable c] (x y : RV α) (k : α → MS → RV β) : (if c then x else y).bind k = if c then x.bind k else y.bind k := by split <;> rfl
@[simp] theorem bindS_ite {c : Prop} [Decidable c] (x y : RV α) (env : VE) (k : α → MS → RV OV) : (if c then x else y).bindS env k = if c then x.bindS env k else y.bindS env k := by split <;> rfl
@[simp] theorem fin_ite {c : Prop} [Decidable c] (x y : RV OV) (mk : Bool) (n : Nat) : (if c then x else y).fin mk n = if c then x.fin mk n else y.fin mk n := by split <;> rfl
@[simp] theorem calm_ite {c : Prop} [Decidable c] (x y : RV α) : (if c then x else y).calm = if c then x.calm else y.calm := by split <;> rfl
@[simp] theorem ite_ok {c : Prop} [Decidable c] (x y : V) : (if c then RV.ok x M else RV.ok y M) = RV.ok (if c then x else y) M := by split <;> rfl
@[simp] theorem ite_okB {c : Prop} [Decidable c] (x y : Bool) : (if c then RV.ok x M else RV.ok y M) = RV.ok (if c then x else y) M := by split <;> rfl
@[simp] theorem ite_bl {c : Prop} [Decidable c] (x y : Bool) : (if c then V.bl x else V.bl y) = V.bl (if c then x else y) := by split <;> rfl
@[simp] theorem ite_int {c : Prop} [Decidable c] (x y : Int) : (if c then V.int x else V.int y) = V.int (if c then x else y) := by split <;> rfl
@[simp] theorem ite_str {c : Prop} [Decidable c] (x y : List Nat) : (if c then V.str x else V.str y) = V.str (if c then x else y) := by split <;> rfl
@[simp] theorem fin_next (env : VE) (mk : Bool) (n : Nat) : (RV.ok (OV.next env) M).fin mk n = .ok .non (M.take n) := rfl
@[simp] theorem fin_ret (v : V) (mk : Bool) (n : Nat) : (RV.ok (OV.ret v) M).fin mk n = retV mk n v M := rfl
@[simp] theorem fin_exn (x : XV) (env : VE) (mk : Bool) (n : Nat) : (RV.ok (OV.exn x env) M).fin mk n = .exc x (M.take n) := rfl
@[simp] theorem fin_bad (mk : Bool) (n : Nat) : (RV.bad : RV OV).fin mk n = .bad := rfl
/-- no number -/
def V.nr : V → Bool
  | .ref _ => false
  | _ => true
@[simp] theorem nr_non : V.nr .non = true := by simp only [V.nr]
@[simp] theorem nr_int (i : Int) : V.nr (.int i) = true := by simp only [V.nr]
@[simp] theorem nr_bl (i : Bool) : V.nr (.bl i) = true := by simp only [V.nr]
@[simp] theorem nr_str (i : List Nat) : V.nr (.str i) = true := by simp only [V.nr]
@[simp] theorem nr_tup (i : List V) : V.nr (.tup i) = true := by simp only [V.nr]
@[simp] theorem nr_lst (i : List V) : V.nr (.lst i) = true := by simp only [V.nr]
@[simp] theorem nr_fls (i : List V) : V.nr (.fls i) = true := by simp only [V.nr]
@[simp] theorem nr_dic (i : List (V × V)) : V.nr (.dic i) = true := by simp only [V.nr]
@[simp] theorem nr_ins (c : Nat) (i : List (String × V)) : V.nr (.ins c i) = true := by simp only [V.nr]
@[simp] theorem nr_exn (c : Nat) (i : List (String × V)) : V.nr (.exn c i) = true := by simp only [V.nr]
@[simp] theorem nr_glo (c : Nat) : V.nr (.glo c) = true := by simp only [V.nr]
@[simp] theorem nr_ite {c : Prop} [Decidable c] (x y : V) (h : x.nr = true) (h2 : y.nr = true) : V.nr (if c then x else y) = true := by split <;> assumption
@[simp] theorem retV_nr {v : V} (mk : Bool) (n : Nat) (h : v.nr = true) : retV mk n v M = .ok v (M.take n) := by cases v <;> first | rfl | cases h
@[simp] theorem rd_nr {v : V} (h : v.nr = true) : rd M v = some v := by cases v <;> first | rfl | cases h
@[simp] theorem frz_nr {v : V} (h : v.nr = true) : frz M v = .ok v M := by cases v <;> first | rfl | cases h
@[simp] theorem frzs_nil : frzs [] M = .ok [] M := rfl
@[simp] theorem frzs_cons (v : V) (r : List V) : frzs (v :: r) M = (frz M v).bind fun v M => (frzs r M).bind fun vs M => .ok (v :: vs) M := rfl
theorem frzs_nr : ∀ (l : List V), (∀ v ∈ l, v.nr = true) → frzs l M = .ok l M
  | [], _ => rfl
  | v :: r, h => by
    rw [frzs_cons, frz_nr (h v List.mem_cons_self), vb_ok, frzs_nr r fun w m => h w (List.mem_cons_of_mem _ m)]
    rfl
/-! read values -/
@[simp] theorem truthM_bl (b : Bool) : truthM (.bl b) M = .ok b M := rfl
@[simp] theorem truthM_nr {v : V} (h : v.nr = true) : truthM v M = liftV (truthV v) M := by simp [truthM, h]
@[simp] theorem bopM_nr {op : Bop} {x y : V} (h : x.nr = true) (h2 : y.nr = true) : bopM op x y M = liftV (bopV op x y) M := by simp [bopM, rd2, h, h2]
@[simp] theorem copM_nr {op : Cop} {x y : V} (h : x.nr = true) (h2 : y.nr = true) : copM op x y M = liftV (copV op x y) M := by simp [copM, h, h2]
@[simp] theorem idxM_nr {x y : V} (h : x.nr = true) (h2 : y.nr = true) : idxM x y M = liftV (idxV x y) M := by simp [idxM, rd2, h, h2]
@[simp] theorem sliM_nr {x : V} {lo hi st : Option Int} (h : x.nr = true) : sliM x lo hi st M = liftV (sliV x lo hi st) M := by simp [sliM, h]
/-! statements -/
@[simp] theorem truthV_non : truthV .non = some false := rfl
@[simp] theorem truthV_bl (b : Bool) : truthV (.bl b) = some b := rfl
@[simp] theorem truthV_int (i : Int) : truthV (.int i) = some (i != 0) := rfl
@[simp] theorem truthV_tup (l : List V) : truthV (.tup l) = some (!l.isEmpty) := rfl
@[simp] theorem truthV_lst (l : List V) : truthV (.lst l) = some (!l.isEmpty) := rfl
@[simp] theorem isTyV_int (P : Prg) (i : Int) (t : Ty) : isTyV P (.int i) t = P.ask (.inl "int") t := rfl
@[simp] theorem isTyV_bl (P : Prg) (i : Bool) (t : Ty) : isTyV P (.bl i) t = P.ask (.inl "bool") t := rfl
@[simp] theorem isTyV_str (P : Prg) (i : List Nat) (t : Ty) : isTyV P (.str i) t = P.ask (.inl "str") t := rfl
@[simp] theorem isTyV_tup (P : Prg) (i : List V) (t : Ty) : isTyV P (.tup i) t = P.ask (.inl "tuple") t := rfl
@[simp] theorem isTyV_lst (P : Prg) (i : List V) (t : Ty) : isTyV P (.lst i) t = P.ask (.inl "list") t := rfl
@[simp] theorem isTyV_fls (P : Prg) (i : List V) (t : Ty) : isTyV P (.fls i) t = P.ask (.inl "list") t := rfl
@[simp] theorem isTyV_dic (P : Prg) (i : List (V × V)) (t : Ty) : isTyV P (.dic i) t = P.ask (.inl "dict") t := rfl
@[simp] theorem isTyV_non (P : Prg) (t : Ty) : isTyV P .non t = P.ask (.inl "NoneType") t := rfl
@[simp] theorem isTyV_ins (P : Prg) (c : Nat) (i : List (String × V)) (t : Ty) : isTyV P (.ins c i) t = P.ask (.inr c) t := rfl
@[simp] theorem permV_nil {z : α} (l : List α) : permV z [] l = l := rfl
@[simp] theorem sameV_nil : sameV M [] = true := rfl
@[simp] theorem biM_one (P : Prg) (cl : ClV) (b : Bi) (v : V) : biM P cl b [v] M = bi1M P cl b v M := rfl
@[simp] theorem biM_two (P : Prg) (cl : ClV) (b : Bi) (v w : V) : biM P cl b [v, w] M = liftV (bi2V b v w) M := rfl
@[simp] theorem bi1M_isinst (P : Prg) (cl : ClV) (ts : List Ty) {v : V} (h : v.nr = true) : bi1M P cl (.isinst ts) v M = liftV ((isAnyV P v ts).map .bl) M := by simp [bi1M, h]
@[simp] theorem isAnyV_nil (P : Prg) (v : V) : isAnyV P v [] = some false := rfl
@[simp] theorem isAnyV_cons (P : Prg) (v : V) (t : Ty) (r : List Ty) : isAnyV P v (t :: r) = match isTyV P v t with
    | some true => some true
    | some false => isAnyV P v r
    | none => none := rfl
/-- built-ins of what is no instance -/
@[simp] theorem bi1M_tup (P : Prg) (cl : ClV) (b : Bi) (l : List V) : bi1M P cl b (.tup l) M = (match b with | .isinst ts => liftV ((isAnyV P (.tup l) ts).map .bl) M | b => liftV (bi1V b (.tup l)) M) := by cases b <;> rfl
@[simp] theorem bi1M_lst (P : Prg) (cl : ClV) (b : Bi) (l : List V) : bi1M P cl b (.lst l) M = (match b with | .isinst ts => liftV ((isAnyV P (.lst l) ts).map .bl) M | b => liftV (bi1V b (.lst l)) M) := by cases b <;> rfl
@[simp] theorem bi1M_fls (P : Prg) (cl : ClV) (b : Bi) (l : List V) : bi1M P cl b (.fls l) M = (match b with | .isinst ts => liftV ((isAnyV P (.fls l) ts).map .bl) M | b => liftV (bi1V b (.fls l)) M) := by cases b <;> rfl
@[simp] theorem bi1M_dic (P : Prg) (cl : ClV) (b : Bi) (l : List (V × V)) : bi1M P cl b (.dic l) M = (match b with | .isinst ts => liftV ((isAnyV P (.dic l) ts).map .bl) M | b => liftV (bi1V b (.dic l)) M) := by cases b <;> rfl
@[simp] theorem bi1M_int (P : Prg) (cl : ClV) (b : Bi) (l : Int) : bi1M P cl b (.int l) M = (match b with | .isinst ts => liftV ((isAnyV P (.int l) ts).map .bl) M | b => liftV (bi1V b (.int l)) M) := by cases b <;> rfl
@[simp] theorem bi1M_str (P : Prg) (cl : ClV) (b : Bi) (l : List Nat) : bi1M P cl b (.str l) M = (match b with | .isinst ts => liftV ((isAnyV P (.str l) ts).map .bl) M | b => liftV (bi1V b (.str l)) M) := by cases b <;> rfl
@[simp] theorem bi1M_bl (P : Prg) (cl : ClV) (b : Bi) (l : Bool) : bi1M P cl b (.bl l) M = (match b with | .isinst ts => liftV ((isAnyV P (.bl l) ts).map .bl) M | b => liftV (bi1V b (.bl l)) M) := by cases b <;> rfl
@[simp] theorem len_tup (l : List V) : bi1V .len (.tup l) = some (.int l.length) := rfl
@[simp] theorem len_lst (l : List V) : bi1V .len (.lst l) = some (.int l.length) := rfl
@[simp] theorem len_fls (l : List V) : bi1V .len (.fls l) = some (.int l.length) := rfl
@[simp] theorem tuple1_lst (l : List V) : bi1V .tuple1 (.lst l) = some (.tup l) := rfl
@[simp] theorem all_lst (l : List V) : bi1V .allL (.lst l) = (blsV l).map fun l => .bl (l.all id) := by
  simp only [bi1V, lstV, Option.bind_some]
@[simp] theorem any_lst (l : List V) : bi1V .anyL (.lst l) = (blsV l).map fun l => .bl (l.any id) := by
  simp only [bi1V, lstV, Option.bind_some]
@[simp] theorem sum_lst (l : List V) : bi1V .sumL (.lst l) = (intsV l).map fun l => .int l.sum := by
  simp only [bi1V, lstV, Option.bind_some]
@[simp] theorem min_lst (l : List V) : bi1V .minL (.lst l) = (intsV l).bind fun l => (least l).map .int := by
  simp only [bi1V, itemsV, Option.bind_some]
@[simp] theorem min_tup (l : List V) : bi1V .minL (.tup l) = (intsV l).bind fun l => (least l).map .int := by
  simp only [bi1V, itemsV, Option.bind_some]
@[simp] theorem max_lst (l : List V) : bi1V .maxL (.lst l) = (intsV l).bind fun l => (most l).map .int := by
  simp only [bi1V, itemsV, Option.bind_some]
@[simp] theorem max_tup (l : List V) : bi1V .maxL (.tup l) = (intsV l).bind fun l => (most l).map .int := by
  simp only [bi1V, itemsV, Option.bind_some]
@[simp] theorem int1_int (i : Int) : bi1V .int1 (.int i) = some (.int i) := rfl
@[simp] theorem abs_int (i : Int) : bi1V .abs (.int i) = some (.int (if i < 0 then -i else i)) := rfl
@[simp] theorem blsV_map {X : Type} (p : X → Bool) (l : List X) : blsV (l.map fun x => .bl (p x)) = some (l.map p) := by
  induction l with
  | nil => rfl
  | cons a r ih => simp only [List.map_cons, blsV, ih]
@[simp] theorem intsV_map {X : Type} (p : X → Int) (l : List X) : intsV (l.map fun x => .int (p x)) = some (l.map p) := by
  induction l with
  | nil => rfl
  | cons a r ih => simp only [List.map_cons, intsV, ih]
@[simp] theorem strsV_map {X : Type} (p : X → List Nat) (l : List X) : strsV (l.map fun x => .str (p x)) = some (l.map p) := by
  induction l with
  | nil => rfl
  | cons a r ih => simp only [List.map_cons, strsV, ih]
@[simp] theorem blsV_map' (l : List Bool) : blsV (l.map .bl) = some l := by simpa using blsV_map id l
@[simp] theorem intsV_map' (l : List Int) : intsV (l.map .int) = some l := by simpa using intsV_map id l
@[simp] theorem strsV_map' (l : List (List Nat)) : strsV (l.map .str) = some l := by simpa using strsV_map id l
@[simp] theorem blsV_nil : blsV [] = some [] := rfl
@[simp] theorem blsV_cons (b : Bool) (l : List V) : blsV (.bl b :: l) = (blsV l).map (b :: ·) := by
  simp only [blsV]; cases blsV l <;> rfl
@[simp] theorem intsV_nil : intsV [] = some [] := rfl
@[simp] theorem intsV_cons (b : Int) (l : List V) : intsV (.int b :: l) = (intsV l).map (b :: ·) := by
  simp only [intsV]; cases intsV l <;> rfl
/-! equality -/
@[simp] theorem eqV_int (a b : Int) : eqV (.int a) (.int b) = some (a == b) := by simp [eqV, pdV, deep, PD.eqv]
@[simp] theorem eqV_str (a b : List Nat) : eqV (.str a) (.str b) = some (a == b) := by simp [eqV, pdV, deep, PD.eqv]
@[simp] theorem eqV_bl (a b : Bool) : eqV (.bl a) (.bl b) = some (a == b) := by simp [eqV, pdV, deep, PD.eqv]
@[simp] theorem cop_eq (a b : V) : copV .eq a b = eqV a b := rfl
@[simp] theorem cop_ne (a b : V) : copV .ne a b = (eqV a b).map (!·) := rfl
@[simp] theorem cop_in (a b : V) : copV .inn a b = isInV a b := rfl
@[simp] theorem cop_notIn (a b : V) : copV .notIn a b = (isInV a b).map (!·) := rfl
@[simp] theorem cop_lt (a b : Int) : copV .lt (.int a) (.int b) = some (decide (a < b)) := rfl
@[simp] theorem cop_le (a b : Int) : copV .le (.int a) (.int b) = some (decide (a ≤ b)) := rfl
@[simp] theorem cop_gt (a b : Int) : copV .gt (.int a) (.int b) = some (decide (b < a)) := rfl
@[simp] theorem cop_ge (a b : Int) : copV .ge (.int a) (.int b) = some (decide (b ≤ a)) := rfl
@[simp] theorem cop_is (a : V) : copV .is a .non = some (isNonV a) := rfl
@[simp] theorem cop_isNot (a : V) : copV .isNot a .non = some (!isNonV a) := rfl
@[simp] theorem bop_add (a b : Int) : bopV .add (.int a) (.int b) = some (.int (a + b)) := rfl
@[simp] theorem bop_sub (a b : Int) : bopV .sub (.int a) (.int b) = some (.int (a - b)) := rfl
@[simp] theorem idxV_tup (l : List V) (i : Int) : idxV (.tup l) (.int i) = atIx l i := rfl
@[simp] theorem idxV_lst (l : List V) (i : Int) : idxV (.lst l) (.int i) = atIx l i := rfl
@[simp] theorem idxV_fls (l : List V) (i : Int) : idxV (.fls l) (.int i) = atIx l i := rfl
@[simp] theorem atIx_0 {X : Type} (a : X) (r : List X) : atIx (a :: r) 0 = some a := rfl
@[simp] theorem atIx_1 {X : Type} (a b : X) (r : List X) : atIx (a :: b :: r) 1 = some b := rfl
@[simp] theorem atIx_2 {X : Type} (a b c : X) (r : List X) : atIx (a :: b :: c :: r) 2 = some c := rfl
/-! lists -/
@[simp] theorem take_app (T : MS) : (M ++ T).take M.length = M := by simp
@[simp] theorem take_set (i : Nat) (o : VO) : (M.set i o).take M.length = M.set i o := by
  rw [List.take_of_length_le]; simp
theorem lcV_run {X : Type} {f : V → MS → RV (Option V)} {gd : MS → Bool} (enc : X → V) (g : X → V) (p : X → Bool) : ∀ (xs : List X) (acc : List V), gd M = true → (∀ x ∈ xs, f (enc x) M = .ok (if p x then some (g x) else none) M) → acc.length + xs.length ≤ szl → lcV f gd acc (xs.map enc) M = .ok (acc ++ (xs.filter p).map g) M
  | [], acc, hg, hf, hl => by simp [lcV, hg]
  | x :: r, acc, hg, hf, hl => by
    simp only [List.map_cons, lcV, hg, if_true]
    rw [hf x List.mem_cons_self]
    simp only [List.length_cons] at hl
    cases hp : p x with
    | false =>
      simp only [Bool.false_eq_true, if_false]
      rw [lcV_run enc g p r acc hg (fun y m => hf y (List.mem_cons_of_mem _ m)) (by omega), List.filter_cons_of_neg (by simp [hp])]
    | true =>
      simp only [if_true]
      rw [if_pos (by omega), lcV_run enc g p r (acc ++ [g x]) hg (fun y m => hf y (List.mem_cons_of_mem _ m)) (by simp; omega), List.filter_cons_of_pos hp]
      simp
/-- a list's comprehension that draws nothing -/
theorem lcV_map {X : Type} {f : V → MS → RV (Option V)} {gd : MS → Bool} (enc : X → V) (g : X → V) (xs : List X) (hg : gd M = true) (hf : ∀ x ∈ xs, f (enc x) M = .ok (some (g x)) M) (hl : xs.length ≤ szl) : lcV f gd [] (xs.map enc) M = .ok (xs.map g) M := by
  have := lcV_run (f := f) (gd := gd) (M := M) enc g (fun _ => true) xs [] hg (by simpa using hf) (by simpa using hl)
  rw [List.filter_eq_self.2 (by simp)] at this
  exact this
theorem lcV_filter {X : Type} {f : V → MS → RV (Option V)} {gd : MS → Bool} (enc : X → V) (g : X → V) (p : X → Bool) (xs : List X) (hg : gd M = true) (hf : ∀ x ∈ xs, f (enc x) M = .ok (if p x then some (g x) else none) M) (hl : xs.length ≤ szl) : lcV f gd [] (xs.map enc) M = .ok ((xs.filter p).map g) M := by
  have := lcV_run (f := f) (gd := gd) (M := M) enc g p xs [] hg hf (by simpa using hl)
  simpa using this
@[simp] theorem zipV_map {X Y : Type} (e : X → V) (e2 : Y → V) : ∀ (xs : List X) (ys : List Y), zipV (xs.map e) (ys.map e2) = (xs.zip ys).map fun z => .tup [e z.1, e2 z.2]
  | [], _ => by simp [zipV]
  | _ :: _, [] => by simp [zipV]
  | x :: r, y :: s => by simp [zipV, zipV_map e e2 r s]
@[simp] theorem enumV_map {X : Type} (e : X → V) : ∀ (k : Nat) (xs : List X), enumV k (xs.map e) = (xs.zipIdx k).map fun z => .tup [.int z.2, e z.1]
  | k, [] => rfl
  | k, x :: r => by simp [enumV, enumV_map e (k + 1) r, List.zipIdx_cons]
@[simp] theorem seqM_tup (l : List V) : seqM M (.tup l) = some (l, []) := rfl
@[simp] theorem seqM_lst (l : List V) : seqM M (.lst l) = some (l, []) := rfl
@[simp] theorem seqM_fls (l : List V) : seqM M (.fls l) = some (l, []) := rfl
@[simp] theorem walkM_tup (l : List V) : walkM M (.tup l) = some (l, []) := rfl
@[simp] theorem walkM_lst (l : List V) : walkM M (.lst l) = some (l, []) := rfl
@[simp] theorem walkM_fls (l : List V) : walkM M (.fls l) = some (l, []) := rfl
@[simp] theorem walkM_str (l : List Nat) : walkM M (.str l) = some (l.map fun c => .str [c], []) := rfl
@[simp] theorem lcV_nil (f : V → MS → RV (Option V)) (gd : MS → Bool) (acc : List V) : lcV f gd acc [] M = if gd M then .ok acc M else .bad := by simp only [lcV]
theorem lcV_cons (f : V → MS → RV (Option V)) (gd : MS → Bool) (acc : List V) (d : V) (r : List V) : lcV f gd acc (d :: r) M = if gd M then (f d M).calm.bind fun o M => (match o with
    | some e => if acc.length < szl then lcV f gd (acc ++ [e]) r M else .bad
    | none => lcV f gd acc r M) else .bad := by
  simp only [lcV]
  split
  · cases f d M with
    | ok o M => cases o <;> rfl
    | _ => rfl
  · rfl
@[simp] theorem len_str (l : List Nat) (h : l.length ≤ szl) : bi1V .len (.str l) = some (.int l.length) := by simp [bi1V, biLenV, h]
@[simp] theorem isIn_str (a b : List Nat) : isInV (.str a) (.str b) = some (hasSub a b) := rfl
@[simp] theorem isIn_tup (v : V) (l : List V) : isInV v (.tup l) = anyEqV v l := rfl
@[simp] theorem isIn_lst (v : V) (l : List V) : isInV v (.lst l) = anyEqV v l := rfl
theorem mapO_map {X : Type} (f : V → Option PD) (e : X → V) (g : X → PD) (h : ∀ x, f (e x) = some (g x)) : ∀ l : List X, mapO f (l.map e) = some (l.map g)
  | [] => rfl
  | x :: r => by simp only [List.map_cons, mapO, h, mapO_map f e g h r]
@[simp] theorem anyEq_str (s : List Nat) (l : List (List Nat)) : anyEqV (.str s) (l.map .str) = some (l.any fun z => z == s) := by
  unfold anyEqV
  rw [mapO_map _ V.str PD.str (by simp [pdV, deep])]
  simp only [deep, pdV, Option.some.injEq, List.any_map]
  congr 1
@[simp] theorem anyEq_strs {X : Type} (s : List Nat) (g : X → List Nat) (l : List X) : anyEqV (.str s) (l.map fun x => .str (g x)) = some (l.any fun x => g x == s) := by
  have := anyEq_str s (l.map g)
  simpa [List.map_map, Function.comp_def] using this
/-! loops -/
theorem forV_run {bnd : V → VE → MS → RV VE} {body : VE → MS → RV OV} {gd : MS → Bool} (src : List V) (I : Nat → VE → MS → Prop) (Q : OV → MS → Prop)
    (hg : ∀ i env M, i ≤ src.length → I i env M → gd M = true)
    (hs : ∀ i v env M, src[i]? = some v → I i env M → ∃ env1 M1 o M2, bnd v env M = .ok env1 M1 ∧ body env1 M1 = .ok o M2 ∧ ((∃ e, (o = .next e ∨ o = .cont e) ∧ I (i + 1) e M2) ∨ (∃ e, o = .brk e ∧ Q (.next e) M2) ∨ ∃ d, o = .ret d ∧ Q (.ret d) M2))
    (hq : ∀ env M, I src.length env M → Q (.next env) M) : ∀ (n : Nat) (rest : List V) (i : Nat) (env : VE) (M : MS), rest.length = n → src.drop i = rest → i + rest.length = src.length → I i env M → ∃ o M', forV bnd body gd rest env M = .ok o M' ∧ Q o M'
  | 0, rest, i, env, M, hn, hd, hl, h => by
    have : rest = [] := List.eq_nil_of_length_eq_zero hn
    subst this
    simp only [List.length_nil, Nat.add_zero] at hl
    subst hl
    refine ⟨.next env, M, ?_, hq _ _ h⟩
    simp only [forV]
    rw [if_pos (hg _ _ _ (Nat.le_refl _) h)]
  | n + 1, [], i, env, M, hn, hd, hl, h => by cases hn
  | n + 1, v :: r, i, env, M, hn, hd, hl, h => by
    simp only [List.length_cons] at hl
    have hv : src[i]? = some v := by
      have : (src.drop i)[0]? = some v := by rw [hd]; rfl
      rw [List.getElem?_drop] at this
      exact this
    have hr : src.drop (i + 1) = r := by
      rw [← List.drop_drop, hd]
      rfl
    obtain ⟨env1, M1, o, M2, e1, e2, h3⟩ := hs i v env M hv h
    simp only [forV]
    rw [if_pos (hg _ _ _ (by omega) h), e1, bindS_ok, e2, vb_ok]
    rcases h3 with ⟨e, ho | ho, hI⟩ | ⟨e, ho, hQ⟩ | ⟨d, ho, hQ⟩
    · subst ho
      exact forV_run src I Q hg hs hq n r (i + 1) e M2 (by simpa using hn) hr (by omega) hI
    · subst ho
      exact forV_run src I Q hg hs hq n r (i + 1) e M2 (by simpa using hn) hr (by omega) hI
    · subst ho
      exact ⟨_, _, rfl, hQ⟩
    · subst ho
      exact ⟨_, _, rfl, hQ⟩
theorem for_run {P : Prg} {cl : ClV} {ms : List Nat} {mk : Bool} {t : Tg} {it : I} {b : Sts} {env : VE} {M M0 : MS} {src : List V} {lv : List (Nat × List V)} (hsrc : eVi P cl it env M = .ok (src, lv) M0) (I : Nat → VE → MS → Prop) (Q : OV → MS → Prop) (h0 : I 0 env M0)
    (hg : ∀ i env M, i ≤ src.length → I i env M → sameV M lv = true)
    (hs : ∀ i v env M, src[i]? = some v → I i env M → ∃ env1 M1 o M2, eVt P cl t v env M = .ok env1 M1 ∧ sVs P cl ms mk b env1 M1 = .ok o M2 ∧ ((∃ e, (o = .next e ∨ o = .cont e) ∧ I (i + 1) e M2) ∨ (∃ e, o = .brk e ∧ Q (.next e) M2) ∨ ∃ d, o = .ret d ∧ Q (.ret d) M2))
    (hq : ∀ env M, I src.length env M → Q (.next env) M) : ∃ o M', sV P cl ms mk (.for_ t it b) env M = .ok o M' ∧ Q o M' := by
  simp only [sV]
  rw [hsrc, bindS_ok]
  exact forV_run src I Q hg hs hq src.length src 0 env M0 rfl rfl (by simp) h0
/-- a loop that goes through -/
theorem for_next {P : Prg} {cl : ClV} {ms : List Nat} {mk : Bool} {t : Tg} {it : I} {b : Sts} {env : VE} {M M0 : MS} {src : List V} {lv : List (Nat × List V)} (hsrc : eVi P cl it env M = .ok (src, lv) M0) (I : Nat → VE → MS → Prop) (h0 : I 0 env M0)
    (hg : ∀ i env M, i ≤ src.length → I i env M → sameV M lv = true)
    (hs : ∀ i v env M, src[i]? = some v → I i env M → ∃ env1 M1 e M2, eVt P cl t v env M = .ok env1 M1 ∧ sVs P cl ms mk b env1 M1 = .ok (.next e) M2 ∧ I (i + 1) e M2) : ∃ e M', sV P cl ms mk (.for_ t it b) env M = .ok (.next e) M' ∧ I src.length e M' := by
  obtain ⟨o, M', h1, h2⟩ := for_run (ms := ms) (mk := mk) (b := b) (t := t) hsrc I (fun o M => ∃ e, o = .next e ∧ I src.length e M) h0 hg (fun i v env M q h => by
    obtain ⟨env1, M1, e, M2, a, c, d⟩ := hs i v env M q h
    exact ⟨env1, M1, _, M2, a, c, .inl ⟨e, .inl rfl, d⟩⟩) fun env M h => ⟨env, rfl, h⟩
  obtain ⟨e, ho, h3⟩ := h2
  subst ho
  exact ⟨e, M', h1, h3⟩
@[simp] theorem sli_tup (l : List V) (lo hi st : Option Int) : sliV (.tup l) lo hi st = (stepL l lo hi st).map .tup := rfl
@[simp] theorem sli_lst (l : List V) (lo hi st : Option Int) : sliV (.lst l) lo hi st = (stepL l lo hi st).map .lst := rfl
@[simp] theorem sli_fls (l : List V) (lo hi st : Option Int) : sliV (.fls l) lo hi st = (stepL l lo hi st).map .lst := rfl
@[simp] theorem stepL_none {X : Type} (l : List X) (lo hi : Option Int) : stepL l lo hi none = some (cutL l lo hi) := rfl
@[simp] theorem cut_to {X : Type} (l : List X) (n : Nat) : cutL l none (some (n : Int)) = l.take n := by
  have h : ¬ ((n : Int) < 0) := by omega
  simp only [cutL, clipI, h, if_false, List.drop_zero, Nat.sub_zero, Int.toNat_natCast]
  rw [List.take_eq_take_iff]
  omega
@[simp] theorem cut_from {X : Type} (l : List X) (n : Nat) : cutL l (some (n : Int)) none = l.drop n := by
  have h : ¬ ((n : Int) < 0) := by omega
  simp only [cutL, clipI, h, if_false, Int.toNat_natCast]
  by_cases h : n ≤ l.length
  · rw [Nat.min_eq_left h, List.take_of_length_le (by simp)]
  · rw [Nat.min_eq_right (by omega), List.drop_of_length_le (by omega), List.drop_of_length_le (by omega)]
    simp
theorem vszl : szl = 16777216 := by decide
theorem nodup_take {X : Type} {l : List X} {i : Nat} {s : X} (h : l.Nodup) (h1 : l[i]? = some s) : s ∉ l.take i := fun m => by
  obtain ⟨j, hj⟩ := List.mem_iff_getElem?.mp m
  rw [List.getElem?_take] at hj
  split at hj
  · rename_i c
    have hil := lt_of_get h1
    have := (List.getElem?_inj (lt_of_get hj) h).mp (hj.trans h1.symm)
    omega
  · cases hj
where
  lt_of_get {X : Type} {l : List X} {i : Nat} {s : X} (h : l[i]? = some s) : i < l.length := (List.getElem?_eq_some_iff.mp h).1
@[simp] theorem anyEq_take (s : List Nat) (l : List (List Nat)) (i : Nat) : anyEqV (.str s) ((l.map .str).take i) = some ((l.take i).any fun z => z == s) := by
  rw [← List.map_take, anyEq_str]
theorem eqV_ne_nil {X : Type} {l : List X} {e : X → V} (h : l ≠ []) (g : ∀ x, ∃ p, pdV 19 (e x) = some p) : eqV (.tup (l.map e)) (.tup []) = some false := by
  cases l with
  | nil => exact absurd rfl h
  | cons a r =>
    unfold eqV
    simp only [deep, pdV, mapO]
    have : ∀ l : List X, ∃ ps, mapO (pdV 19) (l.map e) = some ps ∧ ps.length = l.length := fun l => by
      induction l with
      | nil => exact ⟨[], rfl, rfl⟩
      | cons a r ih =>
        obtain ⟨ps, h1, h2⟩ := ih
        obtain ⟨p, hp⟩ := g a
        exact ⟨p :: ps, by simp only [List.map_cons, mapO, hp, h1], by simp [h2]⟩
    obtain ⟨ps, h1, h2⟩ := this (a :: r)
    rw [h1]
    cases ps with
    | nil => cases h2
    | cons p ps => rfl
@[simp] theorem take_app1 (x : VO) : (M ++ [x]).take (M.length + 1) = M ++ [x] := by
  rw [List.take_of_length_le]; simp
@[simp] theorem get_app1 (x : VO) : (M ++ [x])[M.length]? = some x := by simp
theorem bop_mul_l {a : Int} (h : -18446744073709551616 < a ∧ a < 18446744073709551616) (b : Int) : bopV .mul (.int a) (.int b) = some (.int (a * b)) := by
  simp only [bopV]
  rw [if_pos (.inl (by omega))]
theorem bop_mul_r {b : Int} (h : -18446744073709551616 < b ∧ b < 18446744073709551616) (a : Int) : bopV .mul (.int a) (.int b) = some (.int (a * b)) := by
  simp only [bopV]
  rw [if_pos (.inr (by omega))]
theorem bop_mod {b : Int} (h : 0 < b) (a : Int) : bopV .mod (.int a) (.int b) = some (.int (a % b)) := by
  simp only [bopV]
  rw [if_pos h]
theorem bop_fdiv {b : Int} (h : 0 < b ∧ b < 1073741824) (a : Int) : bopV .fdiv (.int a) (.int b) = some (.int (a / b)) := by
  simp only [bopV]
  rw [if_pos (by omega)]
/-! dicts by names -/
@[simp] theorem keq_str (a b : List Nat) : keq (.str a) (.str b) = (a == b) := rfl
theorem dict_of {X : Type} (key : X → List Nat) (f : X → V) {l : List X} (hn : (l.map key).Nodup) : dicOfV (l.map fun r => .tup [.str (key r), f r]) [] = some (l.map fun r => (.str (key r), f r)) := by
  suffices h : ∀ (l pre : List X), ((pre ++ l).map key).Nodup → dicOfV (l.map fun r => .tup [.str (key r), f r]) (pre.map fun r => (.str (key r), f r)) = some ((pre ++ l).map fun r => (.str (key r), f r)) by
    exact h l [] hn
  intro l
  induction l with
  | nil => intro pre h; simp [dicOfV]
  | cons r rest ih =>
    intro pre h
    have h1 : dicPutV (.str (key r)) (f r) (pre.map fun r => (V.str (key r), f r)) = (pre ++ [r]).map fun r => (V.str (key r), f r) := by
      have hni : ∀ x ∈ pre, key x ≠ key r := fun x hx e => by
        rw [List.map_append, List.nodup_append] at h
        exact h.2.2 (key x) (List.mem_map.mpr ⟨x, hx, rfl⟩) (key r) (List.mem_map.mpr ⟨r, List.mem_cons_self, rfl⟩) e
      clear h ih
      induction pre with
      | nil => rfl
      | cons a p ih2 =>
        have := hni a List.mem_cons_self
        have ih3 := ih2 fun x hx => hni x (List.mem_cons_of_mem _ hx)
        simp only [List.map_cons, dicPutV, List.cons_append]
        rw [if_neg (by simpa using this), ih3]
    simp only [List.map_cons, dicOfV, V.isKey, if_true]
    rw [h1, ih (pre ++ [r]) (by simpa using h)]
    simp
theorem dict_get {X : Type} (key : X → List Nat) (f : X → V) : ∀ {l : List X} {r : X}, (l.map key).Nodup → r ∈ l → dicGetV (.str (key r)) (l.map fun r => (.str (key r), f r)) = some (f r)
  | [], r, hn, h => by cases h
  | a :: rest, r, hn, h => by
    simp only [List.map_cons, dicGetV]
    simp only [List.map_cons, List.nodup_cons] at hn
    rcases List.mem_cons.mp h with e | h
    · subst e
      rw [if_pos (by simp)]
    · rw [if_neg (by
        simp only [keq_str, beq_iff_eq]
        intro e
        exact hn.1 (e ▸ List.mem_map.mpr ⟨r, h, rfl⟩))]
      exact dict_get key f hn.2 h
@[simp] theorem dict1_lst (l : List V) : bi1V .dict1 (.lst l) = (dicOfV l []).map .dic := rfl
@[simp] theorem dict1_tup (l : List V) : bi1V .dict1 (.tup l) = (dicOfV l []).map .dic := rfl
@[simp] theorem idx_dic (l : List (V × V)) (s : List Nat) : idxV (.dic l) (.str s) = dicGetV (.str s) l := rfl
@[simp] theorem atIx_nat {X : Type} (l : List X) (n : Nat) : atIx l (n : Int) = l[n]? := by
  simp [atIx]
/-! things under numbers -/
theorem rd_ref {id : Nat} {o : VO} (h : M[id]? = some o) : rd M (.ref id) = some o.v := by simp [rd, h]
theorem mutL_ref {id : Nat} {l : List V} (h : M[id]? = some ⟨true, .lst l⟩) : mutL M (.ref id) = some (id, l) := by simp [mutL, h]
theorem mutL_nr {id : Nat} : True := trivial
theorem app_get {M' T : MS} {L j : Nat} (h : M'.length = L) : (M' ++ T)[L + j]? = T[j]? := by
  rw [List.getElem?_append_right (by omega)]
  congr 1
  omega
theorem app_get0 {M' T : MS} {L : Nat} (h : M'.length = L) : (M' ++ T)[L]? = T[0]? := app_get (j := 0) h
theorem app_set {M' T : MS} {L j : Nat} (h : M'.length = L) (o : VO) : (M' ++ T).set (L + j) o = M' ++ T.set j o := by
  rw [List.set_append_right _ _ (by omega)]
  congr 2
  omega
theorem app_set0 {M' T : MS} {L : Nat} (h : M'.length = L) (o : VO) : (M' ++ T).set L o = M' ++ T.set 0 o := app_set (j := 0) h o
theorem app_getl {M' T : MS} {i : Nat} (h : i < M'.length) : (M' ++ T)[i]? = M'[i]? := List.getElem?_append_left h
theorem app_setl {M' T : MS} {i : Nat} (h : i < M'.length) (o : VO) : (M' ++ T).set i o = M'.set i o ++ T := List.set_append_left _ _ h
theorem retV_old {id n : Nat} (mk : Bool) (h : id < n) : retV mk n (.ref id) M = .ok (.ref id) (M.take n) := by simp [retV, h]
theorem bi1M_ref (P : Prg) (cl : ClV) {b : Bi} {id : Nat} {o : VO} (h : M[id]? = some o) (hi : insV o.v = none) : bi1M P cl b (.ref id) M = (match b with | .isinst ts => liftV ((isAnyV P o.v ts).map .bl) M | b => liftV (bi1V b o.v) M) := by
  cases b <;> simp [bi1M, rd_ref h, hi]
theorem eVi_rng1 {P : Prg} {cl : ClV} {e : E} {env : VE} {M0 : MS} {n : Nat} (h : eV P cl e env M = .ok (.int n) M0) (hn : n < 1000000) : eVi P cl (.rng1 e) env M = .ok ((List.range n).map fun (j : Nat) => .int j, []) M0 := by
  simp only [eVi, h, vb_ok]
  unfold rng1M
  rw [if_pos (by omega)]
  simp [rangeV]
theorem pop1_ok {id r : Nat} {l : List V} {v : V} (h : M[id]? = some ⟨true, .lst l⟩) (hv : l[r]? = some v) (hr : r < 1000000000) : mbM .pop1 (.ref id) [.int r] M = .ok v (M.set id ⟨true, .lst (l.eraseIdx r)⟩) := by
  simp only [mbM, mutL, h]
  unfold popAt
  rw [if_pos (by omega), Int.toNat_natCast, hv]
theorem append_ok {id : Nat} {l : List V} {v : V} (h : M[id]? = some ⟨true, .lst l⟩) (hv : v.nr = true) (hr : l.length < 1000000) : mbM .append (.ref id) [v] M = .ok .non (M.set id ⟨true, .lst (l ++ [v])⟩) := by
  simp only [mbM, appM, frz_nr hv, vb_ok, mutL, h]
  rw [if_pos (by rw [vszl]; omega)]
theorem eraseIdx_map {X Y : Type} (f : X → Y) : ∀ (l : List X) (i : Nat), (l.map f).eraseIdx i = (l.eraseIdx i).map f
  | [], _ => rfl
  | _ :: _, 0 => rfl
  | a :: l, i + 1 => by simp only [List.map_cons, List.eraseIdx_cons_succ, eraseIdx_map f l i]
/-- one turn of a list's comprehension -/
def lcF (P : Prg) (cl : ClV) (elt : E) (t : Tg) (cs : Es) (own : List Nat) (env : VE) : V → MS → RV (Option V) :=
  fun d M => (eVt P cl t d (setAll env own none) M).bind fun env M => (eVc P cl cs env M).bind fun k M => if k then (eV P cl elt env M).bind fun e M => (frz M e).bind fun e M => .ok (some e) M else .ok none M
theorem eV_lc (P : Prg) (cl : ClV) (elt : E) (t : Tg) (it : I) (cs : Es) (own : List Nat) (env : VE) (M : MS) : eV P cl (.lc elt t it cs own) env M = (eVi P cl it env M).bind fun src M => (lcV (lcF P cl elt t cs own env) (fun M => sameV M src.2) [] src.1 M).bind fun l M => .ok (.lst l) M := by
  simp only [eV]
  rfl
end
end Mv
set_option maxRecDepth 10000
/-! U2: texts of values. -/
namespace Mv
open Mi
mutual
def PDok : PD → Bool
  | .int i => decide (i.natAbs < 10 ^ 200)
  | .str s => s.all (· < 128)
  | .lst l => PDoks l
  | .tup l => PDoks l
  | _ => true
def PDoks : List PD → Bool
  | [] => true
  | a :: r => PDok a && PDoks r
end
mutual
def PDwt : PD → Nat
  | .int _ => 202
  | .str s => 4 * s.length + 2
  | .lst l => PDwts l + 2
  | .tup l => PDwts l + 3
  | _ => 5
def PDwts : List PD → Nat
  | [] => 0
  | a :: r => PDwt a + 2 + PDwts r
end
theorem digitsN_len {n : Nat} (h : n < 10 ^ 200) : (digitsN n).length ≤ 200 := by
  unfold digitsN
  rw [List.length_map]
  exact (Nat.length_toDigits_le_iff (by decide) (by decide)).2 h
theorem digits_len {i : Int} (h : i.natAbs < 10 ^ 200) : (digits i).length ≤ 202 := by
  cases i with
  | ofNat n =>
    have := digitsN_len (n := n) h
    simp only [digits]
    omega
  | negSucc n =>
    have := digitsN_len (n := n + 1) h
    simp only [digits, List.length_cons]
    omega
theorem reprC_len (q c : Nat) : (reprC q c).length ≤ 4 := by
  unfold reprC
  repeat' split
  all_goals simp
theorem flat_len {f : Nat → List Nat} (h : ∀ c, (f c).length ≤ 4) : ∀ s : List Nat, (s.flatMap f).length ≤ 4 * s.length
  | [] => by simp
  | c :: r => by
    have := h c
    have := flat_len h r
    simp only [List.flatMap_cons, List.length_append, List.length_cons]
    omega
def sumLen : List (List Nat) → Nat
  | [] => 0
  | t :: r => t.length + 2 + sumLen r
theorem join_len : ∀ ts : List (List Nat), (joinS [44, 32] ts).length ≤ sumLen ts
  | [] => by simp [joinS]
  | [x] => by simp [joinS, sumLen]
  | x :: y :: r => by
    have := join_len (y :: r)
    simp only [joinS, List.length_append, sumLen, List.length_cons, List.length_nil] at this ⊢
    omega
theorem big : (10 : Nat) ^ 200 ≤ 2 ^ 1000 := by decide +kernel
mutual
theorem repr_ok2 : ∀ p : PD, PDok p = true → ∃ t, p.repr = some t ∧ t.length ≤ PDwt p
  | .non, _ => ⟨_, rfl, by simp [PDwt]⟩
  | .bl true, _ => ⟨_, rfl, by simp [PDwt]⟩
  | .bl false, _ => ⟨_, rfl, by simp [PDwt]⟩
  | .int i, h => by
    simp only [PDok, decide_eq_true_eq] at h
    refine ⟨digits i, ?_, digits_len h⟩
    simp only [PD.repr]
    rw [if_pos (Nat.lt_of_lt_of_le h big)]
  | .str s, h => by
    simp only [PDok] at h
    refine ⟨_, by simp only [PD.repr, reprS]; rw [if_pos h], ?_⟩
    have := flat_len (reprC_len (quoteOf s)) s
    simp only [List.length_cons, List.length_append, List.length_nil, PDwt]
    omega
  | .lst l, h => by
    simp only [PDok] at h
    obtain ⟨ts, h1, h2, _⟩ := reprs_ok2 l h
    refine ⟨[91] ++ joinS [44, 32] ts ++ [93], by simp only [PD.repr, h1], ?_⟩
    have := join_len ts
    simp only [List.length_append, List.length_cons, List.length_nil, PDwt]
    omega
  | .tup l, h => by
    simp only [PDok] at h
    obtain ⟨ts, h1, h2, _⟩ := reprs_ok2 l h
    refine ⟨[40] ++ joinS [44, 32] ts ++ (if ts.length = 1 then [44, 41] else [41]), by simp only [PD.repr, h1], ?_⟩
    have := join_len ts
    simp only [List.length_append, List.length_cons, List.length_nil, PDwt]
    split
    · simp only [List.length_cons, List.length_nil]; omega
    · simp only [List.length_cons, List.length_nil]; omega
theorem reprs_ok2 : ∀ l : List PD, PDoks l = true → ∃ ts, PD.reprs l = some ts ∧ sumLen ts ≤ PDwts l ∧ ts.length = l.length
  | [], _ => ⟨[], rfl, by simp [sumLen, PDwts], rfl⟩
  | a :: r, h => by
    simp only [PDoks, Bool.and_eq_true] at h
    obtain ⟨t, h1, h2⟩ := repr_ok2 a h.1
    obtain ⟨ts, h3, h4, h5⟩ := reprs_ok2 r h.2
    refine ⟨t :: ts, by simp only [PD.reprs, h1, h3], ?_, by simp [h5]⟩
    simp only [sumLen, PDwts]
    omega
end
/-- a value that has a text -/
theorem repr_some {v : V} {p : PD} (h : pdV deep v = some p) (h1 : PDok p = true) (h2 : PDwt p ≤ 4000000) (h3 : v.boxed = true) : ∃ t, biReprV v = some (.str t) := by
  obtain ⟨t, e, hl⟩ := repr_ok2 p h1
  refine ⟨t, ?_⟩
  simp only [biReprV, reprV, h, e]
  rw [if_pos ⟨h3, by omega⟩]
/-- texts of equal values are equal -/
theorem repr_ne {v : V} {t : List Nat} (h : biReprV v = some (.str t)) : True := trivial
@[simp] theorem repr1_V (v : V) : bi1V .repr1 v = biReprV v := rfl
theorem pair_text (a b : Int) (ha : a.natAbs < 10 ^ 200) (hb : b.natAbs < 10 ^ 200) : ∃ t, biReprV (.lst [.tup [.int a, .int b], .tup [.int a, .int b]]) = some (.str t) :=
  repr_some (p := .lst [.tup [.int a, .int b], .tup [.int a, .int b]]) (by simp [pdV, deep, mapO]) (by simp [PDok, PDoks, ha, hb]) (by simp [PDwt, PDwts]) rfl
theorem bools_text (a : Bool) : ∃ t, biReprV (.lst [.bl a, .bl a]) = some (.str t) :=
  repr_some (p := .lst [.bl a, .bl a]) (by simp [pdV, deep, mapO]) (by simp [PDok, PDoks]) (by simp [PDwt, PDwts]) rfl
@[simp] theorem eqV_pair (a b c d : Int) : eqV (.tup [.int a, .int b]) (.tup [.int c, .int d]) = some (a == c && b == d) := by
  simp [eqV, pdV, deep, mapO, PD.eqv, PD.eqvs]
theorem mapO_len {X : Type} {f : V → Option PD} {e : X → V} (h : ∀ x, ∃ p, f (e x) = some p) : ∀ l : List X, ∃ ps, mapO f (l.map e) = some ps ∧ ps.length = l.length
  | [] => ⟨[], rfl, rfl⟩
  | a :: r => by
    obtain ⟨ps, h1, h2⟩ := mapO_len h r
    obtain ⟨p, hp⟩ := h a
    exact ⟨p :: ps, by simp only [List.map_cons, mapO, hp, h1], by simp [h2]⟩
/-- a list beside the empty one -/
theorem eqV_lst_nil {X : Type} (l : List X) (e : X → V) (h : ∀ x, ∃ p, pdV 19 (e x) = some p) : eqV (.lst (l.map e)) (.lst []) = some l.isEmpty := by
  obtain ⟨ps, h1, h2⟩ := mapO_len h l
  unfold eqV
  simp only [deep, pdV, h1, mapO]
  cases l with
  | nil => cases ps with
    | nil => rfl
    | cons => simp at h2
  | cons => cases ps with
    | nil => simp at h2
    | cons => rfl
theorem sum_bound {B : Int} : ∀ (l : List Int), (∀ x ∈ l, -B ≤ x ∧ x ≤ B) → -(B * l.length) ≤ l.sum ∧ l.sum ≤ B * l.length
  | [], _ => by simp
  | a :: r, h => by
    have h1 := h a List.mem_cons_self
    have h2 := sum_bound r fun x hx => h x (List.mem_cons_of_mem _ hx)
    simp only [List.sum_cons, List.length_cons]
    have : B * ((r.length + 1 : Nat) : Int) = B * r.length + B := by
      rw [Int.natCast_add, Int.mul_add]
      simp
    omega
theorem mul_bound {a b A B : Int} (h : -A ≤ a ∧ a ≤ A) (h2 : -B ≤ b ∧ b ≤ B) (hA : 0 ≤ A) (hB : 0 ≤ B) : -(A * B) ≤ a * b ∧ a * b ≤ A * B := by
  have h3 : a.natAbs ≤ A.natAbs := by omega
  have h4 : b.natAbs ≤ B.natAbs := by omega
  have h5 : (a * b).natAbs ≤ (A * B).natAbs := by
    rw [Int.natAbs_mul, Int.natAbs_mul]
    exact Nat.mul_le_mul h3 h4
  have h6 : 0 ≤ A * B := Int.mul_nonneg hA hB
  omega
@[simp] theorem permV_cons {α : Type} (z : α) (p : Nat) (ps : List Nat) (l : List α) : permV z (p :: ps) l = (p :: ps).map fun i => l.getD i z := rfl
@[simp] theorem thaw_lst (l : List V) (M : MS) : thaw (.lst l) M = .ok (.ref M.length) (M ++ [⟨true, .lst l⟩]) := rfl
@[simp] theorem thaw_dic (l : List (V × V)) (M : MS) : thaw (.dic l) M = .ok (.ref M.length) (M ++ [⟨true, .dic l⟩]) := rfl
@[simp] theorem ite_okO {c : Prop} [Decidable c] {M : MS} (x : V) : (if c then RV.ok (some x) M else RV.ok none M) = RV.ok (if c then some x else none) M := by split <;> rfl
@[simp] theorem get2_0 {M : MS} (a b : VO) : (M ++ [a, b])[M.length]? = some a := app_get0 rfl
@[simp] theorem get2_1 {M : MS} (a b : VO) : (M ++ [a, b])[M.length + 1]? = some b := app_get (j := 1) rfl
@[simp] theorem get3_2 {M : MS} (a b c : VO) : (M ++ [a, b, c])[M.length + 2]? = some c := app_get (j := 2) rfl
@[simp] theorem set1_0 {M : MS} (a x : VO) : (M ++ [a]).set M.length x = M ++ [x] := app_set0 rfl x
@[simp] theorem set2_0 {M : MS} (a b x : VO) : (M ++ [a, b]).set M.length x = M ++ [x, b] := app_set0 rfl x
@[simp] theorem set2_1 {M : MS} (a b x : VO) : (M ++ [a, b]).set (M.length + 1) x = M ++ [a, x] := app_set (j := 1) rfl x
@[simp] theorem mbOk_lst (m : Mb) (l : List V) : mbOkV m (.lst l) = (m.ty == "list" || (m.ty == "seq" && ("list" == "list" || "list" == "tuple"))) := rfl
@[simp] theorem mbOk_tup (m : Mb) (l : List V) : mbOkV m (.tup l) = (m.ty == "tuple" || (m.ty == "seq" && ("tuple" == "list" || "tuple" == "tuple"))) := rfl
@[simp] theorem mbOk_str (m : Mb) (l : List Nat) : mbOkV m (.str l) = (m.ty == "str" || (m.ty == "seq" && ("str" == "list" || "str" == "tuple"))) := rfl
end Mv
set_option maxRecDepth 100000
set_option maxHeartbeats 1000000
/-! X0: tuples of which is known that they have no dict of their own; the rules that make them. -/
namespace L2
open PySem PySem.Spec PyProof.Rows
theorem tuple_mulS (l : Addr) (items : Array Value) (n : Nat) (dd : Option Addr) (sl : Array (Option Value)) (x : Int) (u : Tok) (c0 : (decide (x < -(2 ^ 63)) || decide (x ≥ 2 ^ 63)) = false) (c1 : (items.isEmpty || x == 1) = true) :
    Meets (Builtin.«tuple.__mul__» ⟨[.ref l, .int x u], []⟩) (fun _ R s => s.heap.get? l = some { cls := .type "tuple", dict := dd, data := .seq items n, slots := sl } ∧
      R (.ok (.ret (Value.ref l))) s) :=
  .of_wp fun prog w A R s h => by
    obtain ⟨hp, g, d, tk, os⟩ := s
    obtain ⟨hl, h⟩ := h
    have f1 := AutoSeq1.idx_int
    wp_walk using wpAny_loadPart' hl
    repeat (first
      | (refine wpAny_ite_false (decide_eq_false (by rw [c0]; exact Bool.false_ne_true)) ?_; wp_walk using wpAny_loadPart' hl)
      | (refine wpAny_ite_true (decide_eq_true c1) ?_; wp_walk using wpAny_loadPart' hl))
    exact ⟨_, rfl, h⟩
theorem tuple_mul0 (l : Addr) (items : Array Value) (n : Nat) (dd : Option Addr) (sl : Array (Option Value)) (x : Int) (u : Tok) (c0 : (decide (x < -(2 ^ 63)) || decide (x ≥ 2 ^ 63)) = false) (c1 : (items.isEmpty || x == 1) = false) (c2 : (decide (x ≤ 0) || items.isEmpty) = true) :
    Meets (Builtin.«tuple.__mul__» ⟨[.ref l, .int x u], []⟩) (fun _ R s => s.heap.get? l = some { cls := .type "tuple", dict := dd, data := .seq items n, slots := sl } ∧
      R (.ok (.ret (Value.ref s.heap.objs.size))) { s with heap := s.heap.push { cls := Value.type "tuple", data := Data.seq #[] }, toks := s.toks }) :=
  .of_wp fun prog w A R s h => by
    obtain ⟨hp, g, d, tk, os⟩ := s
    obtain ⟨hl, h⟩ := h
    have f1 := AutoSeq1.idx_int
    wp_walk using wpAny_loadPart' hl
    repeat (first
      | (refine wpAny_ite_false (decide_eq_false (by rw [c0]; exact Bool.false_ne_true)) ?_; wp_walk using wpAny_loadPart' hl)
      | (refine wpAny_ite_false (decide_eq_false (by rw [c1]; exact Bool.false_ne_true)) ?_; wp_walk using wpAny_loadPart' hl)
      | (refine wpAny_ite_true (decide_eq_true c2) ?_; wp_walk using wpAny_loadPart' hl)
      | (refine wpAny_ite_false (decide_eq_false (by decide)) ?_; wp_walk using wpAny_loadPart' hl))
    exact ⟨_, rfl, h⟩
end L2
namespace Mi
open PySem PySem.Spec PyProof.Rows L2
def TupO (o : Obj) : Prop := o.cls = .type "tuple" ∧ o.dict = none
/-- a tuple without a dict of its own -/
def SqX (K : PySem.W.Frag) (H : Hp) (a : Addr) (xs : List V) : Prop :=
  (∃ o, H a = some (.frz o (.tup xs)) ∧ TupO o) ∨ ∃ o its n, K.lookup a = some o ∧ TupO o ∧ o.data = .seq its n ∧ its.size ≤ sizeLine ∧ Vals xs its.toList
theorem SqX.sqT {K : PySem.W.Frag} {H : Hp} {a : Addr} {xs : List V} (h : SqX K H a xs) : SqT K H a xs := by
  rcases h with ⟨o, h, _⟩ | ⟨o, its, n, h1, h2, h3, h4, h5⟩
  · exact .inl (.inr ⟨o, h⟩)
  · exact .inr ⟨o, its, n, h1, h2.1, h3, h4, h5⟩
/-- what is wished of a new tuple -/
def NewT (H : Hp) (Q : VK) (xs : List V) : Prop := ∀ p o, H p = none → TupO o → Q (.ref p) (upd H p (.frz o (.tup xs)))
section
variable {X : Cx} {pins : List (Addr × Obj)} {σ : L2.St} {H : Hp} {s : Shared}
theorem newT_at {h' : Heap} {t' : Nat} {T : Addr} {its : List Value} {xs : List V} {Q : VK} (I : Inv X pins σ H s) (r : Vals xs its) (hl : xs.length ≤ sizeLine) (hT : s.heap.objs.size ≤ T) (hk : ∀ b u, s.heap.get? b = some u → h'.get? b = some u) (ht : h'.get? T = some { cls := .type "tuple", data := .seq its.toArray }) (q : NewT H Q xs) :
    EP X pins σ Q (.ref T) { heap := h', gens := s.gens, drawn := s.drawn, toks := t', os := s.os } :=
  ⟨.ref T, _, I.laid (o := .frz { cls := .type "tuple", data := .seq its.toArray } (.tup xs)) hk hT ⟨ht, hl, its, r, _, ht, rfl, _, rfl⟩, rfl, q T _ (I.hok.fresh hT) ⟨rfl, rfl⟩⟩
theorem newT_push {its : List Value} {xs : List V} {Q : VK} {t' : Nat} (I : Inv X pins σ H s) (r : Vals xs its) (hl : xs.length ≤ sizeLine) (q : NewT H Q xs) :
    EP X pins σ Q (.ref s.heap.objs.size) { heap := s.heap.push { cls := .type "tuple", data := .seq its.toArray }, gens := s.gens, drawn := s.drawn, toks := t', os := s.os } :=
  newT_at I r hl (Nat.le_refl _) (fun b u h => Heap.get?_push_of_some _ h) (Heap.get?_push_size _ rfl) q
/-- the object at such a tuple -/
theorem sqX_at {a : Addr} {xs : List V} (I : Inv X pins σ H s) (h : SqX X.K H a xs) : ∃ o its n, s.heap.get? a = some o ∧ TupO o ∧ o.data = .seq its n ∧ Vals xs its.toList ∧ xs.length ≤ sizeLine := by
  rcases h with ⟨o, h, ho⟩ | ⟨o, its, n, h1, h2, h3, h4, h5⟩
  · obtain ⟨g1, g2, its, r, o', g3, g4, n, g5⟩ := I.hok a _ h
    rw [g1] at g3
    cases g3
    exact ⟨o, its.toArray, n, g1, ho, g5, by simpa using r, g2⟩
  · exact ⟨o, its, n, I.kIn a o h1, h2, h3, h5, by rw [h5.length]; simpa using h4⟩
end
def tTupX (t : TA) : TE := fun σ H Q => t σ H fun xs H1 => xs.length ≤ sizeLine ∧ NewT H1 Q xs
theorem pe_tupX {X : Cx} {es : List Expr} {t : TA} {pos : Pos} {x1 : Nat} (h : PA X es t) : PE X (.Tuple es x1 pos) (tTupX t) := ⟨fun pins s σ H Q I hw => by
  refine wpAny_Tuple_spliced (thn (h.run pos pins s σ H _ I hw) fun us s' hq => ?_)
  obtain ⟨vs, H', I', r, hl, q⟩ := hq
  exact ⟨by rw [← r.length]; exact hl, newT_push I' r hl q⟩⟩
theorem cr_tupleX {X : Cx} : CallR X (.type "tuple") fun xs H Q => ∃ p ys, xs = [.ref p] ∧ ((SqL X.K H p ys ∧ NewT H Q ys) ∨ (SqT X.K H p ys ∧ Q (.ref p) H)) := by
  intro pins s σ H xs us Q I r h
  obtain ⟨p, ys, rfl, h⟩ := h
  rcases h with ⟨h, q⟩ | ⟨h, q⟩
  · obtain ⟨u, rfl, rx⟩ := vals1 r
    cases rx
    obtain ⟨its, rv, hl, hz⟩ := I.list h
    refine call_tuple_list hl.isList (fun h' hk => ?_) (by simp; rw [← rv.length]; exact hz)
    have I' : Inv X pins σ H { heap := h', gens := s.gens, drawn := s.drawn, toks := s.toks, os := s.os } := I.kept hk
    exact newT_push I' rv hz q
  · exact call_tuple_of pins s σ H _ us Q I r ⟨p, ys, rfl, .inr ⟨h, q⟩⟩
theorem cr_divmodX {X : Cx} : CallR X (.builtin "divmod") fun xs H Q => ∃ i j, xs = [.int i, .int j] ∧ CDiv i j ∧ NewT H Q [.int (i / j), .int (i % j)] := by
  intro pins s σ H xs us Q I r h
  obtain ⟨i, j, rfl, hc, q⟩ := h
  obtain ⟨u, v, rfl, rx, ry⟩ := vals2 r
  obtain ⟨t, rfl⟩ := rx
  obtain ⟨t', rfl⟩ := ry
  have hc1 := hc.1
  refine divmod_int (by omega) ?_ (.inl (PyProof.noPylong_small (by have := hc.2; omega)))
  rw [Int.fdiv_eq_ediv_of_nonneg _ (by omega), Int.fmod_eq_emod_of_nonneg _ (by omega)]
  exact newT_push (its := [.int (i / j) s.toks, .int (i % j) (s.toks + 1)]) (xs := [.int (i / j), .int (i % j)]) I (.cons ⟨_, rfl⟩ (.cons ⟨_, rfl⟩ .nil)) (by show 2 ≤ _; rw [sizeLine_eq]; decide) q
def rCatX (K : PySem.W.Frag) : R2 := fun x y H Q => ∃ a b xs ys, x = .ref a ∧ y = .ref b ∧ SqT K H a xs ∧ SqT K H b ys ∧ xs.length + ys.length ≤ sizeLine ∧ (xs = [] → Q (.ref b) H) ∧ (xs ≠ [] → ys = [] → Q (.ref a) H) ∧ (xs ≠ [] → ys ≠ [] → NewT H Q (xs ++ ys))
theorem op_catX {X : Cx} : OpR X (binaryOp .Add) (rCatX X.K) := by
  intro pins s σ H x y v u Q I rx ry h
  obtain ⟨a, b, xs, ys, rfl, rfl, ha, hb, hl, q1, q2, q3⟩ := h
  cases rx
  cases ry
  obtain ⟨its, r1, i1, _⟩ := I.tuple ha
  obtain ⟨its2, r2, i2, _⟩ := I.tuple hb
  by_cases hx : xs = []
  · subst hx
    cases r1
    exact cat_tup0 i1 i2 ⟨.ref b, H, I, rfl, q1 rfl⟩
  · refine HT.cat_tup i1 i2 (fun e => hx (r1.nil_iff.mp e)) (fun e => ⟨.ref a, H, I, rfl, q2 hx (r2.nil_iff.mp e)⟩) (fun e => ?_) (by rw [← r1.length, ← r2.length]; exact hl)
    exact newT_push I (r1.append r2) (by simp; exact hl) (q3 hx fun z => e (r2.nil_iff.mpr z))
def rSlX (K : PySem.W.Frag) : V → Option Int → Option Int → Hp → VK → Prop := fun x lo hi H Q => ∃ a xs, x = .ref a ∧ SqT K H a xs ∧ ((HT.sIx xs.length 0 lo = 0 ∧ HT.sIx xs.length xs.length hi = xs.length) → Q (.ref a) H) ∧ (¬(HT.sIx xs.length 0 lo = 0 ∧ HT.sIx xs.length xs.length hi = xs.length) → NewT H Q (cutV xs lo hi))
theorem sl_tupX {X : Cx} : SlR X (rSlX X.K) := by
  intro pins s σ H x v vl vu lo hi sl Q I rx hs pl pu h
  obtain ⟨a, xs, rfl, ha, q1, q2⟩ := h
  cases rx
  obtain ⟨its, r1, i1, hz⟩ := I.tuple ha
  have e : its.toArray.size = xs.length := by simp; exact r1.length.symm
  refine ⟨"tuple", _, slot_tuple_getitem.lookup, i1.typeIs, ?_⟩
  by_cases hw : HT.sIx xs.length 0 lo = 0 ∧ HT.sIx xs.length xs.length hi = xs.length
  · exact getItem_tuple_whole i1 hs pl pu (by rw [e]; exact hw) ⟨.ref a, H, I, rfl, q1 hw⟩
  · refine HT.getItem_tuple_cut i1 hs pl pu (by rw [e]; exact hw) ?_ (by rw [e]; exact hz)
    rw [e]
    exact newT_push I ((r1.drop _).take _) (Nat.le_trans (cutV_length xs lo hi) hz) (q2 hw)
/-- t * k -/
def rRepX (K : PySem.W.Frag) : R2 := fun x y H Q => ∃ l k xs, x = .ref l ∧ y = .int k ∧ SqT K H l xs ∧ -1000 ≤ k ∧ k ≤ 1000 ∧ xs.length ≤ 1000 ∧ ((xs = [] ∨ k = 1) → Q (.ref l) H) ∧ (¬(xs = [] ∨ k = 1) → NewT H Q (List.replicate k.toNat xs).flatten)
theorem op_repX {X : Cx} : OpR X (binaryOp .Mult) (rRepX X.K) := by
  intro pins s σ H x y v u Q I rx ry h
  obtain ⟨l, k, xs, rfl, rfl, hT, h1, h2, hm, q1, q2⟩ := h
  cases rx
  obtain ⟨t, rfl⟩ := ry
  obtain ⟨its, r, ⟨⟨cls, dd, data, sl⟩, ho, hc, n, hd⟩, hs⟩ := I.tuple hT
  simp only at hc hd
  subst hc hd
  have hle : its.length = xs.length := r.length.symm
  have c0 : (decide (k < -(2 ^ 63)) || decide (k ≥ 2 ^ 63)) = false := by
    rw [decide_eq_false (by omega), decide_eq_false (by omega)] <;> rfl
  have hi : its.toArray.isEmpty = xs.isEmpty := by
    cases r <;> rfl
  by_cases hk : xs = [] ∨ k = 1
  · have c1 : (its.toArray.isEmpty || k == 1) = true := by
      rw [hi]
      rcases hk with e | e
      · rw [e]; rfl
      · rw [e]; simp
    exact wpAny_binaryOp_repeat_ref (T := "tuple") (U := "int") (by decide) ⟨_, ho, rfl⟩ (fun s' => typeIs_int s' k t) noFill_tuple_mul F.fills_int_mul F.slot_int_rmul repeat_tuple F.slot_int_index.lookup
      (call_meets F.slot_int_rmul (typeIs_int s k t) F.entry_int_rmul (F.args_int_rmul_2 _ _) (int_rmul_tuple k t l its.toArray n dd sl)
        ⟨ho, rfl, ⟨_, ho, rfl⟩, call_meets F.slot_tuple_mul ⟨_, ho, rfl⟩ F.entry_tuple_mul (F.args_tuple_mul_2 _ _) (tuple_mulS l its.toArray n dd sl k t c0 c1) ⟨ho, ⟨.ref l, H, I, rfl, q1 hk⟩⟩⟩)
  · have q := q2 hk
    have he : xs.isEmpty = false := by
      cases xs with
      | nil => exact absurd (.inl rfl) hk
      | cons a b => rfl
    have c1 : (its.toArray.isEmpty || k == 1) = false := by
      rw [hi, he, Bool.false_or]
      exact beq_eq_false_iff_ne.mpr fun e => hk (.inr e)
    by_cases hk2 : k ≤ 0
    · have c2 : (decide (k ≤ 0) || its.toArray.isEmpty) = true := by
        rw [decide_eq_true hk2, Bool.true_or]
      refine wpAny_binaryOp_repeat_ref (T := "tuple") (U := "int") (by decide) ⟨_, ho, rfl⟩ (fun s' => typeIs_int s' k t) noFill_tuple_mul F.fills_int_mul F.slot_int_rmul repeat_tuple F.slot_int_index.lookup
        (call_meets F.slot_int_rmul (typeIs_int s k t) F.entry_int_rmul (F.args_int_rmul_2 _ _) (int_rmul_tuple k t l its.toArray n dd sl)
          ⟨ho, rfl, ⟨_, ho, rfl⟩, call_meets F.slot_tuple_mul ⟨_, ho, rfl⟩ F.entry_tuple_mul (F.args_tuple_mul_2 _ _) (tuple_mul0 l its.toArray n dd sl k t c0 c1 c2) ⟨ho, ?_⟩⟩)
      have e : k.toNat = 0 := by omega
      rw [e] at q
      exact newT_push (its := []) I .nil (Nat.zero_le _) q
    · have c2 : (decide (k ≤ 0) || its.toArray.isEmpty) = false := by
        rw [decide_eq_false hk2, hi, he]
        rfl
      have kp : (k.toNat : Int) = k := by omega
      have len : (List.replicate k.toNat xs).flatten.length ≤ 1000000 := by
        rw [List.length_flatten, List.map_replicate, List.sum_replicate_nat]
        exact Nat.mul_le_mul (by omega : k.toNat ≤ 1000) hm
      have fl : List.foldl (fun x1 x2 => x1 ++ x2) #[] (List.replicate k.toNat its.toArray) = (List.replicate k.toNat its).flatten.toArray := by
        have key : ∀ (m : Nat) (acc : List Value), List.foldl (fun x1 x2 => x1 ++ x2) acc.toArray (List.replicate m its.toArray) = (acc ++ (List.replicate m its).flatten).toArray := fun m => by
          induction m with
          | zero => intro acc; simp
          | succ m ih =>
            intro acc
            rw [List.replicate_succ, List.foldl_cons, List.append_toArray, ih, List.replicate_succ, List.flatten_cons, List.append_assoc]
        exact key k.toNat []
      have rr : Vals (List.replicate k.toNat xs).flatten (List.replicate k.toNat its).flatten := r.rep _
      have sz : (its.toArray.size : Int) * k ≤ 1000000 := by
        have h3 : its.toArray.size ≤ 1000 := by simp; omega
        have : (its.toArray.size : Int) * k ≤ 1000 * 1000 := Int.mul_le_mul (by omega) (by omega) (by omega) (by omega)
        omega
      have tm := tuple_mulW l its.toArray n dd sl k t c0 c1 c2 (by omega) (by
        unfold Builtin.Tuple.tupleTooMany
        rw [decide_eq_false_iff_not]
        rw [sizeLine_eq]
        omega) (by
        rw [fl]
        simp only [List.size_toArray]
        rw [← rr.length, sizeLine_eq]
        omega)
      rw [fl] at tm
      refine wpAny_binaryOp_repeat_ref (T := "tuple") (U := "int") (by decide) ⟨_, ho, rfl⟩ (fun s' => typeIs_int s' k t) noFill_tuple_mul F.fills_int_mul F.slot_int_rmul repeat_tuple F.slot_int_index.lookup
        (call_meets F.slot_int_rmul (typeIs_int s k t) F.entry_int_rmul (F.args_int_rmul_2 _ _) (int_rmul_tuple k t l its.toArray n dd sl)
          ⟨ho, rfl, ⟨_, ho, rfl⟩, call_meets F.slot_tuple_mul ⟨_, ho, rfl⟩ F.entry_tuple_mul (F.args_tuple_mul_2 _ _) tm ⟨ho, ?_⟩⟩)
      exact newT_push I rr (by rw [sizeLine_eq]; omega) q
end Mi
set_option maxRecDepth 100000
/-! S1: how the small language's store lies in the model's heap. -/
namespace Mi
open PySem PySem.Spec PyProof.Rows L2

def strS (s : List Nat) : PySem.Str := ⟨s.toArray⟩
theorem strS_len (s : List Nat) : (strS s).length = s.length := by simp [strS, PySem.Str.length]
theorem strS_inj {a b : List Nat} (h : strS a = strS b) : a = b := by
  have := congrArg (fun x : PySem.Str => x.cps.toList) h
  simpa [strS] using this

/-- signs alone -/
def okS (s : List Nat) : Bool := s.all fun c => decide (c < 1114112)
/-- the places of the program's defs and classes -/
structure Gs where
  K : PySem.W.Frag
  ad : Nat → Addr
/-- where the store lies: the objects' addresses, how many there are, the heap -/
structure Pl where
  ρ : Nat → Addr
  S : Store
  H : Hp

mutual
def RV (g : Gs) (p : Pl) : D → V → Prop
  | .non, v => v = .non
  | .bl b, v => v = .bl b
  | .int i, v => v = .int i
  | .str s, v => v = .str (strS s) ∧ okS s = true
  | .tup l, v => ∃ a xs, v = .ref a ∧ SqX g.K p.H a xs ∧ RVs g p l xs
  | .loc n, v => n < p.S.length ∧ v = .ref (p.ρ n)
  | .glo k, v => v = .ref (g.ad k)
  | .ty n, v => v = .ty n
def RVs (g : Gs) (p : Pl) : List D → List V → Prop
  | [], vs => vs = []
  | d :: r, vs => ∃ v w, vs = v :: w ∧ RV g p d v ∧ RVs g p r w
end
/-- the fields of an instance -/
def RF (g : Gs) (p : Pl) : List (String × D) → List (PySem.Str × V) → Prop
  | [], gs => gs = []
  | (f, d) :: r, gs => ∃ v w, gs = (PySem.Str.ofString f, v) :: w ∧ RV g p d v ∧ RF g p r w
def keyOf : D → Option Key
  | .int i => some (.inl i)
  | .str s => some (.inr (strS s))
  | _ => none
def RK (g : Gs) (p : Pl) : List (D × D) → List (Key × V) → Prop
  | [], gs => gs = []
  | (k, d) :: r, gs => ∃ q v w, gs = (q, v) :: w ∧ keyOf k = some q ∧ RV g p d v ∧ RK g p r w
/-- the fields of an exception, in its own dict at dd -/
def RXd (g : Gs) (p : Pl) (fs : List (String × D)) (dd : Option Addr) : Prop := match fs with
  | [] => dd = none
  | [(f, d)] => ∃ a v, dd = some a ∧ p.H a = some (.xd [(PySem.Str.ofString f, v)]) ∧ RV g p d v
  | _ => False
def RO (g : Gs) (p : Pl) (a : Addr) : MO → Prop
  | .lst l => ∃ xs, p.H a = some (.lst xs) ∧ RVs g p l xs
  | .fls l => ∃ xs, ((∃ o, p.H a = some (.frz o (.lst xs))) ∨ ∃ (o : Obj) (its : Array Value) (n : Nat), g.K.lookup a = some o ∧ o.cls = .type "list" ∧ o.dict = none ∧ o.data = .seq its n ∧ its.size ≤ sizeLine ∧ Vals xs its.toList) ∧ RVs g p l xs
  | .ins c fs => ∃ dx gs, p.H a = some (.ins (g.ad c) dx gs) ∧ RF g p fs gs
  | .dic kvs => ∃ ks, p.H a = some (.dK ks) ∧ RK g p kvs ks ∧ (ks.map (·.1)).Nodup
  | .exn c fs => ∃ dd, RXd g p fs dd
def MO.wr : MO → Bool
  | .fls _ => false
  | .exn _ _ => false
  | _ => true
def wrAt (S : Store) (n : Nat) : Bool := match S[n]? with
  | some o => o.wr
  | none => false
structure Ok (g : Gs) (p : Pl) : Prop where
  ob : ∀ n o, p.S[n]? = some o → RO g p (p.ρ n) o
  inj : ∀ n m, wrAt p.S n = true → wrAt p.S m = true → p.ρ n = p.ρ m → n = m
/-- p goes on as q: nothing is gone, new objects are new, what is not of the store stands -/
structure Nx (p q : Pl) : Prop where
  len : p.S.length ≤ q.S.length
  rho : ∀ n, n < p.S.length → q.ρ n = p.ρ n
  new : ∀ n, p.S.length ≤ n → n < q.S.length → p.H (q.ρ n) = none
  kd : ∀ n, n < p.S.length → wrAt q.S n = wrAt p.S n
  trk : ∀ a, q.H a = none → p.H a = none
  kep : ∀ a o, p.H a = some o → (∀ n, wrAt p.S n = true → p.ρ n ≠ a) → q.H a = some o

theorem wrAt_lt {S : Store} {n : Nat} (h : wrAt S n = true) : n < S.length := by
  unfold wrAt at h
  cases e : S[n]? with
  | none => rw [e] at h; cases h
  | some o => exact (List.getElem?_eq_some_iff.mp e).1
theorem wrAt_of {S : Store} {n : Nat} {o : MO} (h : S[n]? = some o) : wrAt S n = o.wr := by
  unfold wrAt
  rw [h]
theorem Nx.refl (p : Pl) : Nx p p := ⟨Nat.le_refl _, fun _ _ => rfl, fun n h1 h2 => absurd (Nat.lt_of_lt_of_le h2 h1) (Nat.lt_irrefl _), fun _ _ => rfl, fun _ h => h, fun _ _ h _ => h⟩
theorem Nx.trans {p q r : Pl} (a : Nx p q) (b : Nx q r) : Nx p r where
  len := Nat.le_trans a.len b.len
  rho := fun n h => (b.rho n (Nat.lt_of_lt_of_le h a.len)).trans (a.rho n h)
  new := fun n h1 h2 => by
    by_cases h : n < q.S.length
    · rw [b.rho n h]; exact a.new n h1 h
    · exact a.trk _ (b.new n (Nat.le_of_not_lt h) h2)
  kd := fun n h => (b.kd n (Nat.lt_of_lt_of_le h a.len)).trans (a.kd n h)
  trk := fun x h => a.trk x (b.trk x h)
  kep := fun x o h hn => by
    refine b.kep x o (a.kep x o h hn) fun n hw e => ?_
    by_cases hl : n < p.S.length
    · rw [a.rho n hl] at e
      rw [a.kd n hl] at hw
      exact hn n hw e
    · have hl2 := wrAt_lt hw
      have z := a.new n (Nat.le_of_not_lt hl) hl2
      rw [e, h] at z
      cases z

section
variable {g : Gs} {p q : Pl}
/-- what stands at a written place -/
theorem Ok.at_ (h : Ok g p) {n : Nat} (hw : wrAt p.S n = true) : ∃ o, p.H (p.ρ n) = some o ∧ (∀ xs, o ≠ .tup xs) ∧ (∀ b u, o ≠ .frz b u) ∧ (∀ a, o ≠ .own a) ∧ (∀ fs, o ≠ .xd fs) := by
  unfold wrAt at hw
  cases e : p.S[n]? with
  | none => rw [e] at hw; cases hw
  | some o =>
    rw [e] at hw
    have r := h.ob n o e
    cases o with
    | lst l =>
      obtain ⟨xs, h1, _⟩ := r
      exact ⟨_, h1, (fun _ z => by cases z), (fun _ _ z => by cases z), (fun _ z => by cases z), (fun _ z => by cases z)⟩
    | fls l => cases hw
    | ins c fs =>
      obtain ⟨dx, gs, h1, _⟩ := r
      exact ⟨_, h1, (fun _ z => by cases z), (fun _ _ z => by cases z), (fun _ z => by cases z), (fun _ z => by cases z)⟩
    | dic kvs =>
      obtain ⟨ks, h1, _⟩ := r
      exact ⟨_, h1, (fun _ z => by cases z), (fun _ _ z => by cases z), (fun _ z => by cases z), (fun _ z => by cases z)⟩
    | exn c fs => cases hw
theorem Ok.apart (h : Ok g p) {a : Addr} {o : HO} (e : p.H a = some o) (ho : (∃ xs, o = .tup xs) ∨ (∃ b u, o = .frz b u) ∨ (∃ b, o = .own b) ∨ ∃ fs, o = .xd fs) : ∀ n, wrAt p.S n = true → p.ρ n ≠ a := fun n hw z => by
  obtain ⟨u, h1, h2, h3, h4, h5⟩ := h.at_ hw
  rw [z, e] at h1
  cases h1
  rcases ho with ⟨xs, ho⟩ | ⟨b, u, ho⟩ | ⟨b, ho⟩ | ⟨fs, ho⟩
  · exact h2 xs ho
  · exact h3 b u ho
  · exact h4 b ho
  · exact h5 fs ho
theorem Nx.rd (n : Nx p q) (h : Ok g p) {a : Addr} {u : HO} (hu : ∃ xs, u = .tup xs) (r : Rd p.H a u) : Rd q.H a u := by
  rcases r with r | ⟨o, r⟩
  · exact .inl (n.kep a _ r (h.apart r (.inl hu)))
  · exact .inr ⟨o, n.kep a _ r (h.apart r (.inr (.inl ⟨_, _, rfl⟩)))⟩
theorem Nx.sqX (n : Nx p q) (h : Ok g p) {a : Addr} {xs : List V} (r : SqX g.K p.H a xs) : SqX g.K q.H a xs := by
  rcases r with ⟨o, r, t⟩ | r
  · exact .inl ⟨o, n.kep a _ r (h.apart r (.inr (.inl ⟨_, _, rfl⟩))), t⟩
  · exact .inr r
theorem Nx.sqT (n : Nx p q) (h : Ok g p) {a : Addr} {xs : List V} (r : SqT g.K p.H a xs) : SqT g.K q.H a xs := r.elim (fun r => .inl (n.rd h ⟨_, rfl⟩ r)) .inr
mutual
theorem RV.nx (n : Nx p q) (h : Ok g p) : ∀ (d : D) (v : V), RV g p d v → RV g q d v
  | .non, v, r => r
  | .bl b, v, r => r
  | .int i, v, r => r
  | .str s, v, r => r
  | .tup l, v, r => by
    obtain ⟨a, xs, e, s, t⟩ := r
    exact ⟨a, xs, e, n.sqX h s, RVs.nx n h l xs t⟩
  | .loc k, v, r => ⟨Nat.lt_of_lt_of_le r.1 n.len, by rw [n.rho k r.1]; exact r.2⟩
  | .glo k, v, r => r
  | .ty k, v, r => r
theorem RVs.nx (n : Nx p q) (h : Ok g p) : ∀ (d : List D) (v : List V), RVs g p d v → RVs g q d v
  | [], v, r => r
  | d :: l, v, r => by
    obtain ⟨x, w, e, s, t⟩ := r
    exact ⟨x, w, e, RV.nx n h d x s, RVs.nx n h l w t⟩
end
theorem RF.nx (n : Nx p q) (h : Ok g p) : ∀ {fs : List (String × D)} {gs : List (PySem.Str × V)}, RF g p fs gs → RF g q fs gs
  | [], _, r => r
  | (f, d) :: l, _, r => by
    obtain ⟨v, w, e, s, t⟩ := r
    exact ⟨v, w, e, s.nx n h, RF.nx n h t⟩
theorem RK.nx (n : Nx p q) (h : Ok g p) : ∀ {fs : List (D × D)} {gs : List (Key × V)}, RK g p fs gs → RK g q fs gs
  | [], _, r => r
  | (f, d) :: l, _, r => by
    obtain ⟨k, v, w, e, ek, s, t⟩ := r
    exact ⟨k, v, w, e, ek, s.nx n h, RK.nx n h t⟩
theorem RXd.nx (n : Nx p q) (h : Ok g p) {fs : List (String × D)} {dd : Option Addr} (r : RXd g p fs dd) : RXd g q fs dd := by
  match fs, r with
  | [], r => exact r
  | [(f, d)], r =>
    obtain ⟨a, v, e, ha, hv⟩ := r
    exact ⟨a, v, e, n.kep a _ ha (h.apart ha (.inr (.inr (.inr ⟨_, rfl⟩)))), hv.nx n h⟩
theorem RVs.len : ∀ {l : List D} {xs : List V}, RVs g p l xs → l.length = xs.length
  | [], xs, r => by
    have e : xs = [] := r
    rw [e]; rfl
  | d :: l, xs, r => by
    obtain ⟨v, w, e, _, t⟩ := r
    rw [e, List.length_cons, List.length_cons, RVs.len t]
theorem RVs.get : ∀ {l : List D} {xs : List V}, RVs g p l xs → ∀ (i : Nat) (d : D), l[i]? = some d → ∃ v, xs[i]? = some v ∧ RV g p d v
  | [], xs, r, i, d, e => by simp at e
  | a :: l, xs, r, i, d, e => by
    obtain ⟨v, w, ew, s, t⟩ := r
    rw [ew]
    cases i with
    | zero =>
      simp at e
      rw [← e]
      exact ⟨v, rfl, s⟩
    | succ i =>
      simp at e
      obtain ⟨u, h1, h2⟩ := RVs.get t i d e
      exact ⟨u, by simpa using h1, h2⟩
theorem RVs.append : ∀ {l m : List D} {xs ys : List V}, RVs g p l xs → RVs g p m ys → RVs g p (l ++ m) (xs ++ ys)
  | [], m, xs, ys, r, s => by
    have e : xs = [] := r
    rw [e]
    exact s
  | d :: l, m, xs, ys, r, s => by
    obtain ⟨v, w, e, h, t⟩ := r
    rw [e]
    exact ⟨v, w ++ ys, rfl, h, RVs.append t s⟩
theorem RVs.cons {d : D} {l : List D} {v : V} {xs : List V} (h : RV g p d v) (t : RVs g p l xs) : RVs g p (d :: l) (v :: xs) := ⟨v, xs, rfl, h, t⟩
theorem RVs.nil : RVs g p [] [] := rfl
theorem RVs.of_get : ∀ {l : List D} {xs : List V}, l.length = xs.length → (∀ (i : Nat) (d : D) (v : V), l[i]? = some d → xs[i]? = some v → RV g p d v) → RVs g p l xs
  | [], [], _, _ => rfl
  | [], _ :: _, e, _ => by simp at e
  | _ :: _, [], e, _ => by simp at e
  | d :: l, v :: xs, e, h => ⟨v, xs, rfl, h 0 d v rfl rfl, RVs.of_get (by simpa using e) fun i d' v' h1 h2 => h (i + 1) d' v' (by simpa using h1) (by simpa using h2)⟩

/-! ### what the interpreter ends in, as a wish -/
def RX (g : Gs) (p : Pl) (x : Exn) (cls : Value) (dd : Option Addr) : Prop := cls = .ref (g.ad x.cls) ∧ RXd g p x.fs dd
/-- from p by r: an end keeps Kp, an exception keeps W -/
def Post {α : Type} (g : Gs) (W : Value → Option Addr → Hp → Prop) (p : Pl) (r : R α) (Kp : Pl → α → Prop) : Prop :=
  match r with
  | .ok a S => ∀ q : Pl, q.S = S → Nx p q → Ok g q → Kp q a
  | .exc x S => ∀ (q : Pl) (cls : Value) (dd : Option Addr), q.S = S → Nx p q → Ok g q → RX g q x cls dd → W cls dd q.H
  | .bad => False
theorem Post.mono {α : Type} {W : Value → Option Addr → Hp → Prop} {r : R α} {Kp Kq : Pl → α → Prop} (h : Post g W p r Kp) (hk : ∀ q a, Nx p q → Ok g q → Kp q a → Kq q a) : Post g W p r Kq := by
  cases r with
  | ok a S => exact fun q e n o => hk q a n o (h q e n o)
  | exc x S => exact h
  | bad => exact h
theorem Post.from {α : Type} {W : Value → Option Addr → Hp → Prop} {r : R α} {Kp : Pl → α → Prop} (n : Nx p q) (h : Post g W p r Kp) : Post g W q r Kp := by
  cases r with
  | ok a S => exact fun u e m o => h u e (n.trans m) o
  | exc x S => exact fun u cls dd e m o => h u cls dd e (n.trans m) o
  | bad => exact h
theorem Post.bind {α β : Type} {W : Value → Option Addr → Hp → Prop} {r : R α} {k : α → Store → R β} {Kp : Pl → β → Prop} (h : Post g W p (r.bind k) Kp) : Post g W p r fun q a => Post g W q (k a q.S) Kp := by
  cases r with
  | ok a S =>
    intro q e n o
    have h1 : Post g W p (k a S) Kp := h
    rw [e]
    exact h1.from n
  | exc x S => exact h
  | bad => exact h
theorem Post.ok {α : Type} {W : Value → Option Addr → Hp → Prop} {a : α} {S : Store} {Kp : Pl → α → Prop} (h : Post g W p (.ok a S) Kp) (e : p.S = S) (o : Ok g p) : Kp p a := h p e (Nx.refl p) o
/-- r gives no exception: the wish about these is of no matter -/
theorem Post.any {α : Type} {W W' : Value → Option Addr → Hp → Prop} {r : R α} {Kp : Pl → α → Prop} (h : Post g W p r Kp) (hr : ∀ x S, r ≠ .exc x S) : Post g W' p r Kp := by
  cases r with
  | ok a S => exact h
  | exc x S => exact absurd rfl (hr x S)
  | bad => exact h
theorem Post.lift {α : Type} {W : Value → Option Addr → Hp → Prop} {o : Option α} {S : Store} {Kp : Pl → α → Prop} (h : Post g W p (lift o S) Kp) (e : p.S = S) (ok : Ok g p) : ∃ a, o = some a ∧ Kp p a := by
  cases o with
  | none => exact False.elim h
  | some a => exact ⟨a, rfl, h.ok e ok⟩
end
/-- the names' values -/
def RE (g : Gs) (p : Pl) (env : Env) (σ : L2.St) : Prop := env.length = σ.length ∧ ∀ (i : Nat) (d : D), env[i]? = some (some d) → ∃ v, σ[i]? = some (some v) ∧ RV g p d v
theorem RE.nx {g : Gs} {p q : Pl} {env : Env} {σ : L2.St} (r : RE g p env σ) (n : Nx p q) (h : Ok g p) : RE g q env σ := ⟨r.1, fun i d e => by
  obtain ⟨v, h1, h2⟩ := r.2 i d e
  exact ⟨v, h1, h2.nx n h⟩⟩
/-- the reading of an expression that the interpreter m reckons -/
def tM (g : Gs) (W : WX) (m : Env → Store → R D) : TE := fun σ H Q => ∃ (p : Pl) (env : Env), p.H = H ∧ Ok g p ∧ RE g p env σ ∧ Post g (fun c d H => W c d σ H) p (m env p.S) fun q d => ∀ v, RV g q d v → Q v q.H
def tMT (g : Gs) (W : WX) (m : Env → Store → R Bool) : TT := fun σ H Q => ∃ (p : Pl) (env : Env), p.H = H ∧ Ok g p ∧ RE g p env σ ∧ Post g (fun c d H => W c d σ H) p (m env p.S) fun q k => Q k q.H
def tMA (g : Gs) (W : WX) (m : Env → Store → R (List D)) : TA := fun σ H Q => ∃ (p : Pl) (env : Env), p.H = H ∧ Ok g p ∧ RE g p env σ ∧ Post g (fun c d H => W c d σ H) p (m env p.S) fun q ds => ∀ vs, RVs g q ds vs → Q vs q.H
theorem PE.imp {X : Cx} {e : Expr} {t t' : TE} (h : PE X e t) (hi : ∀ σ H Q, t' σ H Q → t σ H Q) : PE X e t' := ⟨fun pins s σ H Q I hw => h.run pins s σ H Q I (hi σ H Q hw)⟩
theorem PT.imp {X : Cx} {e : Expr} {t t' : TT} (h : PT X e t) (hi : ∀ σ H Q, t' σ H Q → t σ H Q) : PT X e t' := ⟨fun pins s σ H Q I hw => h.run pins s σ H Q I (hi σ H Q hw)⟩
theorem PA.imp {X : Cx} {e : List Expr} {t t' : TA} (h : PA X e t) (hi : ∀ σ H Q, t' σ H Q → t σ H Q) : PA X e t' := ⟨fun pos pins s σ H Q I hw => h.run pos pins s σ H Q I (hi σ H Q hw)⟩
/-- go into a part -/
theorem tM.into {g : Gs} {W : WX} {m : Env → Store → R D} {α : Type} {k : Env → D → Store → R α} {σ : L2.St} {p : Pl} {env : Env} {Kp : Pl → α → Prop} {Q : VK} (o : Ok g p) (re : RE g p env σ) (h : Post g (fun c d H => W c d σ H) p ((m env p.S).bind (k env)) Kp)
    (hq : ∀ (q : Pl) (d : D) (v : V), Nx p q → Ok g q → RE g q env σ → RV g q d v → Post g (fun c d H => W c d σ H) q (k env d q.S) Kp → Q v q.H) : tM g W m σ p.H Q :=
  ⟨p, env, rfl, o, re, h.bind.mono fun q d n oq hp v hv => hq q d v n oq (re.nx n o) hv hp⟩
end Mi
set_option maxRecDepth 100000
set_option maxHeartbeats 1000000
/-! S2: operators. -/
namespace Mi
open PySem PySem.Spec PyProof.Rows L2

/-- the store changes: a new object -/
theorem Ok.add {g : Gs} {p : Pl} {a : Addr} {o : MO} {u : HO} (h : Ok g p) (hn : p.H a = none) (ho : ∀ q : Pl, q.H = upd p.H a u → q.S = p.S ++ [o] → (∀ n, n < p.S.length → q.ρ n = p.ρ n) → q.ρ p.S.length = a → Nx p q → RO g q a o) :
    ∃ q : Pl, q.S = p.S ++ [o] ∧ q.H = upd p.H a u ∧ q.ρ p.S.length = a ∧ Nx p q ∧ Ok g q := by
  let q : Pl := ⟨fun n => if n < p.S.length then p.ρ n else a, p.S ++ [o], upd p.H a u⟩
  have e1 : ∀ n, n < p.S.length → q.ρ n = p.ρ n := fun n hn => if_pos hn
  have e2 : q.ρ p.S.length = a := if_neg (Nat.lt_irrefl _)
  have nx : Nx p q := by
    refine ⟨by show p.S.length ≤ (p.S ++ [o]).length; simp, e1, fun n h1 h2 => ?_, fun n hl => ?_, fun b hb => ?_, fun b ob hb _ => ?_⟩
    · have h3 : n < (p.S ++ [o]).length := h2
      rw [List.length_append, List.length_singleton] at h3
      have : n = p.S.length := by omega
      subst this
      rw [e2]
      exact hn
    · show wrAt (p.S ++ [o]) n = wrAt p.S n
      unfold wrAt
      rw [List.getElem?_append_left hl]
    · have hb : upd p.H a u b = none := hb
      by_cases z : b = a
      · rw [z, upd_same] at hb; cases hb
      · rw [upd_ne z] at hb; exact hb
    · show upd p.H a u b = some ob
      rw [upd_ne (ne_of_none hb hn)]
      exact hb
  have old : ∀ n ob, p.S[n]? = some ob → RO g q (q.ρ n) ob := fun n ob e => by
    have hl := (List.getElem?_eq_some_iff.mp e).1
    have r := h.ob n ob e
    rw [e1 n hl]
    have kp : ∀ b w, p.H b = some w → upd p.H a u b = some w := fun b w hb => by rw [upd_ne (ne_of_none hb hn)]; exact hb
    cases ob with
    | lst l =>
      obtain ⟨xs, h1, h2⟩ := r
      exact ⟨xs, kp _ _ h1, h2.nx nx h⟩
    | fls l =>
      obtain ⟨xs, h1, h2⟩ := r
      exact ⟨xs, h1.imp (fun ⟨o, z⟩ => ⟨o, kp _ _ z⟩) id, h2.nx nx h⟩
    | ins c fs =>
      obtain ⟨dx, gs, h1, h2⟩ := r
      exact ⟨dx, gs, kp _ _ h1, h2.nx nx h⟩
    | dic kvs =>
      obtain ⟨ks, h1, h2, h3⟩ := r
      exact ⟨ks, kp _ _ h1, h2.nx nx h, h3⟩
    | exn c fs =>
      obtain ⟨dd, h2⟩ := r
      exact ⟨dd, h2.nx nx h⟩
  refine ⟨q, rfl, rfl, e2, nx, ⟨fun n ob e => ?_, fun n m hw hm e => ?_⟩⟩
  · have e : (p.S ++ [o])[n]? = some ob := e
    by_cases hl : n < p.S.length
    · rw [List.getElem?_append_left hl] at e
      exact old n ob e
    · rw [List.getElem?_append_right (Nat.le_of_not_lt hl)] at e
      have hz : n - p.S.length = 0 := by
        cases q : n - p.S.length with
        | zero => rfl
        | succ k => rw [q] at e; simp at e
      rw [hz] at e
      have : o = ob := by simpa using e
      subst this
      have en : n = p.S.length := by omega
      rw [en, e2]
      exact ho q rfl rfl e1 e2 nx
  · have key : ∀ k, wrAt q.S k = true → (k < p.S.length ∧ wrAt p.S k = true) ∨ k = p.S.length := fun k hk => by
      have hl := wrAt_lt hk
      have hl2 : k < (p.S ++ [o]).length := hl
      rw [List.length_append, List.length_singleton] at hl2
      by_cases z : k < p.S.length
      · exact .inl ⟨z, by rw [← nx.kd k z]; exact hk⟩
      · exact .inr (by omega)
    have nne : ∀ k, wrAt p.S k = true → p.ρ k ≠ a := fun k hk z => by
      obtain ⟨w, hw, _⟩ := h.at_ hk
      rw [z, hn] at hw
      cases hw
    rcases key n hw with ⟨l1, w1⟩ | z1
    · rcases key m hm with ⟨l2, w2⟩ | z2
      · rw [e1 n l1, e1 m l2] at e
        exact h.inj n m w1 w2 e
      · rw [z2, e2, e1 n l1] at e
        exact absurd e (nne n w1)
    · rcases key m hm with ⟨l2, w2⟩ | z2
      · rw [z1, e2, e1 m l2] at e
        exact absurd e.symm (nne m w2)
      · rw [z1, z2]

/-- the object at n is written anew -/
theorem Ok.put {g : Gs} {p : Pl} {n : Nat} {o o' : MO} {u : HO} (h : Ok g p) (hs : p.S[n]? = some o) (hw : o.wr = true) (hw' : o'.wr = true) (ho : ∀ q : Pl, q.H = upd p.H (p.ρ n) u → q.S = p.S.set n o' → q.ρ = p.ρ → Nx p q → RO g q (p.ρ n) o') (hu : ∀ q : Pl, q.H = upd p.H (p.ρ n) u → q.S = p.S.set n o' → q.ρ = p.ρ → Nx p q) :
    ∃ q : Pl, q.S = p.S.set n o' ∧ q.H = upd p.H (p.ρ n) u ∧ q.ρ = p.ρ ∧ Nx p q ∧ Ok g q := by
  let q : Pl := ⟨p.ρ, p.S.set n o', upd p.H (p.ρ n) u⟩
  have nx : Nx p q := hu q rfl rfl rfl
  have hn : n < p.S.length := (List.getElem?_eq_some_iff.mp hs).1
  have wn : wrAt p.S n = true := (wrAt_of hs).trans hw
  refine ⟨q, rfl, rfl, rfl, nx, ⟨fun m ob e => ?_, fun m k hm hk e => ?_⟩⟩
  · by_cases z : m = n
    · subst z
      have e : (p.S.set m o')[m]? = some ob := e
      rw [List.getElem?_set_self hn] at e
      cases e
      exact ho q rfl rfl rfl nx
    · have e : (p.S.set n o')[m]? = some ob := e
      rw [List.getElem?_set_ne (Ne.symm z)] at e
      have r := h.ob m ob e
      have kp : ∀ b w, p.H b = some w → (wrAt p.S m = true → b = p.ρ m) → ((∃ b' w', w = .frz b' w') ∨ (∃ fs, w = .xd fs) ∨ wrAt p.S m = true) → upd p.H (p.ρ n) u b = some w := fun b w hb hwm hc => by
        have ne : b ≠ p.ρ n := by
          intro eb
          rcases hc with ⟨b', w', ew⟩ | ⟨fs, ew⟩ | ew
          · exact h.apart hb (.inr (.inl ⟨_, _, ew⟩)) n wn eb.symm
          · exact h.apart hb (.inr (.inr (.inr ⟨_, ew⟩))) n wn eb.symm
          · have eb' := hwm ew
            rw [eb'] at eb
            exact z (h.inj m n ew wn eb)
        rw [upd_ne ne]
        exact hb
      cases ob with
      | lst l =>
        obtain ⟨xs, h1, h2⟩ := r
        have w : wrAt p.S m = true := (wrAt_of e).trans rfl
        exact ⟨xs, kp _ _ h1 (fun _ => rfl) (.inr (.inr w)), h2.nx nx h⟩
      | fls l =>
        obtain ⟨xs, h1, h2⟩ := r
        have w : wrAt p.S m = false := (wrAt_of e).trans rfl
        exact ⟨xs, h1.imp (fun ⟨o, q⟩ => ⟨o, kp _ _ q (fun y => absurd (w.symm.trans y) Bool.false_ne_true) (.inl ⟨_, _, rfl⟩)⟩) id, h2.nx nx h⟩
      | ins c fs =>
        obtain ⟨dx, gs, h1, h2⟩ := r
        have w : wrAt p.S m = true := (wrAt_of e).trans rfl
        exact ⟨dx, gs, kp _ _ h1 (fun _ => rfl) (.inr (.inr w)), h2.nx nx h⟩
      | dic kvs =>
        obtain ⟨ks, h1, h2, h3⟩ := r
        have w : wrAt p.S m = true := (wrAt_of e).trans rfl
        exact ⟨ks, kp _ _ h1 (fun _ => rfl) (.inr (.inr w)), h2.nx nx h, h3⟩
      | exn c fs =>
        obtain ⟨dd, h2⟩ := r
        exact ⟨dd, h2.nx nx h⟩
  · have key : ∀ j, wrAt q.S j = true → wrAt p.S j = true := fun j hj => by
      have hl := wrAt_lt hj
      have hl2 : j < (p.S.set n o').length := hl
      rw [List.length_set] at hl2
      rw [← nx.kd j hl2]
      exact hj
    exact h.inj m k (key m hm) (key k hk) e
theorem Nx.put {g : Gs} {p q : Pl} {n : Nat} {o o' : MO} {u : HO} (h : Ok g p) (hs : p.S[n]? = some o) (hw : o.wr = true) (hw' : o'.wr = true) (e1 : q.H = upd p.H (p.ρ n) u) (e2 : q.S = p.S.set n o') (e3 : q.ρ = p.ρ) : Nx p q := by
  have hn : n < p.S.length := (List.getElem?_eq_some_iff.mp hs).1
  have wn : wrAt p.S n = true := (wrAt_of hs).trans hw
  have el : q.S.length = p.S.length := by rw [e2, List.length_set]
  refine ⟨Nat.le_of_eq el.symm, fun m _ => by rw [e3], fun m h1 h2 => by rw [el] at h2; omega, fun m hm => ?_, fun a ha => ?_, fun a ob ha hne => ?_⟩
  · rw [e2]
    unfold wrAt
    by_cases z : m = n
    · subst z
      rw [List.getElem?_set_self hn, hs]
      exact hw'.trans hw.symm
    · rw [List.getElem?_set_ne (Ne.symm z)]
  · rw [e1] at ha
    by_cases z : a = p.ρ n
    · rw [z, upd_same] at ha; cases ha
    · rw [upd_ne z] at ha; exact ha
  · rw [e1, upd_ne (fun z => hne n wn z.symm)]
    exact ha
end Mi
set_option maxRecDepth 100000
set_option maxHeartbeats 1000000
/-! S3: operators of values. -/
namespace Mi
open PySem PySem.Spec PyProof.Rows L2

/-- a new object that is not of the store -/
theorem Ok.grow {g : Gs} {p : Pl} {a : Addr} {u : HO} (h : Ok g p) (hn : p.H a = none) : Nx p ⟨p.ρ, p.S, upd p.H a u⟩ ∧ Ok g ⟨p.ρ, p.S, upd p.H a u⟩ := by
  have kp : ∀ b w, p.H b = some w → upd p.H a u b = some w := fun b w hb => by rw [upd_ne (ne_of_none hb hn)]; exact hb
  have nx : Nx p ⟨p.ρ, p.S, upd p.H a u⟩ := ⟨Nat.le_refl _, fun _ _ => rfl, fun n h1 h2 => absurd (Nat.lt_of_lt_of_le h2 h1) (Nat.lt_irrefl _), fun _ _ => rfl, fun b hb => by
      have hb : upd p.H a u b = none := hb
      by_cases z : b = a
      · rw [z, upd_same] at hb; cases hb
      · rw [upd_ne z] at hb; exact hb, fun b ob hb _ => kp b ob hb⟩
  refine ⟨nx, ⟨fun n ob e => ?_, h.inj⟩⟩
  have r := h.ob n ob e
  cases ob with
  | lst l =>
    obtain ⟨xs, h1, h2⟩ := r
    exact ⟨xs, kp _ _ h1, h2.nx nx h⟩
  | fls l =>
    obtain ⟨xs, h1, h2⟩ := r
    exact ⟨xs, h1.imp (fun ⟨o, z⟩ => ⟨o, kp _ _ z⟩) id, h2.nx nx h⟩
  | ins c fs =>
    obtain ⟨dx, gs, h1, h2⟩ := r
    exact ⟨dx, gs, kp _ _ h1, h2.nx nx h⟩
  | dic kvs =>
    obtain ⟨ks, h1, h2, h3⟩ := r
    exact ⟨ks, kp _ _ h1, h2.nx nx h, h3⟩
  | exn c fs =>
    obtain ⟨dd, h2⟩ := r
    exact ⟨dd, h2.nx nx h⟩

abbrev NoX : Value → Option Addr → Hp → Prop := fun _ _ _ => False
/-- an end in a value -/
def EndV (g : Gs) (Q : VK) : Pl → D → Prop := fun q r => ∀ v, RV g q r v → Q v q.H
section
variable {g : Gs} {p : Pl} {Q : VK}
theorem end_tup {l : List D} {xs : List V} {S : Store} (h : Post g NoX p (.ok (.tup l) S) (EndV g Q)) (e : p.S = S) (o : Ok g p) (r : RVs g p l xs) : NewT p.H Q xs := fun a ob hn ho => by
  obtain ⟨nx, ok⟩ := o.grow (a := a) (u := .frz ob (.tup xs)) hn
  exact h ⟨p.ρ, p.S, upd p.H a (.frz ob (.tup xs))⟩ e nx ok _ ⟨a, xs, rfl, .inl ⟨ob, upd_same, ho⟩, r.nx nx o⟩
theorem end_lst {l : List D} {xs : List V} (h : Post g NoX p (.ok (.loc p.S.length) (p.S ++ [.lst l])) (EndV g Q)) (o : Ok g p) (r : RVs g p l xs) (a : Addr) (hn : p.H a = none) : Q (.ref a) (upd p.H a (.lst xs)) := by
  obtain ⟨q, e1, e2, e3, nx, ok⟩ := o.add (o := .lst l) (u := .lst xs) hn (fun q e1 e2 e3 e4 nx => ⟨xs, by rw [e1]; exact upd_same, r.nx nx o⟩)
  rw [← e2]
  exact h q e1 nx ok _ ⟨by rw [e1]; simp, by rw [e3]⟩
theorem RVs.rep {l : List D} {xs : List V} (r : RVs g p l xs) : ∀ k : Nat, RVs g p (List.replicate k l).flatten (List.replicate k xs).flatten
  | 0 => rfl
  | k + 1 => by
    rw [List.replicate_succ, List.flatten_cons, List.replicate_succ, List.flatten_cons]
    exact r.append (RVs.rep r k)
/-- where a place of the store holds a list -/
theorem Ok.lstAt {n : Nat} {l : List D} (o : Ok g p) (h : p.S[n]? = some (.lst l)) : ∃ xs, p.H (p.ρ n) = some (.lst xs) ∧ RVs g p l xs := o.ob n _ h
theorem Ok.seqAt {n : Nat} {l : List D} (o : Ok g p) (h : p.S[n]? = some (.lst l) ∨ p.S[n]? = some (.fls l)) : ∃ xs, SqL g.K p.H (p.ρ n) xs ∧ RVs g p l xs := by
  rcases h with h | h
  · obtain ⟨xs, h1, h2⟩ := o.ob n _ h
    exact ⟨xs, .inl (.inl h1), h2⟩
  · obtain ⟨xs, h1, h2⟩ := o.ob n _ h
    exact ⟨xs, h1.elim (fun z => .inl (.inr z)) .inr, h2⟩
end
def rBop (g : Gs) (op : Bop) : R2 := fun x y H Q => ∃ p d e, p.H = H ∧ Ok g p ∧ RV g p d x ∧ RV g p e y ∧ Post g NoX p (bop op d e p.S) (EndV g Q)
theorem okS_append {a b : List Nat} (h1 : okS a = true) (h2 : okS b = true) : okS (a ++ b) = true := by
  unfold okS at *
  rw [List.all_append, h1, h2]
  rfl
theorem strS_append (a b : List Nat) : strS a ++ strS b = strS (a ++ b) := by
  show (⟨a.toArray ++ b.toArray⟩ : PySem.Str) = ⟨(a ++ b).toArray⟩
  simp
theorem szl_eq : szl = sizeLine := by rw [sizeLine_eq]; rfl
section
variable {X : Cx} {g : Gs}
theorem op_addM (hK : X.K = g.K) : OpR X (binaryOp .Add) (rBop g .add) := by
  intro pins s σ H x y v u Q I rx ry h
  obtain ⟨p, d, e, rfl, ok, hd, he, hp⟩ := h
  match d, e, hd, he, hp with
  | .int i, .int j, hd, he, hp =>
    have ed : x = .int i := hd
    have ee : y = .int j := he
    subst ed ee
    exact op_add pins s σ p.H _ _ v u Q I rx ry ⟨i, j, rfl, rfl, hp.ok rfl ok _ rfl⟩
  | .str a, .str b, hd, he, hp =>
    obtain ⟨ed, oa⟩ := hd
    obtain ⟨ee, ob⟩ := he
    subst ed ee
    simp only [bop] at hp
    by_cases hz : a.length + b.length ≤ szl
    · rw [if_pos hz] at hp
      refine op_add_str pins s σ p.H _ _ v u Q I rx ry ⟨_, _, rfl, rfl, by rw [strS_len, strS_len, ← szl_eq]; exact hz, ?_⟩
      rw [strS_append]
      exact hp.ok rfl ok _ ⟨rfl, okS_append oa ob⟩
    · rw [if_neg hz] at hp
      exact False.elim hp
  | .tup a, .tup b, hd, he, hp =>
    obtain ⟨a1, xs, ed, s1, r1⟩ := hd
    obtain ⟨b1, ys, ee, s2, r2⟩ := he
    subst ed ee
    simp only [bop] at hp
    by_cases hz : a.length + b.length ≤ szl
    · rw [if_pos hz] at hp
      have hz2 : xs.length + ys.length ≤ sizeLine := by rw [← r1.len, ← r2.len, ← szl_eq]; exact hz
      refine op_catX pins s σ p.H _ _ v u Q I rx ry ⟨a1, b1, xs, ys, rfl, rfl, by rw [hK]; exact s1.sqT, by rw [hK]; exact s2.sqT, hz2, fun e => ?_, fun e1 e2 => ?_, fun e1 e2 => ?_⟩
      · have r3 := r1.append r2
        rw [e, List.nil_append] at r3
        exact hp.ok rfl ok _ ⟨b1, ys, rfl, s2, r3⟩
      · have r3 := r1.append r2
        rw [e2, List.append_nil] at r3
        exact hp.ok rfl ok _ ⟨a1, xs, rfl, s1, r3⟩
      · exact end_tup hp rfl ok (r1.append r2)
    · rw [if_neg hz] at hp
      exact False.elim hp
  | .loc a, .loc b, hd, he, hp =>
    obtain ⟨_, ed⟩ := hd
    obtain ⟨_, ee⟩ := he
    subst ed ee
    simp only [bop] at hp
    cases ea : p.S[a]? with
    | none => rw [ea] at hp; exact False.elim hp
    | some oa =>
      cases eb : p.S[b]? with
      | none => rw [ea, eb] at hp; cases oa <;> exact False.elim hp
      | some ob =>
        rw [ea, eb] at hp
        cases oa with
        | lst xs =>
          cases ob with
          | lst ys =>
            simp only at hp
            by_cases hz : xs.length + ys.length ≤ szl
            · rw [if_pos hz] at hp
              obtain ⟨us, h1, r1⟩ := ok.lstAt ea
              obtain ⟨ws, h2, r2⟩ := ok.lstAt eb
              refine op_cat pins s σ p.H _ _ v u Q I rx ry ⟨_, _, us, ws, rfl, rfl, h1, h2, by rw [← r1.len, ← r2.len, ← szl_eq]; exact hz, fun c hc => ?_⟩
              exact end_lst hp ok (r1.append r2) c hc
            · rw [if_neg hz] at hp
              exact False.elim hp
          | _ => exact False.elim hp
        | _ => exact False.elim hp
  | .non, _, _, _, hp => exact False.elim hp
  | .bl _, _, _, _, hp => exact False.elim hp
  | .glo _, _, _, _, hp => exact False.elim hp
  | .ty _, _, _, _, hp => exact False.elim hp
  | .int _, .non, _, _, hp | .int _, .bl _, _, _, hp | .int _, .str _, _, _, hp | .int _, .tup _, _, _, hp | .int _, .loc _, _, _, hp | .int _, .glo _, _, _, hp | .int _, .ty _, _, _, hp => exact False.elim hp
  | .str _, .non, _, _, hp | .str _, .bl _, _, _, hp | .str _, .int _, _, _, hp | .str _, .tup _, _, _, hp | .str _, .loc _, _, _, hp | .str _, .glo _, _, _, hp | .str _, .ty _, _, _, hp => exact False.elim hp
  | .tup _, .non, _, _, hp | .tup _, .bl _, _, _, hp | .tup _, .int _, _, _, hp | .tup _, .str _, _, _, hp | .tup _, .loc _, _, _, hp | .tup _, .glo _, _, _, hp | .tup _, .ty _, _, _, hp => exact False.elim hp
  | .loc _, .non, _, _, hp | .loc _, .bl _, _, _, hp | .loc _, .int _, _, _, hp | .loc _, .str _, _, _, hp | .loc _, .tup _, _, _, hp | .loc _, .glo _, _, _, hp | .loc _, .ty _, _, _, hp => exact False.elim hp
theorem op_subM : OpR X (binaryOp .Sub) (rBop g .sub) := by
  intro pins s σ H x y v u Q I rx ry h
  obtain ⟨p, d, e, rfl, ok, hd, he, hp⟩ := h
  cases d <;> cases e <;> first | exact False.elim hp | skip
  cases hd
  cases he
  exact op_sub pins s σ p.H _ _ v u Q I rx ry ⟨_, _, rfl, rfl, hp.ok rfl ok _ rfl⟩
theorem op_fdivM : OpR X (binaryOp .FloorDiv) (rBop g .fdiv) := by
  intro pins s σ H x y v u Q I rx ry h
  obtain ⟨p, d, e, rfl, ok, hd, he, hp⟩ := h
  cases d <;> cases e <;> first | exact False.elim hp | skip
  rename_i i j
  cases hd
  cases he
  simp only [bop] at hp
  by_cases hz : 0 < j ∧ j < 1073741824
  · rw [if_pos hz] at hp
    exact op_fdiv pins s σ p.H _ _ v u Q I rx ry ⟨_, _, rfl, rfl, hz, hp.ok rfl ok _ rfl⟩
  · rw [if_neg hz] at hp
    exact False.elim hp
theorem op_modM : OpR X (binaryOp .Mod) (rBop g .mod) := by
  intro pins s σ H x y v u Q I rx ry h
  obtain ⟨p, d, e, rfl, ok, hd, he, hp⟩ := h
  cases d <;> cases e <;> first | exact False.elim hp | skip
  rename_i i j
  cases hd
  cases he
  simp only [bop] at hp
  by_cases hz : 0 < j
  · rw [if_pos hz] at hp
    exact op_mod pins s σ p.H _ _ v u Q I rx ry ⟨_, _, rfl, rfl, hz, hp.ok rfl ok _ rfl⟩
  · rw [if_neg hz] at hp
    exact False.elim hp
theorem op_powM : OpR X (binaryOp .Pow) (rBop g .pow) := by
  intro pins s σ H x y v u Q I rx ry h
  obtain ⟨p, d, e, rfl, ok, hd, he, hp⟩ := h
  cases d <;> cases e <;> first | exact False.elim hp | skip
  rename_i i j
  cases hd
  cases he
  simp only [bop] at hp
  by_cases hz : 0 ≤ j ∧ j ≤ 1000 ∧ i.natAbs < 2 ^ 64
  · rw [if_pos hz] at hp
    exact op_pow pins s σ p.H _ _ v u Q I rx ry ⟨_, _, rfl, rfl, ⟨hz.1, by omega, hz.2.2⟩, hp.ok rfl ok _ rfl⟩
  · rw [if_neg hz] at hp
    exact False.elim hp
theorem op_mulM (hK : X.K = g.K) : OpR X (binaryOp .Mult) (rBop g .mul) := by
  intro pins s σ H x y v u Q I rx ry h
  obtain ⟨p, d, e, rfl, ok, hd, he, hp⟩ := h
  cases d <;> cases e <;> first | exact False.elim hp | skip
  · rename_i i j
    cases hd
    cases he
    simp only [bop] at hp
    by_cases hz : (-(2 ^ 64) < i ∧ i < 2 ^ 64) ∨ (-(2 ^ 64) < j ∧ j < 2 ^ 64)
    · rw [if_pos hz] at hp
      exact op_mul pins s σ p.H _ _ v u Q I rx ry ⟨_, _, rfl, rfl, hz, hp.ok rfl ok _ rfl⟩
    · rw [if_neg hz] at hp
      exact False.elim hp
  · rename_i l k
    obtain ⟨a, xs, ed, s1, r1⟩ := hd
    subst ed
    cases he
    simp only [bop] at hp
    by_cases hz : -1000 ≤ k ∧ k ≤ 1000 ∧ l.length ≤ 1000
    · rw [if_pos hz] at hp
      have hl := r1.len
      refine op_repX pins s σ p.H _ _ v u Q I rx ry ⟨a, k, xs, rfl, rfl, by rw [hK]; exact s1.sqT, hz.1, hz.2.1, by rw [← hl]; exact hz.2.2, fun h1 => ?_, fun _ => end_tup hp rfl ok (r1.rep _)⟩
      have e : (List.replicate k.toNat l).flatten = l := by
        rcases h1 with e | e
        · rw [e] at hl
          rw [List.eq_nil_of_length_eq_zero hl]
          simp
        · rw [e]
          simp
      rw [e] at hp
      exact hp.ok rfl ok _ ⟨a, xs, rfl, s1, r1⟩
    · rw [if_neg hz] at hp
      exact False.elim hp
  · rename_i a k
    obtain ⟨_, ed⟩ := hd
    subst ed
    cases he
    simp only [bop] at hp
    cases ea : p.S[a]? with
    | none => rw [ea] at hp; exact False.elim hp
    | some oa =>
      rw [ea] at hp
      cases oa with
      | lst l =>
        simp only at hp
        by_cases hz : -(2 ^ 63) ≤ k ∧ k < 2 ^ 63 ∧ l.length * k.toNat ≤ szl
        · rw [if_pos hz] at hp
          obtain ⟨xs, h1, r1⟩ := ok.lstAt ea
          refine op_rep pins s σ p.H _ _ v u Q I rx ry ⟨_, k, xs, rfl, rfl, h1, hz.1, hz.2.1, by rw [← r1.len, ← szl_eq]; exact hz.2.2, fun c hc => ?_⟩
          exact end_lst hp ok (r1.rep _) c hc
        · rw [if_neg hz] at hp
          exact False.elim hp
      | _ => exact False.elim hp
end
end Mi
set_option maxRecDepth 100000
set_option maxHeartbeats 1000000
/-! S4: comparisons. -/
namespace Mi
open PySem PySem.Spec PyProof.Rows L2

mutual
def toPy : PD → PyData
  | .non => .none
  | .bl b => .bool b
  | .int i => .int i
  | .str s => .str (strS s)
  | .lst l => .list (toPys l)
  | .tup l => .tuple (toPys l)
def toPys : List PD → List PyData
  | [] => []
  | a :: r => toPy a :: toPys r
end
theorem toPys_map : ∀ l : List PD, toPys l = l.map toPy
  | [] => rfl
  | a :: r => by rw [toPys, toPys_map r, List.map_cons]
theorem strS_beq (a b : List Nat) : (strS a == strS b) = (a == b) := by
  by_cases e : a = b
  · rw [e]; simp
  · have h : strS a ≠ strS b := fun z => e (strS_inj z)
    rw [beq_eq_false_iff_ne.mpr e, beq_eq_false_iff_ne.mpr h]
mutual
theorem toPy_eqv : ∀ a b : PD, PyData.eqv (toPy a) (toPy b) = PD.eqv a b
  | .non, b => by cases b <;> simp [toPy, PyData.eqv, PD.eqv]
  | .bl a, b => by cases b <;> simp [toPy, PyData.eqv, PD.eqv]
  | .int a, b => by cases b <;> simp [toPy, PyData.eqv, PD.eqv]
  | .str a, b => by cases b <;> simp [toPy, PyData.eqv, PD.eqv, strS_beq]
  | .lst a, b => by
    cases b <;> simp only [toPy, PyData.eqv, PD.eqv]
    exact toPys_eqv a _
  | .tup a, b => by
    cases b <;> simp only [toPy, PyData.eqv, PD.eqv]
    exact toPys_eqv a _
theorem toPys_eqv : ∀ a b : List PD, PyData.eqvAll (toPys a) (toPys b) = PD.eqvs a b
  | [], [] => rfl
  | [], _ :: _ => by simp [toPys, PyData.eqvAll, PD.eqvs]
  | _ :: _, [] => by simp [toPys, PyData.eqvAll, PD.eqvs]
  | a :: r, b :: s => by
    simp only [toPys, PyData.eqvAll, PD.eqvs]
    rw [toPy_eqv a b, toPys_eqv r s]
end
theorem strOk_of {s : List Nat} (h : okS s = true) : PyData.strOk (strS s) = true := by
  unfold PyData.strOk strS
  unfold okS at h
  rw [← List.all_toArray] at h
  exact h
/-- what plain data says of the model's -/
structure PdOk (g : Gs) (p : Pl) (n : Nat) (x : PD) (v : V) : Prop where
  dp : Dp g.K p.H v (toPy x)
  lay : (toPy x).canLay0 = true
  dep : (toPy x).depth ≤ n
theorem pd_all {g : Gs} {p : Pl} {f : D → Option PD} {m : Nat} (hf : ∀ d v x, RV g p d v → f d = some x → PdOk g p m x v) : ∀ (l : List D) (vs : List V) (xs : List PD), RVs g p l vs → mapO f l = some xs →
    DpAll g.K p.H vs (toPys xs) ∧ PyData.canLayAll0 (toPys xs) = true ∧ PyData.depthAll (toPys xs) ≤ m
  | [], vs, xs, r, h => by
    have e : vs = [] := r
    subst e
    cases h
    exact ⟨.nil, rfl, Nat.zero_le _⟩
  | d :: l, vs, xs, r, h => by
    obtain ⟨v, w, e, hv, hw⟩ := r
    subst e
    simp only [mapO] at h
    cases h1 : f d with
    | none => rw [h1] at h; cases h
    | some x =>
      rw [h1] at h
      cases h2 : mapO f l with
      | none => rw [h2] at h; cases h
      | some ys =>
        rw [h2] at h
        cases h
        have a := hf d v x hv h1
        obtain ⟨b1, b2, b3⟩ := pd_all hf l w ys hw h2
        refine ⟨.cons a.dp b1, ?_, ?_⟩
        · simp only [toPys, PyData.canLayAll0, a.lay, b2, Bool.and_true]
        · simp only [toPys, PyData.depthAll]
          have := a.dep
          omega
theorem pd_ok {g : Gs} {p : Pl} (ok : Ok g p) : ∀ (n : Nat) (d : D) (v : V) (x : PD), RV g p d v → pd p.S n d = some x → PdOk g p n x v
  | 0, d, v, x, r, h => by simp [pd] at h
  | n + 1, .non, v, x, r, h => by
    cases h
    cases r
    exact ⟨.non, rfl, by simp [toPy, PyData.depth]⟩
  | n + 1, .bl b, v, x, r, h => by
    cases h
    cases r
    exact ⟨.bl b, rfl, by simp [toPy, PyData.depth]⟩
  | n + 1, .int i, v, x, r, h => by
    cases h
    cases r
    exact ⟨.int i, rfl, by simp [toPy, PyData.depth]⟩
  | n + 1, .str s, v, x, r, h => by
    cases h
    obtain ⟨e, hs⟩ := r
    subst e
    exact ⟨.str _, by simpa only [toPy, PyData.canLay0] using strOk_of hs, by simp [toPy, PyData.depth]⟩
  | n + 1, .tup l, v, x, r, h => by
    obtain ⟨a, xs, e, s, t⟩ := r
    subst e
    simp only [pd] at h
    cases h1 : mapO (pd p.S n) l with
    | none => rw [h1] at h; cases h
    | some ys =>
      rw [h1] at h
      cases h
      obtain ⟨b1, b2, b3⟩ := pd_all (fun d v x => pd_ok ok n d v x) l xs ys t h1
      exact ⟨.tup s.sqT b1, by simpa only [toPy, PyData.canLay0] using b2, by simp only [toPy, PyData.depth]; omega⟩
  | n + 1, .loc k, v, x, r, h => by
    obtain ⟨_, e⟩ := r
    subst e
    simp only [pd] at h
    cases hk : p.S[k]? with
    | none => rw [hk] at h; cases h
    | some o =>
      rw [hk] at h
      have key : ∀ l : List D, (p.S[k]? = some (.lst l) ∨ p.S[k]? = some (.fls l)) → (match mapO (pd p.S n) l with | some xs => some (PD.lst xs) | none => none) = some x → PdOk g p (n + 1) x (.ref (p.ρ k)) := fun l hl h => by
        cases h1 : mapO (pd p.S n) l with
        | none => rw [h1] at h; cases h
        | some ys =>
          rw [h1] at h
          cases h
          obtain ⟨xs, s, t⟩ := ok.seqAt hl
          obtain ⟨b1, b2, b3⟩ := pd_all (fun d v x => pd_ok ok n d v x) l xs ys t h1
          exact ⟨.lst s b1, by simpa only [toPy, PyData.canLay0] using b2, by simp only [toPy, PyData.depth]; omega⟩
      cases o with
      | lst l => exact key l (.inl hk) h
      | fls l => exact key l (.inr hk) h
      | _ => cases h
  | n + 1, .glo k, v, x, r, h => by simp [pd] at h
  | n + 1, .ty k, v, x, r, h => by simp [pd] at h
theorem PdOk.shaped {g : Gs} {p : Pl} {n : Nat} {x : PD} {v : V} (h : PdOk g p n x v) (hn : n ≤ 60) : SeqAt.shaped (toPy x) = true := by
  unfold SeqAt.shaped
  rw [h.lay, Bool.true_and]
  exact decide_eq_true (by have := h.dep; omega)
theorem pds_ok {g : Gs} {p : Pl} (ok : Ok g p) {l : List D} {vs : List V} {xs : List PD} (r : RVs g p l vs) (h : pds p.S l = some xs) : DpAll g.K p.H vs (toPys xs) ∧ PyData.canLayAll0 (toPys xs) = true ∧ PyData.depthAll (toPys xs) ≤ deep := pd_all (fun d v x => pd_ok ok deep d v x) l vs xs r h
theorem any_toPy (xs : List PD) (x : PD) : ((toPys xs).any fun z => PyData.eqv z (toPy x)) = xs.any fun z => PD.eqv z x := by
  rw [toPys_map, List.any_map]
  congr 1
  funext z
  exact toPy_eqv z x
theorem shaped_all {xs : List PD} (b2 : PyData.canLayAll0 (toPys xs) = true) (b3 : PyData.depthAll (toPys xs) ≤ deep) : SeqAt.shaped (.list (toPys xs)) = true := by
  unfold SeqAt.shaped
  have h1 : (PyData.list (toPys xs)).canLay0 = true := by simpa only [PyData.canLay0] using b2
  rw [h1, Bool.true_and]
  refine decide_eq_true ?_
  simp only [PyData.depth]
  have : deep = 20 := rfl
  omega

/-- a comparison of values -/
def rCop (g : Gs) (op : Cop) : R2 := fun x y H Q => ∃ p d e, p.H = H ∧ Ok g p ∧ RV g p d x ∧ RV g p e y ∧ ∃ k, cop op d e p.S = some k ∧ Q (.bl k) H
section
variable {X : Cx} {g : Gs}
theorem eqD_ok {p : Pl} {d e : D} {k : Bool} {x y : V} (ok : Ok g p) (hd : RV g p d x) (he : RV g p e y) (h : eqD p.S d e = some k) : ∃ a b, Dp g.K p.H x a ∧ Dp g.K p.H y b ∧ SeqAt.shaped a = true ∧ SeqAt.shaped b = true ∧ PyData.eqv a b = k := by
  unfold eqD at h
  cases h1 : pd p.S deep d with
  | none => rw [h1] at h; cases h
  | some a =>
    rw [h1] at h
    cases h2 : pd p.S deep e with
    | none => rw [h2] at h; cases h
    | some b =>
      rw [h2] at h
      have h : some (PD.eqv a b) = some k := h
      have oa := pd_ok ok deep d x a hd h1
      have ob := pd_ok ok deep e y b he h2
      exact ⟨_, _, oa.dp, ob.dp, oa.shaped (by decide), ob.shaped (by decide), (toPy_eqv a b).trans (Option.some.inj h)⟩
theorem op_eqM (hK : X.K = g.K) (hu : X.A.units + 64 < cLine) : OpR X (compareOp .Eq) (rCop g .eq) := by
  intro pins s σ H x y v u Q I rx ry h
  obtain ⟨p, d, e, rfl, ok, hd, he, k, hk, hq⟩ := h
  obtain ⟨a, b, h1, h2, h3, h4, h5⟩ := eqD_ok ok hd he hk
  refine op_eqD hu pins s σ p.H _ _ v u Q I rx ry ⟨a, b, by rw [hK]; exact h1, by rw [hK]; exact h2, h3, h4, ?_⟩
  rw [h5]
  exact hq
theorem op_neM (hK : X.K = g.K) (hu : X.A.units + 64 < cLine) : OpR X (compareOp .NotEq) (rCop g .ne) := by
  intro pins s σ H x y v u Q I rx ry h
  obtain ⟨p, d, e, rfl, ok, hd, he, k, hk, hq⟩ := h
  have hk : (eqD p.S d e).map (!·) = some k := hk
  cases h0 : eqD p.S d e with
  | none => rw [h0] at hk; cases hk
  | some c =>
    rw [h0] at hk
    obtain ⟨a, b, h1, h2, h3, h4, h5⟩ := eqD_ok ok hd he h0
    refine op_neD hu pins s σ p.H _ _ v u Q I rx ry ⟨a, b, by rw [hK]; exact h1, by rw [hK]; exact h2, h3, h4, ?_⟩
    rw [h5]
    cases hk
    exact hq
theorem strS_list (a : List Nat) : (strS a).cps.toList = a := by simp [strS]
theorem op_ltM : OpR X (compareOp .Lt) (rCop g .lt) := by
  intro pins s σ H x y v u Q I rx ry h
  obtain ⟨p, d, e, rfl, ok, hd, he, k, hk, hq⟩ := h
  cases d <;> cases e <;> first | (simp [cop] at hk; done) | skip
  · cases hd
    cases he
    cases hk
    exact op_lt pins s σ p.H _ _ v u Q I rx ry ⟨_, _, rfl, rfl, hq⟩
  · obtain ⟨ed, _⟩ := hd
    obtain ⟨ee, _⟩ := he
    subst ed ee
    cases hk
    refine op_lt_str pins s σ p.H _ _ v u Q I rx ry ⟨_, _, rfl, rfl, ?_⟩
    rw [strS_list, strS_list]
    exact hq
theorem op_leM : OpR X (compareOp .LtE) (rCop g .le) := by
  intro pins s σ H x y v u Q I rx ry h
  obtain ⟨p, d, e, rfl, ok, hd, he, k, hk, hq⟩ := h
  cases d <;> cases e <;> first | (simp [cop] at hk; done) | skip
  · cases hd
    cases he
    cases hk
    exact op_le pins s σ p.H _ _ v u Q I rx ry ⟨_, _, rfl, rfl, hq⟩
  · obtain ⟨ed, _⟩ := hd
    obtain ⟨ee, _⟩ := he
    subst ed ee
    cases hk
    refine op_le_str pins s σ p.H _ _ v u Q I rx ry ⟨_, _, rfl, rfl, ?_⟩
    rw [strS_list, strS_list]
    exact hq
theorem op_gtM : OpR X (compareOp .Gt) (rCop g .gt) := by
  intro pins s σ H x y v u Q I rx ry h
  obtain ⟨p, d, e, rfl, ok, hd, he, k, hk, hq⟩ := h
  cases d <;> cases e <;> first | (simp [cop] at hk; done) | skip
  · cases hd
    cases he
    cases hk
    exact op_gt pins s σ p.H _ _ v u Q I rx ry ⟨_, _, rfl, rfl, hq⟩
  · obtain ⟨ed, _⟩ := hd
    obtain ⟨ee, _⟩ := he
    subst ed ee
    cases hk
    refine op_gt_str pins s σ p.H _ _ v u Q I rx ry ⟨_, _, rfl, rfl, ?_⟩
    rw [strS_list, strS_list]
    exact hq
theorem op_geM : OpR X (compareOp .GtE) (rCop g .ge) := by
  intro pins s σ H x y v u Q I rx ry h
  obtain ⟨p, d, e, rfl, ok, hd, he, k, hk, hq⟩ := h
  cases d <;> cases e <;> first | (simp [cop] at hk; done) | skip
  · cases hd
    cases he
    cases hk
    exact op_ge pins s σ p.H _ _ v u Q I rx ry ⟨_, _, rfl, rfl, hq⟩
  · obtain ⟨ed, _⟩ := hd
    obtain ⟨ee, _⟩ := he
    subst ed ee
    cases hk
    refine op_ge_str pins s σ p.H _ _ v u Q I rx ry ⟨_, _, rfl, rfl, ?_⟩
    rw [strS_list, strS_list]
    exact hq
theorem non_iff {p : Pl} {d : D} {x : V} (h : RV g p d x) : (x = .non) ↔ (d = .non) := by
  cases d with
  | non => exact ⟨fun _ => rfl, fun _ => h⟩
  | bl b => cases h; simp
  | int b => cases h; simp
  | str b => obtain ⟨e, _⟩ := h; subst e; simp
  | tup b => obtain ⟨a, xs, e, _⟩ := h; subst e; simp
  | loc b => obtain ⟨_, e⟩ := h; subst e; simp
  | glo b => cases h; simp
  | ty b => cases h; simp
theorem op_isM : OpR X (compareOp .Is) (rCop g .is) := by
  intro pins s σ H x y v u Q I rx ry h
  obtain ⟨p, d, e, rfl, ok, hd, he, k, hk, hq⟩ := h
  cases e <;> first | (simp [cop] at hk; done) | skip
  cases he
  cases hk
  refine op_isN pins s σ p.H _ _ v u Q I rx ry ⟨rfl, ?_⟩
  have : decide (x = V.non) = decide (d = D.non) := decide_eq_decide.mpr (non_iff hd)
  rw [this]
  exact hq
theorem op_isNotM : OpR X (compareOp .IsNot) (rCop g .isNot) := by
  intro pins s σ H x y v u Q I rx ry h
  obtain ⟨p, d, e, rfl, ok, hd, he, k, hk, hq⟩ := h
  cases e <;> first | (simp [cop] at hk; done) | skip
  cases he
  cases hk
  refine op_notN pins s σ p.H _ _ v u Q I rx ry ⟨rfl, ?_⟩
  have : decide (x = V.non) = decide (d = D.non) := decide_eq_decide.mpr (non_iff hd)
  rw [this]
  exact hq
theorem hasSub_iff (y : List Nat) : ∀ l : List Nat, hasSub y l = true ↔ ∃ i, i + y.length ≤ l.length ∧ (l.drop i).take y.length = y
  | [] => by
    simp only [hasSub, List.isEmpty_iff]
    constructor
    · intro h
      exact ⟨0, by rw [h]; simp, by rw [h]; simp⟩
    · rintro ⟨i, h, _⟩
      simp at h
      exact h.2
  | c :: r => by
    simp only [hasSub, Bool.or_eq_true, List.isPrefixOf_iff_prefix]
    rw [hasSub_iff y r]
    constructor
    · rintro (h | ⟨i, h1, h2⟩)
      · exact ⟨0, by simpa using h.length_le, by rw [List.drop_zero]; exact (List.prefix_iff_eq_take.mp h).symm⟩
      · exact ⟨i + 1, by simp; omega, by simpa using h2⟩
    · rintro ⟨i, h1, h2⟩
      cases i with
      | zero =>
        left
        rw [List.drop_zero] at h2
        exact List.prefix_iff_eq_take.mpr h2.symm
      | succ i =>
        right
        exact ⟨i, by simp at h1; omega, by simpa using h2⟩
theorem found_sub (a b : List Nat) : (!(Builtin.Str.occurrences (strS b) (strS a) 0 (strS b).length 1).isEmpty) = hasSub a b := by
  rw [Bool.eq_iff_iff, StrLaws.found_iff, hasSub_iff]
  have e : ∀ i, Builtin.Str.subAt (strS b) (strS a) i = true ↔ (b.drop i).take a.length = a := fun i => by
    simp [Builtin.Str.subAt, strS, PySem.Str.length]
  constructor
  · rintro ⟨i, h1, h2⟩
    exact ⟨i, by rw [strS_len, strS_len] at h1; exact h1, (e i).mp h2⟩
  · rintro ⟨i, h1, h2⟩
    exact ⟨i, by rw [strS_len, strS_len]; exact h1, (e i).mpr h2⟩
end
end Mi
set_option maxRecDepth 100000
set_option maxHeartbeats 1000000
/-! S5: in, items, slices. -/
namespace Mi
open PySem PySem.Spec PyProof.Rows L2

theorem keyOf_inj {a b : D} {q : Key} (h : keyOf a = some q) (h' : keyOf b = some q) : a = b := by
  cases a <;> cases b <;> simp only [keyOf, Option.some.injEq] at h h' <;> first | (cases h; done) | (cases h'; done) | skip
  · rw [← h] at h'
    injection h' with e
    rw [e]
  · rw [← h] at h'; cases h'
  · rw [← h] at h'; cases h'
  · rw [← h] at h'
    injection h' with e
    rw [strS_inj e]
theorem keyOf_of {a : D} (h : a.isKey = true) : ∃ q, keyOf a = some q := by
  cases a <;> first | exact ⟨_, rfl⟩ | cases h
theorem key_rv {g : Gs} {p : Pl} {a : D} {q : Key} {v : V} (h : keyOf a = some q) (r : RV g p a v) : v = kV q := by
  cases a <;> simp only [keyOf, Option.some.injEq] at h <;> first | (cases h; done) | skip
  · cases h
    exact r
  · cases h
    exact r.1
/-- a look into a dict -/
theorem RK.get {g : Gs} {p : Pl} {k : D} {q : Key} (hq : keyOf k = some q) : ∀ {kvs : List (D × D)} {ks : List (Key × V)}, RK g p kvs ks → (match dicGet k kvs with | some d => ∃ v, valV ks q = some v ∧ RV g p d v | none => valV ks q = none)
  | [], ks, r => by
    have e : ks = [] := r
    subst e
    rfl
  | (a, d) :: l, ks, r => by
    obtain ⟨z, v, w, e, ha, hv, t⟩ := r
    subst e
    by_cases c : a = k
    · have z1 : z = q := by
        rw [c] at ha
        exact Option.some.inj (ha.symm.trans hq)
      simp only [dicGet, if_pos c]
      exact ⟨v, by unfold valV; simp [z1], hv⟩
    · have z1 : z ≠ q := fun e => c (keyOf_inj (by rw [← e]; exact ha) hq)
      have ih := RK.get hq t
      have e1 : valV ((z, v) :: w) q = valV w q := by
        unfold valV
        simp [z1]
      simp only [dicGet, if_neg c]
      rw [e1]
      exact ih

section
variable {X : Cx} {g : Gs}
theorem isIn_ok {pins : List (Addr × Obj)} {s : Shared} {σ : L2.St} {x y : V} {v u : Value} {Q : VK} (hK : X.K = g.K) (hu : X.A.units + 65 < cLine) {p : Pl} {d e : D} {k : Bool} (ok : Ok g p) (hd : RV g p d x) (he : RV g p e y) (hk : isIn p.S d e = some k) (I : Inv X pins σ p.H s) (rx : RelV x v) (ry : RelV y u) :
    (Q (.bl k) p.H → wpAny (model X.prog X.w) X.A (compareOp .In v u) (EP X pins σ Q) X.xe s) ∧ (Q (.bl (!k)) p.H → wpAny (model X.prog X.w) X.A (compareOp .NotIn v u) (EP X pins σ Q) X.xe s) := by
  have seq : ∀ (l : List D), anyEq p.S d l = some k → (∃ a xs, y = .ref a ∧ (SqL g.K p.H a xs ∨ SqT g.K p.H a xs) ∧ RVs g p l xs) →
      (Q (.bl k) p.H → wpAny (model X.prog X.w) X.A (compareOp .In v u) (EP X pins σ Q) X.xe s) ∧ (Q (.bl (!k)) p.H → wpAny (model X.prog X.w) X.A (compareOp .NotIn v u) (EP X pins σ Q) X.xe s) := by
    intro l hl ⟨a, xs, ey, hs, r⟩
    subst ey
    unfold anyEq at hl
    cases h1 : pds p.S l with
    | none => rw [h1] at hl; cases hl
    | some ps =>
      rw [h1] at hl
      cases h2 : pd p.S deep d with
      | none => rw [h2] at hl; cases hl
      | some x' =>
        rw [h2] at hl
        have hl : some (ps.any fun z => PD.eqv z x') = some k := hl
        obtain ⟨b1, b2, b3⟩ := pds_ok ok r h1
        have od := pd_ok ok deep d x x' hd h2
        have sd := od.shaped (by decide)
        have sl := shaped_all b2 b3
        have ek : ((toPys ps).any fun z => PyData.eqv z (toPy x')) = k := (any_toPy ps x').trans (Option.some.inj hl)
        obtain ⟨as, r1⟩ := Dp.reads I (toPy x') x v (by rw [hK]; exact od.dp) rx
        rcases hs with hs | hs
        · obtain ⟨bs, r2⟩ := Dp.reads I (.list (toPys ps)) (.ref a) u (by rw [hK]; exact .lst hs b1) ry
          refine ⟨fun q => SeqAt.in_list_reads r2 r1 b2 od.lay (room_in_shaped sd hu) ?_, fun q => SeqAt.notIn_list_reads r2 r1 b2 od.lay (room_in_shaped sd hu) ?_⟩
          · rw [ek]; exact ⟨.bl _, p.H, I, rfl, q⟩
          · rw [ek]; exact ⟨.bl _, p.H, I, rfl, q⟩
        · obtain ⟨bs, r2⟩ := Dp.reads I (.tuple (toPys ps)) (.ref a) u (by rw [hK]; exact .tup hs b1) ry
          refine ⟨fun q => SeqAt.in_tuple_reads r2 r1 b2 od.lay (room_in_shaped sd hu) ?_, fun q => SeqAt.notIn_tuple_reads r2 r1 b2 od.lay (room_in_shaped sd hu) ?_⟩
          · rw [ek]; exact ⟨.bl _, p.H, I, rfl, q⟩
          · rw [ek]; exact ⟨.bl _, p.H, I, rfl, q⟩
  cases e with
  | str t =>
    cases d <;> first | (simp [isIn] at hk; done) | skip
    rename_i a
    obtain ⟨ed, _⟩ := hd
    obtain ⟨ee, _⟩ := he
    subst ed ee
    cases hk
    refine ⟨fun q => op_in_str pins s σ p.H _ _ v u Q I rx ry ⟨_, _, rfl, rfl, ?_⟩, fun q => op_notin_str pins s σ p.H _ _ v u Q I rx ry ⟨_, _, rfl, rfl, ?_⟩⟩
    · rw [found_sub]; exact q
    · rw [found_sub]; exact q
  | tup l =>
    obtain ⟨a, xs, ey, s1, r⟩ := he
    exact seq l hk ⟨a, xs, ey, .inr s1.sqT, r⟩
  | loc n =>
    obtain ⟨_, ey⟩ := he
    subst ey
    simp only [isIn] at hk
    cases hn : p.S[n]? with
    | none => rw [hn] at hk; cases hk
    | some o =>
      rw [hn] at hk
      cases o with
      | lst l =>
        obtain ⟨xs, h1, h2⟩ := ok.seqAt (.inl hn)
        exact seq l hk ⟨_, xs, rfl, .inl h1, h2⟩
      | fls l =>
        obtain ⟨xs, h1, h2⟩ := ok.seqAt (.inr hn)
        exact seq l hk ⟨_, xs, rfl, .inl h1, h2⟩
      | dic kvs =>
        simp only at hk
        by_cases hkey : d.isKey = true
        · rw [if_pos hkey] at hk
          obtain ⟨q, hq⟩ := keyOf_of hkey
          obtain ⟨ks, h1, h2, _⟩ := ok.ob n _ hn
          have hg := RK.get hq h2
          have ev := key_rv hq hd
          subst ev
          have ek : (valV ks q).isSome = k := by
            have hk := Option.some.inj hk
            cases hd2 : dicGet d kvs with
            | none => rw [hd2] at hg hk; rw [hg]; exact hk
            | some z =>
              rw [hd2] at hg hk
              obtain ⟨w, hw, _⟩ := hg
              rw [hw]
              exact hk
          cases ry
          refine ⟨fun q => d_in (by omega) I (DGet.k h1) rx fun s3 I3 => ⟨.bl _, _, I3, rfl, ?_⟩, fun q => d_notIn (by omega) I (DGet.k h1) rx fun s3 I3 => ⟨.bl _, _, I3, rfl, ?_⟩⟩
          · rw [ek]; exact q
          · rw [ek]; exact q
        · rw [if_neg hkey] at hk
          cases hk
      | _ => cases hk
  | _ => simp [isIn] at hk
theorem op_inM (hK : X.K = g.K) (hu : X.A.units + 65 < cLine) : OpR X (compareOp .In) (rCop g .inn) := by
  intro pins s σ H x y v u Q I rx ry h
  obtain ⟨p, d, e, rfl, ok, hd, he, k, hk, hq⟩ := h
  exact (isIn_ok hK hu ok hd he hk I rx ry).1 hq
theorem op_notInM (hK : X.K = g.K) (hu : X.A.units + 65 < cLine) : OpR X (compareOp .NotIn) (rCop g .notIn) := by
  intro pins s σ H x y v u Q I rx ry h
  obtain ⟨p, d, e, rfl, ok, hd, he, k, hk, hq⟩ := h
  have hk : (isIn p.S d e).map (!·) = some k := hk
  cases h0 : isIn p.S d e with
  | none => rw [h0] at hk; cases hk
  | some c =>
    rw [h0] at hk
    cases hk
    exact (isIn_ok hK hu ok hd he h0 I rx ry).2 hq

/-! ### items -/
theorem atIx_atI {α : Type} (xs : List α) (i : Int) {a : α} (h : atIx xs i = some a) : atI xs i = some a := by
  unfold atIx at h
  unfold atI ixN
  by_cases h0 : 0 ≤ i
  · rw [if_pos h0] at h
    rw [if_pos h0]
    obtain ⟨hl, _⟩ := List.getElem?_eq_some_iff.mp h
    rw [if_pos (by omega)]
    exact h
  · rw [if_neg h0] at h
    rw [if_neg h0]
    by_cases h1 : 0 ≤ i + xs.length
    · rw [if_pos h1] at h
      rw [if_pos (by omega)]
      exact h
    · rw [if_neg h1] at h
      cases h
theorem atIx_rv {g : Gs} {p : Pl} {l : List D} {xs : List V} {i : Int} {d : D} (r : RVs g p l xs) (h : atIx l i = some d) : ∃ v, atIx xs i = some v ∧ RV g p d v := by
  unfold atIx at *
  rw [← r.len]
  by_cases h0 : 0 ≤ i
  · rw [if_pos h0] at h ⊢
    exact r.get _ _ h
  · rw [if_neg h0] at h ⊢
    by_cases h1 : 0 ≤ i + l.length
    · rw [if_pos h1] at h ⊢
      exact r.get _ _ h
    · rw [if_neg h1] at h
      cases h
def rIdx (g : Gs) : R2 := fun x y H Q => ∃ p d e, p.H = H ∧ Ok g p ∧ RV g p d x ∧ RV g p e y ∧ Post g NoX p (idxD d e p.S) (EndV g Q)
theorem okS_mem {s : List Nat} {c : Nat} (h : okS s = true) (hc : c ∈ s) : okS [c] = true := by
  unfold okS at *
  rw [List.all_eq_true] at h
  simpa using h c hc
theorem atIx_mem {α : Type} {xs : List α} {i : Int} {a : α} (h : atIx xs i = some a) : a ∈ xs := by
  unfold atIx at h
  by_cases h0 : 0 ≤ i
  · rw [if_pos h0] at h
    exact List.mem_of_getElem? h
  · rw [if_neg h0] at h
    by_cases h1 : 0 ≤ i + xs.length
    · rw [if_pos h1] at h
      exact List.mem_of_getElem? h
    · rw [if_neg h1] at h
      cases h
theorem ix_M (hK : X.K = g.K) (hu : X.A.units + 1 < cLine) : IxR X (rIdx g) := by
  intro value slice pins s σ H x y v u Q I rx ry h hs
  obtain ⟨p, d, e, rfl, ok, hd, he, hp⟩ := h
  have seq : ∀ (n : Nat) (l : List D) (k : Int), x = .ref (p.ρ n) → e = .int k → (p.S[n]? = some (.lst l) ∨ p.S[n]? = some (.fls l)) → Post g NoX p (lift (atIx l k) p.S) (EndV g Q) → wpAny (model X.prog X.w) X.A (subscriptTail value slice v u) (EP X pins σ Q) X.xe s := by
    intro n l k ex ee hn hp1
    subst ex ee
    obtain ⟨a, ha, hq⟩ := hp1.lift rfl ok
    obtain ⟨xs, h1, h2⟩ := ok.seqAt hn
    obtain ⟨w, hw, rw'⟩ := atIx_rv h2 ha
    cases he
    exact ix_list value slice pins s σ p.H _ _ v u Q I rx ry ⟨_, xs, k, w, rfl, rfl, by rw [hK]; exact h1, atIx_atI _ _ hw, hq _ rw'⟩ hs
  cases d with
  | tup l =>
    cases e <;> first | exact False.elim hp | skip
    rename_i k
    have hp : Post g NoX p (lift (atIx l k) p.S) (EndV g Q) := hp
    obtain ⟨a, ha, hq⟩ := hp.lift rfl ok
    obtain ⟨b, xs, ex, s1, r⟩ := hd
    subst ex
    obtain ⟨w, hw, rw'⟩ := atIx_rv r ha
    cases he
    exact ix_tup value slice pins s σ p.H _ _ v u Q I rx ry ⟨b, xs, k, w, rfl, rfl, by rw [hK]; exact s1.sqT, atIx_atI _ _ hw, hq _ rw'⟩ hs
  | str t =>
    cases e <;> first | exact False.elim hp | skip
    rename_i k
    simp only [idxD] at hp
    by_cases hz : t.length ≤ szl
    · rw [if_pos hz] at hp
      obtain ⟨a, ha, hq⟩ := hp.lift rfl ok
      obtain ⟨c, hc, ea⟩ := Option.map_eq_some_iff.mp ha
      subst ea
      obtain ⟨ex, ht⟩ := hd
      subst ex
      cases he
      refine ix_str value slice pins s σ p.H _ _ v u Q I rx ry ⟨_, k, c, rfl, rfl, by rw [strS_len, ← szl_eq]; exact hz, by rw [strS_list]; exact atIx_atI _ _ hc, ?_⟩ hs
      exact hq _ ⟨rfl, okS_mem ht (atIx_mem hc)⟩
    · rw [if_neg hz] at hp
      exact False.elim hp
  | loc n =>
    obtain ⟨_, ex⟩ := hd
    subst ex
    simp only [idxD] at hp
    cases hn : p.S[n]? with
    | none => rw [hn] at hp; exact False.elim hp
    | some o =>
      rw [hn] at hp
      cases o with
      | lst l =>
        cases e <;> first | exact False.elim hp | skip
        exact seq n l _ rfl rfl (.inl hn) hp
      | fls l =>
        cases e <;> first | exact False.elim hp | skip
        exact seq n l _ rfl rfl (.inr hn) hp
      | dic kvs =>
        simp only at hp
        by_cases hkey : e.isKey = true
        · rw [if_pos hkey] at hp
          obtain ⟨a, ha, hq⟩ := hp.lift rfl ok
          obtain ⟨q, hq'⟩ := keyOf_of hkey
          obtain ⟨ks, h1, h2, _⟩ := ok.ob n _ hn
          have hg := RK.get hq' h2
          rw [ha] at hg
          obtain ⟨w, hw, rw'⟩ := hg
          have ev := key_rv hq' he
          subst ev
          cases rx
          have g1 : DGet p.H (p.ρ n) (kV q) (some w) := by rw [← hw]; exact DGet.k h1
          exact tail_any (dict_typeIs I g1) PySem.F.slot_dict_getitem.lookup (d_getItem hu I g1 ry fun w' s3 I3 rw2 => ⟨w, _, I3, rw2, hq _ rw'⟩) hs
        · rw [if_neg hkey] at hp
          exact False.elim hp
      | _ => exact False.elim hp
  | _ => exact False.elim hp
end
end Mi
set_option maxRecDepth 100000
set_option maxHeartbeats 1000000
/-! S6: slices, built-ins called with values. -/
namespace Mi
open PySem PySem.Spec PyProof.Rows L2

theorem clip_eq (n d : Nat) (o : Option Int) : clipI n d o = HT.sIx n d o := by
  cases o <;> rfl
theorem RVs.drop {g : Gs} {p : Pl} : ∀ {l : List D} {xs : List V} (k : Nat), RVs g p l xs → RVs g p (l.drop k) (xs.drop k)
  | l, xs, 0, r => by simpa using r
  | [], xs, k + 1, r => by
    have e : xs = [] := r
    subst e
    simpa using r
  | d :: l, xs, k + 1, r => by
    obtain ⟨v, w, e, _, t⟩ := r
    subst e
    simpa using RVs.drop k t
theorem RVs.take {g : Gs} {p : Pl} : ∀ {l : List D} {xs : List V} (k : Nat), RVs g p l xs → RVs g p (l.take k) (xs.take k)
  | l, xs, 0, r => rfl
  | [], xs, k + 1, r => by
    have e : xs = [] := r
    subst e
    simpa using r
  | d :: l, xs, k + 1, r => by
    obtain ⟨v, w, e, h, t⟩ := r
    subst e
    exact ⟨v, w.take k, by simp, h, RVs.take k t⟩
theorem RVs.cut {g : Gs} {p : Pl} {l : List D} {xs : List V} (r : RVs g p l xs) (lo hi : Option Int) : RVs g p (cutL l lo hi) (cutV xs lo hi) := by
  unfold cutL cutV
  rw [clip_eq, clip_eq, r.len]
  exact (r.drop _).take _
theorem cutV_whole {xs : List V} {lo hi : Option Int} (h : HT.sIx xs.length 0 lo = 0 ∧ HT.sIx xs.length xs.length hi = xs.length) : cutV xs lo hi = xs := by
  unfold cutV
  rw [h.1, h.2, List.drop_zero, Nat.sub_zero, List.take_length]
def rSli (g : Gs) : V → Option Int → Option Int → Hp → VK → Prop := fun x lo hi H Q => ∃ p d, p.H = H ∧ Ok g p ∧ RV g p d x ∧ Post g NoX p (sliD d lo hi none p.S) (EndV g Q)
theorem okS_sub {s t : List Nat} (h : okS s = true) (hs : ∀ c ∈ t, c ∈ s) : okS t = true := by
  unfold okS at *
  rw [List.all_eq_true] at *
  exact fun c hc => h c (hs c hc)
section
variable {X : Cx} {g : Gs}
theorem sl_M (hK : X.K = g.K) : SlR X (rSli g) := by
  intro pins s σ H x v vl vu lo hi sl Q I rx hs pl pu h
  obtain ⟨p, d, rfl, ok, hd, hp⟩ := h
  cases d with
  | tup l =>
    obtain ⟨a, xs, ex, s1, r⟩ := hd
    subst ex
    have hp : Post g NoX p (.ok (.tup (cutL l lo hi)) p.S) (EndV g Q) := hp
    refine sl_tupX pins s σ p.H _ v vl vu lo hi sl Q I rx hs pl pu ⟨a, xs, rfl, by rw [hK]; exact s1.sqT, fun hw => ?_, fun _ => end_tup hp rfl ok (r.cut lo hi)⟩
    have r2 := r.cut lo hi
    rw [cutV_whole hw] at r2
    exact hp.ok rfl ok _ ⟨a, xs, rfl, s1, r2⟩
  | str t =>
    obtain ⟨ex, ht⟩ := hd
    subst ex
    simp only [sliD] at hp
    by_cases hz : t.length ≤ szl
    · rw [if_pos hz] at hp
      have hp : Post g NoX p (.ok (.str (cutL t lo hi)) p.S) (EndV g Q) := hp
      refine sl_str pins s σ p.H _ v vl vu lo hi sl Q I rx hs pl pu ⟨_, rfl, by rw [strS_len, ← szl_eq]; exact hz, ?_⟩
      have e : cutS (strS t) lo hi = strS (cutL t lo hi) := by
        unfold cutS cutL
        rw [strS_list, strS_len, clip_eq, clip_eq] <;> rfl
      rw [e]
      refine hp.ok rfl ok _ ⟨rfl, okS_sub ht fun c hc => ?_⟩
      unfold cutL at hc
      exact List.mem_of_mem_drop (List.mem_of_mem_take hc)
    · rw [if_neg hz] at hp
      exact False.elim hp
  | loc n =>
    obtain ⟨_, ex⟩ := hd
    subst ex
    simp only [sliD] at hp
    have key : ∀ l : List D, (p.S[n]? = some (.lst l) ∨ p.S[n]? = some (.fls l)) → Post g NoX p (.ok (.loc p.S.length) (p.S ++ [.lst (cutL l lo hi)])) (EndV g Q) →
        ∃ T id, typeLookup (.type T) "__getitem__" = pure (some (.builtin id)) ∧ s.TypeIs v T ∧ wpAny (model X.prog X.w) X.A (getItem v (.ref sl)) (EP X pins σ Q) X.xe s := fun l hl hp => by
      obtain ⟨xs, h1, h2⟩ := ok.seqAt hl
      exact sl_list pins s σ p.H _ v vl vu lo hi sl Q I rx hs pl pu ⟨_, xs, rfl, by rw [hK]; exact h1, fun c hc => end_lst hp ok (h2.cut lo hi) c hc⟩
    cases hn : p.S[n]? with
    | none => rw [hn] at hp; exact False.elim hp
    | some o =>
      rw [hn] at hp
      cases o with
      | lst l => exact key l (.inl hn) hp
      | fls l => exact key l (.inr hn) hp
      | _ => exact False.elim hp
  | _ => exact False.elim hp
end

/-! ### built-ins -/
def rBi (g : Gs) (P : Prg) (cl : Cl) (b : Bi) : List V → Hp → VK → Prop := fun xs H Q => ∃ p ds, p.H = H ∧ Ok g p ∧ RVs g p ds xs ∧ Post g NoX p (biE P cl b ds p.S) (EndV g Q)
theorem RVs.one {g : Gs} {p : Pl} {d : D} {xs : List V} (r : RVs g p [d] xs) : ∃ v, xs = [v] ∧ RV g p d v := by
  obtain ⟨v, w, e, h, t⟩ := r
  have : w = [] := t
  subst this
  exact ⟨v, e, h⟩
theorem RVs.two {g : Gs} {p : Pl} {d e : D} {xs : List V} (r : RVs g p [d, e] xs) : ∃ v w, xs = [v, w] ∧ RV g p d v ∧ RV g p e w := by
  obtain ⟨v, w, e, h, t⟩ := r
  obtain ⟨z, e2, h2⟩ := t.one
  subst e2
  exact ⟨v, z, e, h, h2⟩
/-- the list (tuple) at a value -/
theorem itemsOf_ok {g : Gs} {p : Pl} (ok : Ok g p) {d : D} {l : List D} {v : V} (h : itemsOf p.S d = some l) (r : RV g p d v) : ∃ a xs, v = .ref a ∧ (SqL g.K p.H a xs ∨ SqT g.K p.H a xs) ∧ RVs g p l xs ∧ ((∃ n, d = .loc n ∧ SqL g.K p.H a xs) ∨ (d = .tup l ∧ SqX g.K p.H a xs)) := by
  cases d with
  | tup m =>
    cases h
    obtain ⟨a, xs, e, s1, t⟩ := r
    exact ⟨a, xs, e, .inr s1.sqT, t, .inr ⟨rfl, s1⟩⟩
  | loc n =>
    obtain ⟨_, e⟩ := r
    simp only [itemsOf] at h
    cases hn : p.S[n]? with
    | none => rw [hn] at h; cases h
    | some o =>
      rw [hn] at h
      cases o with
      | lst m =>
        cases h
        obtain ⟨xs, h1, h2⟩ := ok.seqAt (.inl hn)
        exact ⟨_, xs, e, .inl h1, h2, .inl ⟨n, rfl, h1⟩⟩
      | fls m =>
        cases h
        obtain ⟨xs, h1, h2⟩ := ok.seqAt (.inr hn)
        exact ⟨_, xs, e, .inl h1, h2, .inl ⟨n, rfl, h1⟩⟩
      | _ => cases h
  | _ => cases h
theorem ints_rv {g : Gs} {p : Pl} : ∀ {l : List D} {ns : List Int} {xs : List V}, intsOf l = some ns → RVs g p l xs → xs = ns.map V.int
  | [], ns, xs, h, r => by
    cases h
    exact r
  | d :: l, ns, xs, h, r => by
    obtain ⟨v, w, e, hv, t⟩ := r
    cases d <;> first | (simp [intsOf] at h; done) | skip
    simp only [intsOf] at h
    cases h1 : intsOf l with
    | none => rw [h1] at h; cases h
    | some ms =>
      rw [h1] at h
      cases h
      subst e
      cases hv
      rw [ints_rv h1 t]
      rfl
theorem bls_rv {g : Gs} {p : Pl} : ∀ {l : List D} {ns : List Bool} {xs : List V}, blsOf l = some ns → RVs g p l xs → xs = ns.map V.bl
  | [], ns, xs, h, r => by
    cases h
    exact r
  | d :: l, ns, xs, h, r => by
    obtain ⟨v, w, e, hv, t⟩ := r
    cases d <;> first | (simp [blsOf] at h; done) | skip
    simp only [blsOf] at h
    cases h1 : blsOf l with
    | none => rw [h1] at h; cases h
    | some ms =>
      rw [h1] at h
      cases h
      subst e
      cases hv
      rw [bls_rv h1 t]
      rfl
theorem most_spec : ∀ {l : List Int} {m : Int}, most l = some m → m ∈ l ∧ ∀ x ∈ l, x ≤ m
  | [], m, h => by cases h
  | a :: r, m, h => by
    cases h1 : most r with
    | none =>
      cases r with
      | nil =>
        have e : a = m := Option.some.inj h
        subst e
        simp
      | cons b t =>
        have e : (match most (b :: t) with | some b => some (if b ≤ a then a else b) | none => none) = some m := h
        rw [h1] at e
        cases e
    | some k =>
      obtain ⟨i1, i2⟩ := most_spec h1
      cases r with
      | nil => cases h1
      | cons b t =>
        have e : (match most (b :: t) with | some b => some (if b ≤ a then a else b) | none => none) = some m := h
        rw [h1] at e
        have e : (if k ≤ a then a else k) = m := Option.some.inj e
        by_cases c : k ≤ a
        · rw [if_pos c] at e
          subst e
          exact ⟨List.mem_cons_self, fun x hx => by
            rcases List.mem_cons.mp hx with e | e
            · omega
            · have := i2 x e; omega⟩
        · rw [if_neg c] at e
          subst e
          exact ⟨List.mem_cons_of_mem _ i1, fun x hx => by
            rcases List.mem_cons.mp hx with e | e
            · omega
            · exact i2 x e⟩
theorem least_spec : ∀ {l : List Int} {m : Int}, least l = some m → m ∈ l ∧ ∀ x ∈ l, m ≤ x
  | [], m, h => by cases h
  | a :: r, m, h => by
    cases h1 : least r with
    | none =>
      cases r with
      | nil =>
        have e : a = m := Option.some.inj h
        subst e
        simp
      | cons b t =>
        have e : (match least (b :: t) with | some b => some (if a ≤ b then a else b) | none => none) = some m := h
        rw [h1] at e
        cases e
    | some k =>
      obtain ⟨i1, i2⟩ := least_spec h1
      cases r with
      | nil => cases h1
      | cons b t =>
        have e : (match least (b :: t) with | some b => some (if a ≤ b then a else b) | none => none) = some m := h
        rw [h1] at e
        have e : (if a ≤ k then a else k) = m := Option.some.inj e
        by_cases c : a ≤ k
        · rw [if_pos c] at e
          subst e
          exact ⟨List.mem_cons_self, fun x hx => by
            rcases List.mem_cons.mp hx with e | e
            · omega
            · have := i2 x e; omega⟩
        · rw [if_neg c] at e
          subst e
          exact ⟨List.mem_cons_of_mem _ i1, fun x hx => by
            rcases List.mem_cons.mp hx with e | e
            · omega
            · exact i2 x e⟩
/-- a built-in of one argument, of two -/
def rBi1 (g : Gs) (P : Prg) (cl : Cl) (b : Bi) : V → Hp → VK → Prop := fun x H Q => ∃ p d, p.H = H ∧ Ok g p ∧ RV g p d x ∧ Post g NoX p (bi1 P cl b d p.S) (EndV g Q)
def rBi2 (g : Gs) (b : Bi) : V → V → Hp → VK → Prop := fun x y H Q => ∃ p d e, p.H = H ∧ Ok g p ∧ RV g p d x ∧ RV g p e y ∧ Post g NoX p (bi2 b d e p.S) (EndV g Q)
theorem rBi_one {g : Gs} {P : Prg} {cl : Cl} {b : Bi} (h0 : ∀ S, bi0 b S = .bad) (h2 : ∀ d e S, bi2 b d e S = .bad) {xs : List V} {H : Hp} {Q : VK} (h : rBi g P cl b xs H Q) : ∃ x, xs = [x] ∧ rBi1 g P cl b x H Q := by
  obtain ⟨p, ds, rfl, ok, hd, hp⟩ := h
  match ds, hd, hp with
  | [], hd, hp =>
    have hp : Post g NoX p (bi0 b p.S) (EndV g Q) := hp
    rw [h0] at hp
    exact False.elim hp
  | [d], hd, hp =>
    obtain ⟨x, e, hx⟩ := hd.one
    exact ⟨x, e, p, d, rfl, ok, hx, hp⟩
  | [d, e], hd, hp =>
    have hp : Post g NoX p (bi2 b d e p.S) (EndV g Q) := hp
    rw [h2] at hp
    exact False.elim hp
  | _ :: _ :: _ :: _, hd, hp => exact False.elim hp
theorem rBi_two {g : Gs} {P : Prg} {cl : Cl} {b : Bi} (h0 : ∀ S, bi0 b S = .bad) (h1 : ∀ d S, bi1 P cl b d S = .bad) {xs : List V} {H : Hp} {Q : VK} (h : rBi g P cl b xs H Q) : ∃ x y, xs = [x, y] ∧ rBi2 g b x y H Q := by
  obtain ⟨p, ds, rfl, ok, hd, hp⟩ := h
  match ds, hd, hp with
  | [], hd, hp =>
    have hp : Post g NoX p (bi0 b p.S) (EndV g Q) := hp
    rw [h0] at hp
    exact False.elim hp
  | [d], hd, hp =>
    have hp : Post g NoX p (bi1 P cl b d p.S) (EndV g Q) := hp
    rw [h1] at hp
    exact False.elim hp
  | [d, e], hd, hp =>
    obtain ⟨x, y, ex, hx, hy⟩ := hd.two
    exact ⟨x, y, ex, p, d, e, rfl, ok, hx, hy, hp⟩
  | _ :: _ :: _ :: _, hd, hp => exact False.elim hp
section
variable {X : Cx} {g : Gs} {P : Prg} {cl : Cl}
theorem bi_abs : CallR X (.builtin "abs") (rBi g P cl .abs) := by
  intro pins s σ H xs us Q I r h
  obtain ⟨x, rfl, p, d, rfl, ok, hd, hp⟩ := rBi_one (fun _ => rfl) (fun _ _ _ => rfl) h
  have hp : Post g NoX p (biAbs d p.S) (EndV g Q) := hp
  cases d with
  | int i =>
    cases hd
    exact call_abs pins s σ p.H _ us Q I r ⟨i, rfl, hp.ok rfl ok _ rfl⟩
  | _ => exact False.elim hp
theorem bi_max2 (hc : X.calm = true) : CallR X (.builtin "max") (rBi g P cl .max2) := by
  intro pins s σ H xs us Q I r h
  obtain ⟨x, y, rfl, p, d, e, rfl, ok, hd, he, hp⟩ := rBi_two (fun _ => rfl) (fun _ _ => rfl) h
  have hp : Post g NoX p (biMax2 d e p.S) (EndV g Q) := hp
  cases d <;> cases e <;> first | exact False.elim hp | skip
  cases hd
  cases he
  exact call_max2 hc pins s σ p.H _ us Q I r ⟨_, _, rfl, hp.ok rfl ok _ rfl⟩
theorem bi_min2 (hc : X.calm = true) : CallR X (.builtin "min") (rBi g P cl .min2) := by
  intro pins s σ H xs us Q I r h
  obtain ⟨x, y, rfl, p, d, e, rfl, ok, hd, he, hp⟩ := rBi_two (fun _ => rfl) (fun _ _ => rfl) h
  have hp : Post g NoX p (biMin2 d e p.S) (EndV g Q) := hp
  cases d <;> cases e <;> first | exact False.elim hp | skip
  cases hd
  cases he
  exact call_min2 hc pins s σ p.H _ us Q I r ⟨_, _, rfl, hp.ok rfl ok _ rfl⟩
theorem lstOf_ok {p : Pl} (ok : Ok g p) {d : D} {l : List D} {v : V} (h : lstOf p.S d = some l) (r : RV g p d v) : ∃ a xs, v = .ref a ∧ SqL g.K p.H a xs ∧ RVs g p l xs := by
  cases d with
  | loc n =>
    obtain ⟨_, e⟩ := r
    simp only [lstOf] at h
    cases hn : p.S[n]? with
    | none => rw [hn] at h; cases h
    | some o =>
      rw [hn] at h
      cases o with
      | lst m =>
        cases h
        obtain ⟨xs, h1, h2⟩ := ok.seqAt (.inl hn)
        exact ⟨_, xs, e, h1, h2⟩
      | fls m =>
        cases h
        obtain ⟨xs, h1, h2⟩ := ok.seqAt (.inr hn)
        exact ⟨_, xs, e, h1, h2⟩
      | _ => cases h
  | _ => cases h
theorem ints_of {p : Pl} (hK : X.K = g.K) (ok : Ok g p) {d : D} {ns : List Int} {v : V} (h : (lstOf p.S d).bind intsOf = some ns) (hv : RV g p d v) : ∃ a, v = .ref a ∧ SqL X.K p.H a (ns.map V.int) := by
  obtain ⟨l, h1, h2⟩ := Option.bind_eq_some_iff.mp h
  obtain ⟨a, ys, e, h3, r⟩ := lstOf_ok ok h1 hv
  have e2 := ints_rv h2 r
  subst e2
  exact ⟨a, e, by rw [hK]; exact h3⟩
theorem bls_of {p : Pl} (hK : X.K = g.K) (ok : Ok g p) {d : D} {ns : List Bool} {v : V} (h : (lstOf p.S d).bind blsOf = some ns) (hv : RV g p d v) : ∃ a, v = .ref a ∧ SqL X.K p.H a (ns.map V.bl) := by
  obtain ⟨l, h1, h2⟩ := Option.bind_eq_some_iff.mp h
  obtain ⟨a, ys, e, h3, r⟩ := lstOf_ok ok h1 hv
  have e2 := bls_rv h2 r
  subst e2
  exact ⟨a, e, by rw [hK]; exact h3⟩
theorem bi_sum (hc : X.calm = true) (hK : X.K = g.K) : CallR X (.builtin "sum") (rBi g P cl .sumL) := by
  intro pins s σ H xs us Q I r h
  obtain ⟨x, rfl, p, d, rfl, ok, hd, hp⟩ := rBi_one (fun _ => rfl) (fun _ _ _ => rfl) h
  have hp : Post g NoX p (lift (((lstOf p.S d).bind intsOf).map fun l => D.int l.sum) p.S) (EndV g Q) := hp
  obtain ⟨a, ha, hq⟩ := hp.lift rfl ok
  obtain ⟨ns, hn, ea⟩ := Option.map_eq_some_iff.mp ha
  subst ea
  obtain ⟨b, eb, hb⟩ := ints_of hK ok hn hd
  subst eb
  exact cr_sum hc pins s σ p.H _ us Q I r ⟨b, ns, rfl, hb, hq _ rfl⟩
theorem max_tupR {prog : Program} {w : World} {A : Around} {E : Value → Shared → Prop} {s : Shared} {l : Addr} {its : List Value} {ns : List Int} {Q : Value → Shared → Prop} (hh : A.handled = none) (hl : s.heap.IsTuple l its.toArray) (hi : IntsAre its ns) (hne : 0 < ns.length)
    (h : ∀ h' tk M t', (∀ b o, s.heap.get? b = some o → h'.get? b = some o) → M ∈ ns → (∀ a, a ∈ ns → a ≤ M) → Q (.int M t') { s with heap := h', toks := tk }) : wpAny (model prog w) A (PySem.call (.builtin "max") [.ref l]) Q E s := by
  obtain ⟨xs, e⟩ := hi.allInts.items
  have hn : numsOf (intItems xs).toList = ns := by rw [← e]; exact hi.numsOf
  rw [nums_intItems] at hn
  subst hn
  rw [e] at hl
  have hsz : 0 < xs.size := by simpa using hne
  have hlt : l < s.heap.objs.size := by obtain ⟨_, e, _⟩ := hl; exact Heap.lt_size e
  refine call_max_walk (wpAny_pyIter_tuple hl ?_)
  refine ⟨_, _, _, _, _, _, _, rfl, Walks.tuple (A := A.in1) hh _ l (Nat.ne_of_lt hlt) (intItems xs), ⟨⟨_, Heap.get?_push_size _ rfl, rfl, rfl⟩, hl.push _⟩, fun b hb => ?_, by simpa [intItems] using hsz, CmpOf.ints_gt (numAt xs) (fun _ _ => intItems_at), fun v h' tk hP hk => ?_⟩
  · show b < (s.heap.push _).objs.size
    rw [Heap.size_push]
    rcases List.mem_cons.mp hb with rfl | hb
    · exact Nat.lt_succ_self _
    · rcases List.mem_cons.mp hb with rfl | hb
      · exact Nat.lt_succ_of_lt hlt
      · cases hb
  have hv : (intItems xs)[argBest (fun i j => decide (numAt xs i > numAt xs j)) (xs.size - 1)]? = some v := by simpa [intItems] using hP
  obtain ⟨t, rfl⟩ := intItems_at hv
  obtain ⟨h1, h2⟩ := argBest_gt (numAt xs) (xs.size - 1)
  refine h h' tk _ t (fun b o e => hk b o (fun hm => ?_) (Heap.get?_push_of_some _ e)) ?_ fun a ha => ?_
  · rcases List.mem_cons.mp hm with e1 | hm
    · exact absurd (e1 ▸ Heap.lt_size e) (Nat.lt_irrefl _)
    · cases hm
  · rw [numAt_eq]; exact PySem.getD_mem (by rw [List.length_map, Array.length_toList]; omega)
  · obtain ⟨j, hj, rfl⟩ := mem_getD ha
    rw [List.length_map, Array.length_toList] at hj
    rw [← numAt_eq]; exact h2 j (by omega)
theorem min_tupR {prog : Program} {w : World} {A : Around} {E : Value → Shared → Prop} {s : Shared} {l : Addr} {its : List Value} {ns : List Int} {Q : Value → Shared → Prop} (hh : A.handled = none) (hl : s.heap.IsTuple l its.toArray) (hi : IntsAre its ns) (hne : 0 < ns.length)
    (h : ∀ h' tk M t', (∀ b o, s.heap.get? b = some o → h'.get? b = some o) → M ∈ ns → (∀ a, a ∈ ns → M ≤ a) → Q (.int M t') { s with heap := h', toks := tk }) : wpAny (model prog w) A (PySem.call (.builtin "min") [.ref l]) Q E s := by
  obtain ⟨xs, e⟩ := hi.allInts.items
  have hn : numsOf (intItems xs).toList = ns := by rw [← e]; exact hi.numsOf
  rw [nums_intItems] at hn
  subst hn
  rw [e] at hl
  have hsz : 0 < xs.size := by simpa using hne
  have hlt : l < s.heap.objs.size := by obtain ⟨_, e, _⟩ := hl; exact Heap.lt_size e
  refine call_min_walk (wpAny_pyIter_tuple hl ?_)
  refine ⟨_, _, _, _, _, _, _, rfl, Walks.tuple (A := A.in1) hh _ l (Nat.ne_of_lt hlt) (intItems xs), ⟨⟨_, Heap.get?_push_size _ rfl, rfl, rfl⟩, hl.push _⟩, fun b hb => ?_, by simpa [intItems] using hsz, CmpOf.ints_lt (numAt xs) (fun _ _ => intItems_at), fun v h' tk hP hk => ?_⟩
  · show b < (s.heap.push _).objs.size
    rw [Heap.size_push]
    rcases List.mem_cons.mp hb with rfl | hb
    · exact Nat.lt_succ_self _
    · rcases List.mem_cons.mp hb with rfl | hb
      · exact Nat.lt_succ_of_lt hlt
      · cases hb
  have hv : (intItems xs)[argBest (fun i j => decide (numAt xs i < numAt xs j)) (xs.size - 1)]? = some v := by simpa [intItems] using hP
  obtain ⟨t, rfl⟩ := intItems_at hv
  obtain ⟨h1, h2⟩ := argBest_lt (numAt xs) (xs.size - 1)
  refine h h' tk _ t (fun b o e => hk b o (fun hm => ?_) (Heap.get?_push_of_some _ e)) ?_ fun a ha => ?_
  · rcases List.mem_cons.mp hm with e1 | hm
    · exact absurd (e1 ▸ Heap.lt_size e) (Nat.lt_irrefl _)
    · cases hm
  · rw [numAt_eq]; exact PySem.getD_mem (by rw [List.length_map, Array.length_toList]; omega)
  · obtain ⟨j, hj, rfl⟩ := mem_getD ha
    rw [List.length_map, Array.length_toList] at hj
    rw [← numAt_eq]; exact h2 j (by omega)
theorem intsX_of {p : Pl} (hK : X.K = g.K) (ok : Ok g p) {d : D} {ns : List Int} {v : V} (h : (itemsOf p.S d).bind intsOf = some ns) (hv : RV g p d v) : ∃ a, v = .ref a ∧ (SqL X.K p.H a (ns.map V.int) ∨ SqT X.K p.H a (ns.map V.int)) := by
  obtain ⟨l, h1, h2⟩ := Option.bind_eq_some_iff.mp h
  obtain ⟨a, ys, e, h3, r, _⟩ := itemsOf_ok ok h1 hv
  have e2 := ints_rv h2 r
  subst e2
  exact ⟨a, e, by rw [hK]; exact h3⟩
theorem bi_max (hc : X.calm = true) (hK : X.K = g.K) : CallR X (.builtin "max") (rBi g P cl .maxL) := by
  intro pins s σ H xs us Q I r h
  obtain ⟨x, rfl, p, d, rfl, ok, hd, hp⟩ := rBi_one (fun _ => rfl) (fun _ _ _ => rfl) h
  have hp : Post g NoX p (lift (((itemsOf p.S d).bind intsOf).bind fun l => (most l).map .int) p.S) (EndV g Q) := hp
  obtain ⟨a, ha, hq⟩ := hp.lift rfl ok
  obtain ⟨ns, hn, ea⟩ := Option.bind_eq_some_iff.mp ha
  obtain ⟨m, hm, em⟩ := Option.map_eq_some_iff.mp ea
  subst em
  obtain ⟨b, eb, hb⟩ := intsX_of hK ok hn hd
  subst eb
  obtain ⟨i1, i2⟩ := most_spec hm
  have fin : ∀ k, k ∈ ns → (∀ y, y ∈ ns → y ≤ k) → Q (.int k) p.H := fun k k1 k2 => by
    have e : k = m := by
      have := i2 k k1
      have := k2 m i1
      omega
    subst e
    exact hq _ rfl
  rcases hb with hb | hb
  · exact cr_max hc pins s σ p.H _ us Q I r ⟨b, ns, rfl, hb, List.length_pos_of_mem i1, fin⟩
  · obtain ⟨its, rv, hl, _⟩ := I.tuple hb
    rw [Vals.ref1 r]
    exact max_tupR (I.ok.hd hc) hl rv.ints (List.length_pos_of_mem i1) fun h' tk m t' hk h1 h2 => ⟨.int _, p.H, I.kept hk, ⟨_, rfl⟩, fin m h1 h2⟩
theorem bi_min (hc : X.calm = true) (hK : X.K = g.K) : CallR X (.builtin "min") (rBi g P cl .minL) := by
  intro pins s σ H xs us Q I r h
  obtain ⟨x, rfl, p, d, rfl, ok, hd, hp⟩ := rBi_one (fun _ => rfl) (fun _ _ _ => rfl) h
  have hp : Post g NoX p (lift (((itemsOf p.S d).bind intsOf).bind fun l => (least l).map .int) p.S) (EndV g Q) := hp
  obtain ⟨a, ha, hq⟩ := hp.lift rfl ok
  obtain ⟨ns, hn, ea⟩ := Option.bind_eq_some_iff.mp ha
  obtain ⟨m, hm, em⟩ := Option.map_eq_some_iff.mp ea
  subst em
  obtain ⟨b, eb, hb⟩ := intsX_of hK ok hn hd
  subst eb
  obtain ⟨i1, i2⟩ := least_spec hm
  have fin : ∀ k, k ∈ ns → (∀ y, y ∈ ns → k ≤ y) → Q (.int k) p.H := fun k k1 k2 => by
    have e : k = m := by
      have := i2 k k1
      have := k2 m i1
      omega
    subst e
    exact hq _ rfl
  rcases hb with hb | hb
  · exact cr_min hc pins s σ p.H _ us Q I r ⟨b, ns, rfl, hb, List.length_pos_of_mem i1, fin⟩
  · obtain ⟨its, rv, hl, _⟩ := I.tuple hb
    rw [Vals.ref1 r]
    exact min_tupR (I.ok.hd hc) hl rv.ints (List.length_pos_of_mem i1) fun h' tk m t' hk h1 h2 => ⟨.int _, p.H, I.kept hk, ⟨_, rfl⟩, fin m h1 h2⟩
theorem bi_all (hc : X.calm = true) (hK : X.K = g.K) : CallR X (.builtin "all") (rBi g P cl .allL) := by
  intro pins s σ H xs us Q I r h
  obtain ⟨x, rfl, p, d, rfl, ok, hd, hp⟩ := rBi_one (fun _ => rfl) (fun _ _ _ => rfl) h
  have hp : Post g NoX p (lift (((lstOf p.S d).bind blsOf).map fun l => .bl (l.all id)) p.S) (EndV g Q) := hp
  obtain ⟨a, ha, hq⟩ := hp.lift rfl ok
  obtain ⟨ns, hn, ea⟩ := Option.map_eq_some_iff.mp ha
  subst ea
  obtain ⟨b, eb, hb⟩ := bls_of hK ok hn hd
  subst eb
  exact cr_all hc pins s σ p.H _ us Q I r ⟨b, ns, rfl, hb, hq _ rfl⟩
theorem bi_any (hc : X.calm = true) (hK : X.K = g.K) : CallR X (.builtin "any") (rBi g P cl .anyL) := by
  intro pins s σ H xs us Q I r h
  obtain ⟨x, rfl, p, d, rfl, ok, hd, hp⟩ := rBi_one (fun _ => rfl) (fun _ _ _ => rfl) h
  have hp : Post g NoX p (lift (((lstOf p.S d).bind blsOf).map fun l => .bl (l.any id)) p.S) (EndV g Q) := hp
  obtain ⟨a, ha, hq⟩ := hp.lift rfl ok
  obtain ⟨ns, hn, ea⟩ := Option.map_eq_some_iff.mp ha
  subst ea
  obtain ⟨b, eb, hb⟩ := bls_of hK ok hn hd
  subst eb
  exact cr_any hc pins s σ p.H _ us Q I r ⟨b, ns, rfl, hb, hq _ rfl⟩
theorem bi_divmod : CallR X (.builtin "divmod") (rBi g P cl .divmod) := by
  intro pins s σ H xs us Q I r h
  obtain ⟨x, y, rfl, p, d, e, rfl, ok, hd, he, hp⟩ := rBi_two (fun _ => rfl) (fun _ _ => rfl) h
  have hp : Post g NoX p (biDivmod d e p.S) (EndV g Q) := hp
  cases d with
  | int i =>
    cases e with
    | int j =>
      cases hd
      cases he
      simp only [biDivmod] at hp
      by_cases hz : 0 < j ∧ j < 1073741824
      · rw [if_pos hz] at hp
        exact cr_divmodX pins s σ p.H _ us Q I r ⟨i, j, rfl, hz, end_tup hp rfl ok ⟨_, _, rfl, rfl, _, _, rfl, rfl, rfl⟩⟩
      · rw [if_neg hz] at hp
        exact False.elim hp
    | _ => exact False.elim hp
  | _ => exact False.elim hp
theorem bi_tuple (hK : X.K = g.K) : CallR X (.type "tuple") (rBi g P cl .tuple1) := by
  intro pins s σ H xs us Q I r h
  obtain ⟨x, rfl, p, d, rfl, ok, hd, hp⟩ := rBi_one (fun _ => rfl) (fun _ _ _ => rfl) h
  have hp : Post g NoX p (biTuple d p.S) (EndV g Q) := hp
  unfold biTuple at hp
  cases hi : itemsOf p.S d with
  | none => rw [hi] at hp; exact False.elim hp
  | some l =>
    rw [hi] at hp
    obtain ⟨a, ys, e, _, rv, hs⟩ := itemsOf_ok ok hi hd
    subst e
    rcases hs with ⟨n, _, hs⟩ | ⟨ed, hs⟩
    · exact cr_tupleX pins s σ p.H _ us Q I r ⟨a, ys, rfl, .inl ⟨by rw [hK]; exact hs, end_tup hp rfl ok rv⟩⟩
    · exact cr_tupleX pins s σ p.H _ us Q I r ⟨a, ys, rfl, .inr ⟨by rw [hK]; exact hs.sqT, hp.ok rfl ok _ ⟨a, ys, rfl, hs, rv⟩⟩⟩
/-- list(xs), xs a list or tuple -/
theorem bi_list (hK : X.K = g.K) (hstr : ∀ (pins : List (Addr × Obj)) (s : Shared) (σ : L2.St) (H : Hp) (z : List Nat) (us : List Value) (Q : VK), Inv X pins σ H s → Vals [V.str (strS z)] us → z.length ≤ szl → (∀ c, H c = none → Q (.ref c) (upd H c (.lst (z.map fun k => V.str (strS [k]))))) → wpAny (model X.prog X.w) X.A (call (.type "list") us) (EP X pins σ Q) X.xe s) :
    CallR X (.type "list") (rBi g P cl .list1) := by
  intro pins s σ H xs us Q I r h
  obtain ⟨x, rfl, p, d, rfl, ok, hd, hp⟩ := rBi_one (fun _ => rfl) (fun _ _ _ => rfl) h
  have hp : Post g NoX p (biList d p.S) (EndV g Q) := hp
  have seq : (∀ l, itemsOf p.S d = some l → Post g NoX p (alloc (.lst l) p.S) (EndV g Q) → wpAny (model X.prog X.w) X.A (call (.type "list") us) (EP X pins σ Q) X.xe s) := fun l hi hp => by
    obtain ⟨a, ys, e, hs, rv, _⟩ := itemsOf_ok ok hi hd
    subst e
    exact call_list_of pins s σ p.H _ us Q I r ⟨a, ys, rfl, by rw [hK]; exact hs, fun c hc => end_lst hp ok rv c hc⟩
  have gen : (match itemsOf p.S d with | some l => Post g NoX p (alloc (.lst l) p.S) (EndV g Q) | none => False) → wpAny (model X.prog X.w) X.A (call (.type "list") us) (EP X pins σ Q) X.xe s := fun hq => by
    cases hi : itemsOf p.S d with
    | none => rw [hi] at hq; exact False.elim hq
    | some l => rw [hi] at hq; exact seq l hi hq
  cases d with
  | str z =>
    simp only [biList] at hp
    by_cases hz : z.length ≤ szl
    · rw [if_pos hz] at hp
      obtain ⟨e, hok⟩ := hd
      subst e
      refine hstr pins s σ p.H z us Q I r hz fun c hc => end_lst hp ok ?_ c hc
      have key : ∀ y : List Nat, okS y = true → RVs g p (y.map fun c => D.str [c]) (y.map fun k => V.str (strS [k])) := fun y => by
        induction y with
        | nil => intro _; rfl
        | cons a t ih =>
          intro hy
          exact ⟨_, _, rfl, ⟨rfl, okS_mem hy List.mem_cons_self⟩, ih (okS_sub hy fun c hc => List.mem_cons_of_mem _ hc)⟩
      exact key z hok
    · rw [if_neg hz] at hp
      exact False.elim hp
  | tup l => exact gen hp
  | loc n =>
    refine gen ?_
    have hp : Post g NoX p (match itemsOf p.S (.loc n) with | some l => alloc (.lst l) p.S | none => .bad) (EndV g Q) := hp
    cases hi : itemsOf p.S (.loc n) with
    | none => rw [hi] at hp; exact hp
    | some l => rw [hi] at hp; exact hp
  | _ => exact False.elim hp
theorem bi_list0 : CallR X (.type "list") (rBi g P cl .list0) → True := fun _ => True.intro
end
end Mi
set_option maxRecDepth 100000
set_option maxHeartbeats 1000000
/-! S7: calls of the program's own defs. -/
namespace Mi
open PySem PySem.Spec PyProof.Rows L2

/-- a def keeps the promise sp -/
structure FnM (P0 : Program) (w : World) (K : PySem.W.Frag) (mg : PySem.Str → Option Value) (base : Heap) (k : Nat) (f : Addr) (fd : FuncData) (ps : List PySem.Str) (sp : Sp) : Prop where
  len : ∀ vs H Q E, sp vs H Q E → vs.length = ps.length
  run : ∀ (A : Around) (outer : List PySem.Env) (s : Shared) (H : Hp) (args : Args) (us : List Value) (vs : List V) (Q : VK) (E : XK), Room k A → A.guards = some [] → Env0 P0 w K mg base A outer s H → BindsTo s fd args (ps.zip us) → Vals vs us → sp vs H Q E →
    codeAny (model P0 w) A (.call (.ref f) args) (CR (L2N.CX P0 w) outer P0 w H s Q E) s
/-- what a def of the program promises by the interpreter r -/
def spM (g : Gs) (r : List D → Store → R D) : Sp := fun vs H Q E => ∃ (p : Pl) (ds : List D), p.H = H ∧ Ok g p ∧ RVs g p ds vs ∧ Post g E p (r ds p.S) (EndV g Q)
/-- around a call from X -/
structure SubA (X : Cx) (k : Nat) (A : Around) : Prop where
  room : Room k A
  fr : A.frames = X.A.frames
  gd : A.guards = some []
theorem SubA.in1 {X : Cx} {k : Nat} {A : Around} (h : SubA X (k + 1) A) : SubA X k A.in1 := ⟨h.room.in1, h.fr, h.gd⟩
theorem SubA.mono {X : Cx} {j k : Nat} {A : Around} (h : SubA X k A) (l : j ≤ k) : SubA X j A := ⟨h.room.mono l, h.fr, h.gd⟩
section
variable {X : Cx} {g : Gs} {k : Nat} {f : Addr} {fd : FuncData} {ps : List PySem.Str} {sp : Sp} {pins : List (Addr × Obj)} {σ : L2.St} {H : Hp} {s : Shared} {Q : VK} {us : List Value} {vs : List V} {A : Around} {E : XK} {E' : Value → Shared → Prop}
theorem call_at (F : FnM X.prog X.w X.K X.mg X.base k f fd ps sp) (hA : SubA X k A) (hb : Binds X.K fd ps []) (I : Inv X pins σ H s) (r : Vals vs us) (h : sp vs H Q E) (hx : ∀ e s', L2N.CX X.prog X.w X.stack H s E e s' → E' e s') :
    wpAny (model X.prog X.w) A (call (.ref f) us) (EP X pins σ Q) E' s := by
  have hl : (us ++ []).length = ps.length := by rw [List.append_nil, ← r.length]; exact F.len _ _ _ _ h
  have e0 : Env0 X.prog X.w X.K X.mg X.base A X.stack s H := by
    have e := I.env0
    exact ⟨by rw [hA.fr]; exact e.frames, e.mod, e.bs, e.bsz, e.funs, e.frf, e.hok, e.bare⟩
  refine wpAny_call (codeAny_mono (F.run A X.stack s H ⟨us, []⟩ us vs Q E hA.room hA.gd e0 (by have := hb s us I.kIn hl; rwa [List.append_nil] at this) r h) fun r s' hq => ?_)
  cases r with
  | error e => exact hx e s' hq
  | ok fl =>
    cases fl with
    | ret u => exact I.after hq
    | next => exact False.elim hq
    | brk => exact False.elim hq
    | cont => exact False.elim hq
/-- no exception leaves -/
theorem call_calm (F : FnM X.prog X.w X.K X.mg X.base k f fd ps sp) (hA : SubA X k A) (hb : Binds X.K fd ps []) (I : Inv X pins σ H s) (r : Vals vs us) (h : sp vs H Q NoX) : wpAny (model X.prog X.w) A (call (.ref f) us) (EP X pins σ Q) E' s :=
  call_at F hA hb I r h fun e s' c => by
    obtain ⟨_, _, _, _, _, _, _, _, _, _, _, _, w⟩ := c
    exact w.elim
theorem run_M {W : WX} (F : FnM X.prog X.w X.K X.mg X.base k f fd ps sp) (hr : Room k X.A) (hg : X.A.guards = some []) (hb : Binds X.K fd ps []) (tk : L2N.Takes X W) (I : Inv X pins σ H s) (r : Vals vs us) (h : sp vs H Q fun c d H => W c d σ H) :
    wpAny (model X.prog X.w) X.A (call (.ref f) us) (EP X pins σ Q) X.xe s := call_at F ⟨hr, rfl, hg⟩ hb I r h fun e s' c => L2N.passAt tk σ pins H s e s' I c
end
/-- what holds behind, as a wish about the value -/
def Bhd (g : Gs) (Kp : Pl → D → Prop) : VK := fun v H => ∃ q a, q.H = H ∧ Ok g q ∧ RV g q a v ∧ Kp q a
theorem Post.bhd {g : Gs} {W : Value → Option Addr → Hp → Prop} {p : Pl} {r : R D} {Kp : Pl → D → Prop} (h : Post g W p r Kp) : Post g W p r (EndV g (Bhd g Kp)) := h.mono fun q a _ ok hk v hv => ⟨q, a, rfl, ok, hv, hk⟩
theorem RK.len {g : Gs} {p : Pl} : ∀ {kvs : List (D × D)} {ks : List (Key × V)}, RK g p kvs ks → kvs.length = ks.length
  | [], ks, r => by
    have e : ks = [] := r
    rw [e]; rfl
  | (a, d) :: l, ks, r => by
    obtain ⟨q, v, w, e, _, _, t⟩ := r
    rw [e, List.length_cons, List.length_cons, RK.len t]
/-- an instance's class is known -/
structure InsTy (K : PySem.W.Frag) (C : Addr) : Prop where
  cl : Cls K C
  f1 : PySem.W.findIn K (.ref C) (PySem.Str.ofString "__class__") = some (some (.builtin "object.__class__"))
  f2 : PySem.W.specialIn K (.builtin "object.__class__") (PySem.Str.ofString "__get__") = some (some (.builtin "getset_descriptor.__get__"))
  f3 : PySem.W.takesIn K (.builtin "object.__class__") = some true
  f4 : PySem.W.mroIn K C (.type "object") = some true
def tyVal (g : Gs) : (String ⊕ Nat) → Value
  | .inl n => .type n
  | .inr k => .ref (g.ad k)
def Ty.v (g : Gs) : Ty → V
  | .int => .ty "int"
  | .bool => .ty "bool"
  | .str => .ty "str"
  | .tuple => .ty "tuple"
  | .list => .ty "list"
  | .dict => .ty "dict"
  | .own c => .ref (g.ad c)
def Ty.val (g : Gs) : Ty → Value
  | .int => .type "int"
  | .bool => .type "bool"
  | .str => .type "str"
  | .tuple => .type "tuple"
  | .list => .type "list"
  | .dict => .type "dict"
  | .own c => .ref (g.ad c)
/-- what the written part says of the program -/
structure Sta (g : Gs) (P : Prg) : Prop where
  meth : ∀ c m n, P.meth c m = some n → Cls g.K (g.ad c) ∧ Meth g.K (g.ad c) (PySem.Str.ofString m) (g.ad n)
  fld : ∀ c f, P.fld c f = true → Cls g.K (g.ad c) ∧ NoAttr g.K (g.ad c) (PySem.Str.ofString f)
  prop : ∀ c f n, P.prop c f = some n → Cls g.K (g.ad c) ∧ ∃ p, PropOf g.K (g.ad c) (PySem.Str.ofString f) p (g.ad n)
  init : ∀ c n, P.init c = some n → Mk g.K (g.ad c) (g.ad n)
  ask : ∀ a t b, P.ask a t = some b → PySem.W.kitOne g.K (tyVal g a) (t.val g) = some b ∧ ∀ k, a = .inr k → InsTy g.K (g.ad k)
/-- the defs at level k -/
def permV {α : Type} (z : α) (perm : List Nat) (us : List α) : List α := if perm.isEmpty then us else perm.map fun i => us.getD i z
/-- the room that a def of level k asks -/
def rm (k : Nat) : Nat := 4 * k + 2
def FnsAt (P0 : Program) (w : World) (K : PySem.W.Frag) (mg : PySem.Str → Option Value) (base : Heap) (g : Gs) (P : Prg) (k : Nat) : Prop := ∀ n f, P.fn n = some f → ∃ fd ps, FnM P0 w K mg base (rm k) (g.ad n) fd ps (spM g (callN P k n)) ∧ Binds K fd ps [] ∧
  (∀ (m : Nat) (ks : List String) (perm : List Nat), P.kws n m ks = some perm → ∀ (s : Shared) (us ws : List Value), K.In s.heap → us.length = m → ws.length = ks.length → BindsTo s fd { pos := us, kw := (ks.map PySem.Str.ofString).zip ws } (ps.zip (permV .none perm (us ++ ws)))) ∧ PySem.W.keepIn K (.ref (g.ad n)) = true
def Fns (X : Cx) (g : Gs) (P : Prg) (k : Nat) : Prop := FnsAt X.prog X.w X.K X.mg X.base g P k
theorem callN_fn {P : Prg} {k n : Nat} {ds : List D} {S : Store} (h : callN P k n ds S ≠ .bad) : ∃ f, P.fn n = some f := by
  cases k with
  | zero => exact absurd rfl h
  | succ k =>
    cases e : P.fn n with
    | none =>
      exfalso
      apply h
      show (match P.fn n with | some f => runFn P (callN P k) f ds S | none => .bad) = .bad
      rw [e]
    | some f => exact ⟨f, rfl⟩
theorem Post.ne {α : Type} {g : Gs} {W : Value → Option Addr → Hp → Prop} {p : Pl} {r : R α} {Kp : Pl → α → Prop} (h : Post g W p r Kp) : r ≠ .bad := fun e => by
  rw [e] at h
  exact h
theorem Post.calm {α : Type} {g : Gs} {W : Value → Option Addr → Hp → Prop} {p : Pl} {r : R α} {Kp : Pl → α → Prop} (h : Post g W p r.calm Kp) : Post g NoX p r Kp := by
  cases r with
  | ok a S => exact h
  | exc x S => exact False.elim h
  | bad => exact h
section
variable {X : Cx} {g : Gs} {P : Prg} {k : Nat} {pins : List (Addr × Obj)} {σ : L2.St} {s : Shared} {p : Pl} {Q : VK} {us : List Value} {vs : List V} {A : Around} {E' : Value → Shared → Prop}
/-- a def called, no exception leaves -/
theorem own_calm (Fs : Fns X g P k) (hA : SubA X (rm k) A) (ok : Ok g p) (I : Inv X pins σ p.H s) {n : Nat} {ds : List D} (rv : RVs g p ds vs) (r : Vals vs us) (h : Post g NoX p (callN P k n ds p.S) (EndV g Q)) : wpAny (model X.prog X.w) A (call (.ref (g.ad n)) us) (EP X pins σ Q) E' s := by
  obtain ⟨f, hf⟩ := callN_fn h.ne
  obtain ⟨fd, ps, F, hb, _, _⟩ := Fs n f hf
  exact call_calm F hA hb I r ⟨p, ds, rfl, ok, rv, h⟩
theorem own_run {W : WX} (Fs : Fns X g P k) (hr : Room (rm k) X.A) (hg : X.A.guards = some []) (tk : L2N.Takes X W) (ok : Ok g p) (I : Inv X pins σ p.H s) {n : Nat} {ds : List D} (rv : RVs g p ds vs) (r : Vals vs us) (h : Post g (fun c d H => W c d σ H) p (callN P k n ds p.S) (EndV g Q)) :
    wpAny (model X.prog X.w) X.A (call (.ref (g.ad n)) us) (EP X pins σ Q) X.xe s := by
  obtain ⟨f, hf⟩ := callN_fn h.ne
  obtain ⟨fd, ps, F, hb, _, _⟩ := Fs n f hf
  exact run_M F hr hg hb tk I r ⟨p, ds, rfl, ok, rv, h⟩
/-- a call with keywords -/
theorem call_atK {k : Nat} {H : Hp} {f : Addr} {fd : FuncData} {ps : List PySem.Str} {sp : Sp} {E : XK} {kw : List (PySem.Str × Value)} {us' : List Value} (F : FnM X.prog X.w X.K X.mg X.base k f fd ps sp) (hA : SubA X k A) (hb : BindsTo s fd ⟨us, kw⟩ (ps.zip us')) (I : Inv X pins σ H s) (r : Vals vs us') (h : sp vs H Q E) (hx : ∀ e s', L2N.CX X.prog X.w X.stack H s E e s' → E' e s') :
    wpAny (model X.prog X.w) A (call (.ref f) us kw) (EP X pins σ Q) E' s := by
  have e0 : Env0 X.prog X.w X.K X.mg X.base A X.stack s H := by
    have e := I.env0
    exact ⟨by rw [hA.fr]; exact e.frames, e.mod, e.bs, e.bsz, e.funs, e.frf, e.hok, e.bare⟩
  refine wpAny_call (codeAny_mono (F.run A X.stack s H ⟨us, kw⟩ us' vs Q E hA.room hA.gd e0 hb r h) fun r s' hq => ?_)
  cases r with
  | error e => exact hx e s' hq
  | ok fl =>
    cases fl with
    | ret u => exact I.after hq
    | next => exact False.elim hq
    | brk => exact False.elim hq
    | cont => exact False.elim hq
theorem vals_getD {vs : List V} {us : List Value} (r : Vals vs us) (i : Nat) : RelV (vs.getD i .non) (us.getD i .none) := by
  cases h : vs[i]? with
  | none =>
    have hl : vs.length ≤ i := List.getElem?_eq_none_iff.mp h
    have h2 : us[i]? = none := List.getElem?_eq_none_iff.mpr (by rw [← r.length]; exact hl)
    rw [List.getD_eq_getElem?_getD, List.getD_eq_getElem?_getD, h, h2]
    rfl
  | some v =>
    obtain ⟨u, h2, h3⟩ := r.get h
    rw [List.getD_eq_getElem?_getD, List.getD_eq_getElem?_getD, h, h2]
    exact h3
theorem vals_perm {vs : List V} {us : List Value} (r : Vals vs us) (perm : List Nat) : Vals (permV .non perm vs) (permV .none perm us) := by
  unfold permV
  split
  · exact r
  · rename_i hne
    clear hne
    induction perm with
    | nil => exact .nil
    | cons i perm ih => exact .cons (vals_getD r i) ih
theorem RVs.getD {g : Gs} {p : Pl} {l : List D} {xs : List V} (r : RVs g p l xs) (i : Nat) : RV g p (l.getD i .non) (xs.getD i .non) := by
  cases h : l[i]? with
  | none =>
    have hl : l.length ≤ i := List.getElem?_eq_none_iff.mp h
    have h2 : xs[i]? = none := List.getElem?_eq_none_iff.mpr (by rw [← r.len]; exact hl)
    rw [List.getD_eq_getElem?_getD, List.getD_eq_getElem?_getD, h, h2]
    rfl
  | some v =>
    obtain ⟨u, h2, h3⟩ := r.get i v h
    rw [List.getD_eq_getElem?_getD, List.getD_eq_getElem?_getD, h, h2]
    exact h3
theorem RVs.perm {g : Gs} {p : Pl} {l : List D} {xs : List V} (r : RVs g p l xs) (perm : List Nat) : RVs g p (permD perm l) (permV .non perm xs) := by
  unfold permD permV
  split
  · exact r
  · rename_i hne
    clear hne
    induction perm with
    | nil => rfl
    | cons i perm ih => exact ⟨_, _, rfl, r.getD i, ih⟩
/-- an own def called: by places alone, or with names, too -/
theorem own_runK {W : WX} (Fs : Fns X g P k) (hA : SubA X (rm k) A) (tk : L2N.Takes X W) (hE : E' = X.xe) (ok : Ok g p) (I : Inv X pins σ p.H s) {n : Nat} {perm : List Nat} {ks : List String} {ws : List Value} {ds : List D} (rv : RVs g p ds vs) (r : Vals vs (us ++ ws)) (hw : ws.length = ks.length)
    (hp : if ks = [] then perm = [] else P.kws n us.length ks = some perm) (h : Post g (fun c d H => W c d σ H) p (callN P k n (permD perm ds) p.S) (EndV g Q)) :
    wpAny (model X.prog X.w) A (call (.ref (g.ad n)) us ((ks.map PySem.Str.ofString).zip ws)) (EP X pins σ Q) E' s := by
  subst hE
  obtain ⟨f, hf⟩ := callN_fn h.ne
  obtain ⟨fd, ps, F, hb, hk, _⟩ := Fs n f hf
  by_cases hks : ks = []
  · subst hks
    rw [if_pos rfl] at hp
    subst hp
    have e : ws = [] := List.eq_nil_of_length_eq_zero hw
    subst e
    rw [List.append_nil] at r
    exact call_at F hA hb I r ⟨p, ds, rfl, ok, rv, h⟩ fun e s' c => L2N.passAt tk σ pins p.H s e s' I c
  · rw [if_neg hks] at hp
    exact call_atK F hA (hk _ ks perm hp s us ws I.kIn rfl hw) I (vals_perm r perm) ⟨p, permD perm ds, rfl, ok, rv.perm perm, h⟩ fun e s' c => L2N.passAt tk σ pins p.H s e s' I c
/-- the instance at a place of the store -/
theorem Ok.insAt {n c : Nat} {fs : List (String × D)} (ok : Ok g p) (h : p.S[n]? = some (.ins c fs)) : ∃ dx gs, p.H (p.ρ n) = some (.ins (g.ad c) dx gs) ∧ RF g p fs gs := ok.ob n _ h
theorem inst_at (I : Inv X pins σ p.H s) {a C dx : Addr} {gs : List (PySem.Str × V)} (h : p.H a = some (.ins C dx gs)) : ∃ od, PySem.W.InstAt s.heap a (PySem.W.instObj C dx) C (some od) := by
  obtain ⟨mA, O, _⟩ := ins_get I.hok h
  obtain ⟨od, J, _⟩ := O.look
  exact ⟨od, J⟩
/-- len -/
theorem bi_len (hK : X.K = g.K) (Z : Sta g P) (Fs : Fns X g P k) (hA : SubA X (rm k + 1) X.A) : CallR X (.builtin "len") (rBi g P (callN P k) .len) := by
  intro pins s σ H xs us Q I r h
  obtain ⟨x, rfl, p, d, rfl, ok, hd, hp⟩ := rBi_one (fun _ => rfl) (fun _ _ _ => rfl) h
  have hp : Post g NoX p (biLen P (callN P k) d p.S) (EndV g Q) := hp
  have seq : ∀ (a : Addr) (l : List D) (ys : List V), x = .ref a → (SqL X.K p.H a ys ∨ SqT X.K p.H a ys) → RVs g p l ys → Post g NoX p (.ok (.int l.length) p.S) (EndV g Q) → wpAny (model X.prog X.w) X.A (call (.builtin "len") us) (EP X pins σ Q) X.xe s := fun a l ys ex hs rv hp => by
    subst ex
    refine call_len_seq pins s σ p.H _ us Q I r ⟨a, ys, rfl, hs, ?_⟩
    rw [← rv.len]
    exact hp.ok rfl ok _ rfl
  cases d with
  | tup l =>
    obtain ⟨a, ys, e, s1, rv⟩ := hd
    exact seq a l ys e (.inr (by rw [hK]; exact s1.sqT)) rv hp
  | str z =>
    obtain ⟨e, _⟩ := hd
    subst e
    simp only [biLen] at hp
    by_cases hz : z.length ≤ szl
    · rw [if_pos hz] at hp
      refine call_len_str pins s σ p.H _ us Q I r ⟨_, rfl, by rw [strS_len, ← szl_eq]; exact hz, ?_⟩
      rw [strS_len]
      exact hp.ok rfl ok _ rfl
    · rw [if_neg hz] at hp
      exact False.elim hp
  | loc n =>
    obtain ⟨_, e⟩ := hd
    simp only [biLen] at hp
    cases hn : p.S[n]? with
    | none => rw [hn] at hp; exact False.elim hp
    | some o =>
      rw [hn] at hp
      cases o with
      | lst l =>
        obtain ⟨ys, h1, rv⟩ := ok.seqAt (.inl hn)
        exact seq _ l ys e (.inl (by rw [hK]; exact h1)) rv hp
      | fls l =>
        obtain ⟨ys, h1, rv⟩ := ok.seqAt (.inr hn)
        exact seq _ l ys e (.inl (by rw [hK]; exact h1)) rv hp
      | dic kvs =>
        subst e
        obtain ⟨ks, h1, h2, _⟩ := ok.ob n _ hn
        have e3 := h2.len
        refine call_lenD pins s σ p.H _ us Q I r ⟨_, ks, rfl, h1, ?_⟩
        have hp : Post g NoX p (.ok (.int kvs.length) p.S) (EndV g Q) := hp
        rw [← e3]
        exact hp.ok rfl ok _ rfl
      | ins c fs =>
        subst e
        simp only at hp
        cases hm : P.meth c "__len__" with
        | none => rw [hm] at hp; exact False.elim hp
        | some m =>
          rw [hm] at hp
          obtain ⟨dx, gs, h1, h2⟩ := ok.insAt hn
          obtain ⟨od, J⟩ := inst_at I h1
          obtain ⟨c1, c2⟩ := Z.meth c _ m hm
          obtain ⟨u, rfl, rx⟩ := vals1 r
          cases rx
          obtain ⟨mm, hF⟩ := I.fr
          refine PySem.W.len_K hF I.ok.mod.kin J (by rw [hK]; exact c2.at_) (by rw [hK]; exact c2.fn) ?_
          refine thn (own_calm (us := [.ref (p.ρ n)]) (vs := [.ref (p.ρ n)]) Fs hA.in1 ok I (ds := [.loc n]) ⟨_, _, rfl, ⟨(List.getElem?_eq_some_iff.mp hn).1, rfl⟩, rfl⟩ r (hp.bind.calm.bhd)) fun v s' hv => ?_
          obtain ⟨z, H', I', rz, q, a, eq, okq, ra, hk⟩ := hv
          cases a <;> first | exact False.elim hk | skip
          rename_i i
          simp only at hk
          by_cases hz : 0 ≤ i ∧ i < 2 ^ 31
          · rw [if_pos hz] at hk
            cases ra
            obtain ⟨t, rfl⟩ := rz
            refine ⟨⟨hz.1, by omega⟩, .int i, H', I'.tok _, ⟨_, rfl⟩, ?_⟩
            rw [← eq]
            exact hk.ok rfl okq _ rfl
          · rw [if_neg hz] at hk
            exact False.elim hk
      | exn c fs => exact False.elim hp
  | _ => exact False.elim hp
end
end Mi
set_option maxRecDepth 100000
set_option maxHeartbeats 1000000
/-! R1: the texts that repr gives. -/
namespace Mi
open PySem PySem.Spec PyProof.Rows L2
theorem ofString_eq (s : String) : PySem.Str.ofString s = strS (s.toList.map Char.toNat) := PySem.Str.ofString_eq_toList s
theorem nat_text (n : Nat) : PySem.Str.ofString (toString n) = strS (digitsN n) := by
  rw [ofString_eq]
  show strS ((Nat.repr n).toList.map Char.toNat) = _
  unfold Nat.repr digitsN
  rw [String.toList_ofList]
theorem int_text (i : Int) : PySem.Str.ofString (toString i) = strS (digits i) := by
  cases i with
  | ofNat n => exact nat_text n
  | negSucc n =>
    rw [ofString_eq]
    show strS (("-" ++ (Nat.repr (n + 1))).toList.map Char.toNat) = strS (45 :: digitsN (n + 1))
    rw [String.toList_append, List.map_append]
    unfold Nat.repr digitsN
    have e : (String.ofList (Nat.toDigits 10 (n + 1))).toList = Nat.toDigits 10 (n + 1) := String.toList_ofList
    rw [e]
    rfl
theorem reprC_eq : ∀ c < 128, Builtin.Str.reprChar 39 c = reprC 39 c ∧ Builtin.Str.reprChar 34 c = reprC 34 c := by decide +kernel
theorem quote_eq (s : List Nat) : reprQuote (strS s) = quoteOf s := by
  unfold reprQuote quoteOf strS
  simp
theorem quote_or (s : List Nat) : quoteOf s = 34 ∨ quoteOf s = 39 := by
  unfold quoteOf
  split
  · exact .inl rfl
  · exact .inr rfl
theorem reprC_of {q c : Nat} (hq : q = 34 ∨ q = 39) (hc : c < 128) : Builtin.Str.reprChar q c = reprC q c := by
  rcases hq with rfl | rfl
  · exact (reprC_eq c hc).2
  · exact (reprC_eq c hc).1
theorem str_text {s t : List Nat} (h : reprS s = some t) : reprText (strS s) = strS t := by
  unfold reprS at h
  split at h
  · rename_i hs
    cases h
    unfold reprText
    rw [quote_eq]
    have key : ∀ (l : List Nat) (acc : Array Nat), l.all (· < 128) = true → l.foldl (fun out c => out ++ (Builtin.Str.reprChar (quoteOf s) c).toArray) acc = acc ++ (l.flatMap (reprC (quoteOf s))).toArray := fun l => by
      induction l with
      | nil => intro acc _; simp
      | cons c l ih =>
        intro acc hl
        simp only [List.all_cons, Bool.and_eq_true, decide_eq_true_eq] at hl
        rw [List.foldl_cons, ih _ hl.2, reprC_of (quote_or s) hl.1, List.flatMap_cons]
        simp
    have e : (strS s).cps = s.toArray := rfl
    rw [e, List.foldl_toArray, key s _ hs]
    unfold strS
    simp
  · cases h
theorem comma_eq : PySem.Str.ofString ", " = strS [44, 32] := by rw [ofString_eq]; rfl
theorem empty_eq : PySem.Str.ofString "" = strS [] := by rw [ofString_eq]; rfl
theorem joinS_cons (sep t : List Nat) : ∀ r : List (List Nat), r ≠ [] → joinS sep (t :: r) = t ++ sep ++ joinS sep r
  | [], h => absurd rfl h
  | _ :: _, _ => rfl
theorem textFrom_eq : ∀ (ts : List (List Nat)) (k : Nat) (acc : List Nat), textFrom k (strS acc) (ts.map strS) = strS (acc ++ (if ts = [] then [] else (if k > 0 then [44, 32] else []) ++ joinS [44, 32] ts))
  | [], _, acc => by
    show strS acc = _
    simp
  | t :: r, k, acc => by
    have e : PySem.Str.ofString (if k > 0 then ", " else "") = strS (if k > 0 then [44, 32] else []) := by
      split
      · exact comma_eq
      · exact empty_eq
    show textFrom (k + 1) (strS acc ++ PySem.Str.ofString (if k > 0 then ", " else "") ++ strS t) (r.map strS) = _
    rw [e, strS_append, strS_append, textFrom_eq r (k + 1)]
    congr 1
    cases r with
    | nil => simp [joinS]
    | cons u r => simp [joinS_cons [44, 32] t (u :: r) (by simp)]
theorem list_text (ts : List (List Nat)) : listText (ts.map strS) = strS ([91] ++ joinS [44, 32] ts ++ [93]) := by
  have e1 : PySem.Str.ofString "[" = strS [91] := by rw [ofString_eq]; rfl
  have e2 : PySem.Str.ofString "]" = strS [93] := by rw [ofString_eq]; rfl
  unfold listText
  rw [e1, e2, textFrom_eq, strS_append]
  congr 1
  cases ts <;> simp [joinS]
theorem join_text (sep : List Nat) : ∀ ts : List (List Nat), PySem.Str.join (strS sep) (ts.map strS) = strS (joinS sep ts)
  | [] => rfl
  | [t] => rfl
  | t :: u :: r => by
    show strS t ++ strS sep ++ PySem.Str.join (strS sep) ((u :: r).map strS) = _
    rw [join_text sep (u :: r), strS_append, strS_append]
    rfl
theorem tuple_text (ts : List (List Nat)) : tupleText (ts.map strS) = strS ([40] ++ joinS [44, 32] ts ++ (if ts.length = 1 then [44, 41] else [41])) := by
  have e1 : PySem.Str.ofString "(" = strS [40] := by rw [ofString_eq]; rfl
  have e2 : PySem.Str.ofString (if ((ts.map strS).length == 1) = true then ",)" else ")") = strS (if ts.length = 1 then [44, 41] else [41]) := by
    rw [List.length_map]
    by_cases h : ts.length = 1
    · simp only [h, beq_self_eq_true, if_true]
      rw [ofString_eq]; rfl
    · have : (ts.length == 1) = false := by simpa using h
      simp only [this, h, if_false]
      rw [ofString_eq]; rfl
  unfold tupleText
  rw [e1, e2, comma_eq, join_text, strS_append, strS_append]
mutual
theorem shown_eq : ∀ (x : PD) (t : List Nat), PD.repr x = some t → PyData.shown (toPy x) = strS t ∧ PyData.showable (toPy x) = true ∧ PyData.hasDict (toPy x) = false
  | .non, t, h => by
    cases h
    refine ⟨?_, rfl, rfl⟩
    show PySem.Str.ofString "None" = _
    rw [ofString_eq]; rfl
  | .bl true, t, h => by
    cases h
    refine ⟨?_, rfl, rfl⟩
    show PySem.Str.ofString "True" = _
    rw [ofString_eq]; rfl
  | .bl false, t, h => by
    cases h
    refine ⟨?_, rfl, rfl⟩
    show PySem.Str.ofString "False" = _
    rw [ofString_eq]; rfl
  | .int i, t, h => by
    simp only [PD.repr] at h
    split at h
    · rename_i hi
      cases h
      refine ⟨int_text i, ?_, rfl⟩
      show decide (i.natAbs.log2 < 1920) = true
      refine decide_eq_true ?_
      by_cases h0 : i.natAbs = 0
      · rw [h0]; decide
      · have := (Nat.log2_lt h0).mpr hi
        omega
    · cases h
  | .str s, t, h => ⟨str_text h, rfl, rfl⟩
  | .lst l, t, h => by
    simp only [PD.repr] at h
    cases h1 : PD.reprs l with
    | none => rw [h1] at h; cases h
    | some ts =>
      rw [h1] at h
      cases h
      obtain ⟨a1, a2, a3⟩ := showns_eq l ts h1
      refine ⟨?_, a2, a3⟩
      show listText (PyData.shownAll (toPys l)) = _
      rw [a1, list_text]
  | .tup l, t, h => by
    simp only [PD.repr] at h
    cases h1 : PD.reprs l with
    | none => rw [h1] at h; cases h
    | some ts =>
      rw [h1] at h
      cases h
      obtain ⟨a1, a2, a3⟩ := showns_eq l ts h1
      refine ⟨?_, a2, a3⟩
      show tupleText (PyData.shownAll (toPys l)) = _
      rw [a1, tuple_text]
theorem showns_eq : ∀ (x : List PD) (ts : List (List Nat)), PD.reprs x = some ts → PyData.shownAll (toPys x) = ts.map strS ∧ PyData.showableAll (toPys x) = true ∧ PyData.hasDictAll (toPys x) = false
  | [], ts, h => by
    cases h
    exact ⟨rfl, rfl, rfl⟩
  | a :: r, ts, h => by
    simp only [PD.reprs] at h
    cases h1 : PD.repr a with
    | none => rw [h1] at h; cases h
    | some t =>
      rw [h1] at h
      cases h2 : PD.reprs r with
      | none => rw [h2] at h; cases h
      | some us =>
        rw [h2] at h
        cases h
        obtain ⟨a1, a2, a3⟩ := shown_eq a t h1
        obtain ⟨b1, b2, b3⟩ := showns_eq r us h2
        refine ⟨?_, ?_, ?_⟩
        · show PyData.shown (toPy a) :: PyData.shownAll (toPys r) = _
          rw [a1, b1]
          rfl
        · show (PyData.showable (toPy a) && PyData.showableAll (toPys r)) = true
          rw [a2, b2]
          rfl
        · show (PyData.hasDict (toPy a) || PyData.hasDictAll (toPys r)) = false
          rw [a3, b3]
          rfl
end
theorem okS_cons {a : Nat} {l : List Nat} : okS (a :: l) = (decide (a < 1114112) && okS l) := rfl
theorem okS_chars (l : List Char) : okS (l.map Char.toNat) = true := by
  unfold okS
  rw [List.all_eq_true]
  intro c hc
  obtain ⟨d, _, rfl⟩ := List.mem_map.mp hc
  have := d.valid
  refine decide_eq_true ?_
  rcases this with h | ⟨_, h⟩
  · have : d.toNat < 0xd800 := h
    omega
  · exact h
theorem digits_ok (i : Int) : okS (digits i) = true := by
  cases i with
  | ofNat n => exact okS_chars _
  | negSucc n =>
    show okS (45 :: digitsN (n + 1)) = true
    rw [okS_cons]
    unfold digitsN
    rw [okS_chars]
    rfl
theorem reprC_ok : ∀ c < 128, okS (reprC 39 c) = true ∧ okS (reprC 34 c) = true := by decide +kernel
theorem reprS_ok {s t : List Nat} (h : reprS s = some t) : okS t = true := by
  unfold reprS at h
  split at h
  · rename_i hs
    cases h
    rw [okS_cons, okS_append _ (by rcases quote_or s with e | e <;> rw [e] <;> rfl)]
    · rcases quote_or s with e | e <;> rw [e] <;> rfl
    · unfold okS
      rw [List.all_eq_true]
      intro x hx
      obtain ⟨c, hc, hx⟩ := List.mem_flatMap.mp hx
      rw [List.all_eq_true] at hs
      have hc2 : c < 128 := by simpa using hs c hc
      have ok := reprC_ok c hc2
      unfold okS at ok
      rcases quote_or s with e | e
      · rw [e] at hx
        exact List.all_eq_true.mp ok.2 x hx
      · rw [e] at hx
        exact List.all_eq_true.mp ok.1 x hx
  · cases h
theorem joinS_ok {sep : List Nat} (hs : okS sep = true) : ∀ {ts : List (List Nat)}, (∀ t ∈ ts, okS t = true) → okS (joinS sep ts) = true
  | [], _ => rfl
  | [t], h => h t List.mem_cons_self
  | t :: u :: r, h => by
    show okS (t ++ sep ++ joinS sep (u :: r)) = true
    exact okS_append (okS_append (h t List.mem_cons_self) hs) (joinS_ok hs fun x hx => h x (List.mem_cons_of_mem _ hx))
mutual
theorem repr_ok : ∀ (x : PD) (t : List Nat), PD.repr x = some t → okS t = true
  | .non, t, h => by cases h; rfl
  | .bl true, t, h => by cases h; rfl
  | .bl false, t, h => by cases h; rfl
  | .int i, t, h => by
    simp only [PD.repr] at h
    split at h
    · cases h; exact digits_ok i
    · cases h
  | .str s, t, h => reprS_ok h
  | .lst l, t, h => by
    simp only [PD.repr] at h
    cases h1 : PD.reprs l with
    | none => rw [h1] at h; cases h
    | some ts =>
      rw [h1] at h
      cases h
      exact okS_append (okS_append rfl (joinS_ok rfl (reprs_ok l ts h1))) rfl
  | .tup l, t, h => by
    simp only [PD.repr] at h
    cases h1 : PD.reprs l with
    | none => rw [h1] at h; cases h
    | some ts =>
      rw [h1] at h
      cases h
      refine okS_append (okS_append rfl (joinS_ok rfl (reprs_ok l ts h1))) ?_
      split <;> rfl
theorem reprs_ok : ∀ (x : List PD) (ts : List (List Nat)), PD.reprs x = some ts → ∀ t ∈ ts, okS t = true
  | [], ts, h => by cases h; intro t ht; cases ht
  | a :: r, ts, h => by
    simp only [PD.reprs] at h
    cases h1 : PD.repr a with
    | none => rw [h1] at h; cases h
    | some t =>
      rw [h1] at h
      cases h2 : PD.reprs r with
      | none => rw [h2] at h; cases h
      | some us =>
        rw [h2] at h
        cases h
        intro t' ht
        rcases List.mem_cons.mp ht with rfl | ht
        · exact repr_ok a _ h1
        · exact reprs_ok r us h2 t' ht
end
end Mi
set_option maxRecDepth 100000
set_option maxHeartbeats 1000000
/-! I1: enumerate over a list or a tuple. -/
namespace Mi
open PySem PySem.Spec PyProof.Rows L2

/-- an iterator of a list (false), of a tuple (true) -/
def LIt (k : Bool) (h : Heap) (it l : Addr) (i : Nat) : Prop := if k then h.IsTupleIter it l i else h.IsListIter it l i
def LSq (k : Bool) (h : Heap) (l : Addr) (items : Array Value) : Prop := if k then h.IsTuple l items else h.IsList l items
theorem LIt.ext {k : Bool} {h h' : Heap} {it l c : Addr} {i : Nat} (r : LIt k h it l i) (hn : it ≠ c) (hk : ∀ b o, b ≠ c → h.get? b = some o → h'.get? b = some o) : LIt k h' it l i := by
  cases k <;> obtain ⟨o, h1, h2⟩ := r <;> exact ⟨o, hk _ _ hn h1, h2⟩
theorem LIt.all {k : Bool} {h h' : Heap} {it l : Addr} {i : Nat} (r : LIt k h it l i) (hk : ∀ o, h.get? it = some o → h'.get? it = some o) : LIt k h' it l i := by
  cases k <;> obtain ⟨o, h1, h2⟩ := r <;> exact ⟨o, hk _ h1, h2⟩
theorem LSq.all {k : Bool} {h h' : Heap} {l : Addr} {xs : Array Value} (r : LSq k h l xs) (hk : ∀ o, h.get? l = some o → h'.get? l = some o) : LSq k h' l xs := by
  cases k <;> obtain ⟨o, h1, h2⟩ := r <;> exact ⟨o, hk _ h1, h2⟩
theorem LIt.obj {k : Bool} {h : Heap} {it l : Addr} {i : Nat} (r : LIt k h it l i) : ∃ o, h.get? it = some o ∧ ∀ v, o.data ≠ Data.cell v := by
  cases k <;> obtain ⟨o, h1, _, h2⟩ := r <;> exact ⟨o, h1, fun v e => by rw [h2] at e; cases e⟩
theorem LIt.ne {k j : Bool} {h : Heap} {it l : Addr} {i : Nat} {xs : Array Value} (r : LIt k h it l i) (q : LSq j h l xs) : it ≠ l := fun e => by
  subst e
  cases k <;> cases j <;> obtain ⟨o, h1, c1, _⟩ := r <;> obtain ⟨o', h1', c2, _⟩ := q <;> rw [h1] at h1' <;> cases h1' <;> rw [c1] at c2 <;> simp at c2
section
variable {prog : Program} {w : World} {A : Around} {E : Value → Shared → Prop} {s : Shared}
theorem nextOf_item {k : Bool} {it l : Addr} {i : Nat} {items : Array Value} {x : Value} {Q : Value → Shared → Prop} (h1 : LIt k s.heap it l i) (h2 : LSq k s.heap l items) (h3 : items[i]? = some x)
    (hq : ∀ h', LIt k h' it l (i + 1) → Heap.SameBut it s.heap h' → Q x { heap := h', gens := s.gens, drawn := s.drawn, toks := s.toks, os := s.os }) :
    wpAny (model prog w) A (Builtin.SmallTypes.nextOf (.ref it)) Q E s := by
  cases k
  · exact wpAny_nextOf_list_item h1 h2 h3 hq
  · exact RZ.nextOf_tuple_item h1 h2 h3 hq
theorem nextOf_end {k : Bool} {it l : Addr} {i : Nat} {items : Array Value} {Q : Value → Shared → Prop} (hA : A.handled = none) (h1 : LIt k s.heap it l i) (h2 : LSq k s.heap l items) (h3 : items[i]? = none)
    (hq : ∀ (h' : Heap) (e : Addr), Heap.ExtBut it s.heap h' → (∃ o, h'.get? e = some o ∧ o.cls = .type "StopIteration") → E (.ref e) { heap := h', gens := s.gens, drawn := s.drawn, toks := s.toks, os := s.os }) :
    wpAny (model prog w) A (Builtin.SmallTypes.nextOf (.ref it)) Q E s := by
  cases k
  · exact wpAny_nextOf_list_end hA h1 h2 h3 hq
  · exact RZ.nextOf_tuple_end hA h1 h2 h3 hq
theorem pyIter_at {k : Bool} {l : Addr} {items : Array Value} {Q : Value → Shared → Prop} (h : LSq k s.heap l items)
    (hq : ∀ h', LIt k h' s.heap.objs.size l 0 → h'.objs.size = s.heap.objs.size + 1 → (∀ b o, s.heap.get? b = some o → h'.get? b = some o) → Q (.ref s.heap.objs.size) { heap := h', gens := s.gens, drawn := s.drawn, toks := s.toks, os := s.os }) :
    wpAny (model prog w) A (pyIter (.ref l)) Q E s := by
  cases k
  · exact wpAny_pyIter_list h (hq _ ⟨_, Heap.get?_push_size _ rfl, rfl, rfl⟩ (Heap.size_push ..) fun b o hb => Heap.get?_push_of_some _ hb)
  · exact wpAny_pyIter_tuple h (hq _ ⟨_, Heap.get?_push_size _ rfl, rfl, rfl⟩ (Heap.size_push ..) fun b o hb => Heap.get?_push_of_some _ hb)

theorem enum_item {k : Bool} {e it l : Addr} {i : Nat} {items : Array Value} {x old : Value} {Q : Value → Shared → Prop} (h0 : IsEnum s.heap e it i old) (h1 : LIt k s.heap it l i) (h2 : LSq k s.heap l items) (h3 : items[i]? = some x) (hne : e ≠ it)
    (hq : ∀ h', IsEnumOut h' e it ((i : Int) + 1) x s.heap.objs.size → LIt k h' it l (i + 1) → h'.get? s.heap.objs.size = some { cls := .type "tuple", data := .seq #[.int i s.toks, x] } → h'.objs.size = s.heap.objs.size + 1 →
      (∀ b o, b ≠ e → b ≠ it → s.heap.get? b = some o → h'.get? b = some o) → Q (.ref s.heap.objs.size) { heap := h', gens := s.gens, drawn := s.drawn, toks := s.toks + 1, os := s.os }) :
    wpAny (model prog w) A (Builtin.«enumerate.__next__» { pos := [.ref e] }) (fun fin s' => ∃ v, fin = .done (.ret v) ∧ Q v s') E s := by
  unfold Builtin.«enumerate.__next__»
  refine wpAny_bind (wpAny_of_eq (a := (.ref e, [])) rfl ?_)
  refine wpAny_bind (wpAny_field h0 rfl rfl ?_)
  refine wpAny_bind (nextOf_item h1 h2 h3 fun ha i1 sb1 => ?_)
  have e0 : ha.get? e = some { cls := .type "enumerate", data := .fields #[.none, .bool false, .ref it, rawInt i, .none, old] } := (sb1.2 e hne).trans h0
  refine wpAny_bind (wpAny_field (s := ⟨ha, _, _, _, _⟩) e0 rfl rfl ?_)
  refine wpAny_bind (wpAny_field (s := ⟨ha, _, _, _, _⟩) e0 rfl rfl ?_)
  refine wpAny_bind (wpAny_mkInt ?_)
  refine wpAny_bind (wpAny_setField_rec (s := ⟨ha, _, _, _, _⟩) e0 (by simp) fun hb e1 sb2 => ?_)
  refine wpAny_bind (wpAny_setField_rec (s := ⟨hb, _, _, _, _⟩) e1 (by simp) fun hc e2 sb3 => ?_)
  refine wpAny_bind (wpAny_newTuple ?_ (by show 2 ≤ _; rw [sizeLine_eq]; decide))
  have szc : hc.objs.size = s.heap.objs.size := sb3.1.trans (sb2.1.trans sb1.1)
  have e3 : (hc.push { cls := .type "tuple", data := .seq #[.int i s.toks, x] }).get? e = some { cls := .type "enumerate", data := .fields #[.none, .bool false, .ref it, rawInt (i + 1), .none, old] } := Heap.get?_push_of_some _ e2
  refine wpAny_bind (wpAny_bind (wpAny_field (s := ⟨_, _, _, _, _⟩) e3 rfl rfl (wpAny_pure ?_)))
  refine wpAny_bind (wpAny_rule ?_)
  refine wpAny_bind (wpAny_field (s := ⟨_, _, _, _, _⟩) e3 rfl rfl ?_)
  refine wpAny_bind (wpAny_setField_rec (s := ⟨_, _, _, _, _⟩) e3 (by simp) fun hd e4 sb4 => ?_)
  refine wpAny_bind (wpAny_bind (wpAny_setField_rec (s := ⟨hd, _, _, _, _⟩) e4 (by simp) fun he e5 sb5 => ?_))
  refine wpAny_setField_rec (s := ⟨he, _, _, _, _⟩) e5 (by simp) fun hf e6 sb6 => ?_
  refine wpAny_bind (wpAny_letGo ?_)
  refine wpAny_pure ⟨_, rfl, ?_⟩
  have szp : (hc.push { cls := .type "tuple", data := .seq #[.int i s.toks, x] }).objs.size = s.heap.objs.size + 1 := by rw [Heap.size_push, szc]
  have elt : e < s.heap.objs.size := Heap.lt_size h0
  have itlt : it < s.heap.objs.size := by
    obtain ⟨o, ho, _⟩ := h1.obj
    exact Heap.lt_size ho
  have back : ∀ b, b ≠ e → hf.get? b = (hc.push { cls := .type "tuple", data := .seq #[.int i s.toks, x] }).get? b := fun b hb => (sb6.2 b hb).trans ((sb5.2 b hb).trans (sb4.2 b hb))
  have low : ∀ b, b ≠ e → hc.get? b = ha.get? b := fun b hb => (sb3.2 b hb).trans (sb2.2 b hb)
  rw [szc]
  refine hq hf ?_ ?_ ?_ ?_ ?_
  · rw [szc] at e5
    have := e6
    rw [szc] at this
    exact this
  · refine i1.all fun o ho => ?_
    rw [back it hne.symm]
    exact Heap.get?_push_of_some _ ((low it hne.symm).trans ho)
  · rw [back _ (Nat.ne_of_gt elt), ← szc]
    exact Heap.get?_push_size _ rfl
  · rw [sb6.1, sb5.1, sb4.1, szp]
  · intro b o hb hb2 ho
    rw [back b hb]
    exact Heap.get?_push_of_some _ ((low b hb).trans ((sb1.2 b hb2).trans ho))

theorem enum_next_item {k : Bool} {e it l : Addr} {i : Nat} {items : Array Value} {x old : Value} {Q : Option Value → Shared → Prop} (h0 : IsEnum s.heap e it i old) (h1 : LIt k s.heap it l i) (h2 : LSq k s.heap l items) (h3 : items[i]? = some x) (hne : e ≠ it)
    (hq : ∀ h', IsEnumOut h' e it ((i : Int) + 1) x s.heap.objs.size → LIt k h' it l (i + 1) → h'.get? s.heap.objs.size = some { cls := .type "tuple", data := .seq #[.int i s.toks, x] } → h'.objs.size = s.heap.objs.size + 1 →
      (∀ b o, b ≠ e → b ≠ it → s.heap.get? b = some o → h'.get? b = some o) → Q (some (.ref s.heap.objs.size)) { heap := h', gens := s.gens, drawn := s.drawn, toks := s.toks + 1, os := s.os }) :
    wpAny (model prog w) A (pyNext (.ref e)) Q E s := by
  unfold pyNext
  have ty : s.TypeIs (.ref e) "enumerate" := ⟨_, h0, rfl⟩
  refine wpAny_bind (wpAny_attempt (wpAny_callSpecial?_slot ty F.slot_enumerate_next (wpAny_call_entry F.slot_enumerate_next ty F.entry_enumerate_next (enum_item h0 h1 h2 h3 hne fun h' a b c d f => wpAny_pure (hq h' a b c d f)) (F.args_enumerate_next_1 _))))
theorem enum_next_end {k : Bool} {e it l : Addr} {i : Nat} {items : Array Value} {old : Value} {Q : Option Value → Shared → Prop} (hA : A.handled = none) (h0 : IsEnum s.heap e it i old) (h1 : LIt k s.heap it l i) (h2 : LSq k s.heap l items) (h3 : items[i]? = none)
    (hq : ∀ h', Heap.ExtBut it s.heap h' → Q none { heap := h', gens := s.gens, drawn := s.drawn, toks := s.toks, os := s.os }) :
    wpAny (model prog w) A (pyNext (.ref e)) Q E s := by
  unfold pyNext
  have ty : s.TypeIs (.ref e) "enumerate" := ⟨_, h0, rfl⟩
  refine wpAny_bind (wpAny_attempt (wpAny_callSpecial?_slot ty F.slot_enumerate_next (wpAny_call_entry F.slot_enumerate_next ty F.entry_enumerate_next ?_ (F.args_enumerate_next_1 _))))
  unfold Builtin.«enumerate.__next__»
  refine wpAny_bind (wpAny_of_eq (a := (.ref e, [])) rfl ?_)
  refine wpAny_bind (wpAny_field h0 rfl rfl ?_)
  refine wpAny_bind (nextOf_end (A := A.in1) hA h1 h2 h3 fun h' x hx hs => ?_)
  obtain ⟨o, ho, hc⟩ := hs
  exact wpAny_bind (wpAny_isInstance ⟨o, ho, hc⟩ isSubtype_stop (wpAny_pure (hq h' hx)))
theorem enum_new {k : Bool} {l : Addr} {items : Array Value} {Q : Value → Shared → Prop} (h : LSq k s.heap l items)
    (hq : ∀ h', IsEnum h' (s.heap.objs.size + 1) s.heap.objs.size 0 .none → LIt k h' s.heap.objs.size l 0 → h'.objs.size = s.heap.objs.size + 2 → (∀ b o, s.heap.get? b = some o → h'.get? b = some o) →
      Q (.ref (s.heap.objs.size + 1)) { heap := h', gens := s.gens, drawn := s.drawn, toks := s.toks, os := s.os }) :
    wpAny (model prog w) A (call (.type "enumerate") [.ref l]) Q E s := by
  have M : Meets (Builtin.«enumerate.__new__» { pos := [.type "enumerate", .ref l] }) fun x R s => LSq k s.heap l items ∧ ∀ h', IsEnum h' (s.heap.objs.size + 1) s.heap.objs.size 0 .none → LIt k h' s.heap.objs.size l 0 → h'.objs.size = s.heap.objs.size + 2 → (∀ b o, s.heap.get? b = some o → h'.get? b = some o) →
      R (.ok (.ret (.ref (s.heap.objs.size + 1)))) { heap := h', gens := s.gens, drawn := s.drawn, toks := s.toks, os := s.os } := by
    refine Meets.of_wp fun prog w A R s hs => ?_
    obtain ⟨h, hR⟩ := hs
    obtain ⟨sh, sg, sd, st, so⟩ := s
    unfold Builtin.«enumerate.__new__»
    refine wpAny_bind (wpAny_of_eq (a := (.type "enumerate", [.ref l])) ?_ ?_)
    · unfold Builtin.SmallTypes.newClass
      simp only [sub_enumerate]
      rfl
    refine wpAny_ite_true rfl ?_
    refine wpAny_bind ?_
    refine wpAny_bind (wpAny_stack_any fun stk => wpAny_pure ?_)
    have fin : wpAny (model prog w) A.in1 (do
        let v ← pyIter (.ref l)
        let r ← Builtin.SmallTypes.newRecord (.type "enumerate") (Builtin.SmallTypes.ownedTupleFields ++ [v, rawInt 0, .none, .none])
        ret r) (fun fin s' => ∃ v, fin = Fin.done (Flow.ret v) ∧ R (Except.ok (Flow.ret v)) s') (fun e s' => R (Except.error e) s') ⟨sh, sg, sd, st, so⟩ := by
      refine wpAny_bind (pyIter_at h fun h1 i1 sz1 k1 => ?_)
      refine wpAny_bind ?_
      have cond : (decide ((Builtin.SmallTypes.ownedTupleFields ++ [Value.ref sh.objs.size, rawInt 0, Value.none, Value.none]).toArray.size > sizeLine + 2)) = false := by
        rw [sizeLine_eq]
        rfl
      unfold Builtin.SmallTypes.newRecord newObj
      refine wpAny_ite_false cond ?_
      refine wpAny_bind (wpAny_alloc' ?_)
      refine wpAny_pure (wpAny_pure ⟨_, rfl, ?_⟩)
      have sz1 : h1.objs.size = sh.objs.size + 1 := sz1
      rw [sz1]
      refine hR _ ?_ ?_ ?_ ?_
      · show Heap.get? _ (sh.objs.size + 1) = _
        rw [← sz1]
        exact Heap.get?_push_size _ rfl
      · exact i1.all fun o ho => Heap.get?_push_of_some _ ho
      · rw [Heap.size_push, sz1]
      · exact fun b o hb => Heap.get?_push_of_some _ (k1 b o hb)
    split
    · rename_i c _ _ _ _ _
      generalize (c == Value.type "enumerate") = b
      cases b <;> exact fin
    · exact fin
  refine callType_new F.called_enumerate rfl (F.typeCall_enumerate_1 _) (F.newCall_enumerate_1 _) (fun obj => F.args_object_init_2 _ _) F.entry_enumerate_new M ⟨h, fun h' a b c d => ?_⟩
  exact ⟨⟨_, a, rfl⟩, hq h' a b c d⟩
end
end Mi
set_option maxRecDepth 100000
set_option maxHeartbeats 1000000
/-! I2: enumerate over a list or a tuple: the walk. -/
namespace Mi
open PySem PySem.Spec PyProof.Rows L2

def SqK (K : PySem.W.Frag) (k : Bool) (H : Hp) (a : Addr) (xs : List V) : Prop := if k then SqT K H a xs else SqL K H a xs
section
variable {X : Cx} {pins : List (Addr × Obj)} {σ : L2.St} {H : Hp} {s : Shared}
theorem sq_at {k : Bool} {a : Addr} {xs : List V} (I : Inv X pins σ H s) (h : SqK X.K k H a xs) : ∃ its, Vals xs its ∧ LSq k s.heap a its.toArray ∧ xs.length ≤ sizeLine := by
  cases k
  · obtain ⟨its, h1, h2, h3⟩ := I.list h
    exact ⟨its, h1, h2.isList, h3⟩
  · exact I.tuple h
theorem sq_inj {k : Bool} {a : Addr} {xs ys : List V} (I : Inv X pins σ H s) (h : SqK X.K k H a xs) (h' : SqK X.K k H a ys) : xs = ys := by
  cases k
  · exact I.list_inj h h'
  · exact I.tuple_inj h h'
end
def IteM (K : PySem.W.Frag) (k : Bool) (a : Addr) : It where
  go := fun i H => ∃ xs x, SqK K k H a xs ∧ xs[i]? = some x
  yld := fun i H v H' => ∃ T x o, v = .ref T ∧ H T = none ∧ TupO o ∧ H' = upd H T (.frz o (.tup [.int i, x])) ∧ ∀ xs, SqK K k H a xs → xs[i]? = some x
  stop := fun i H => ∃ xs, SqK K k H a xs ∧ xs.length ≤ i
theorem turn_enumM {P : Program} {w : World} {K : PySem.W.Frag} {elts : List Expr} {kk : Nat} {tpos : Pos} (k : Bool) (a e it : Addr) :
    Turn P w K (.Tuple elts kk tpos) (IteM K k a) [e, it] e fun i h => (∃ old, IsEnum h e it i old) ∧ LIt k h it a i ∧ e ≠ it where
  mem := List.mem_cons_self
  obj := fun i h ht b hb => by
    obtain ⟨⟨old, h1⟩, h2, h3⟩ := ht
    rcases List.mem_cons.mp hb with rfl | hb
    · exact ⟨_, h1, fun v z => by cases z⟩
    · rw [List.mem_singleton] at hb
      subst hb
      exact h2.obj
  keep := fun i h h' ht hk => by
    obtain ⟨⟨old, h1⟩, h2, h3⟩ := ht
    exact ⟨⟨old, hk e List.mem_cons_self _ h1⟩, h2.all fun o ho => hk it (List.mem_cons_of_mem _ List.mem_cons_self) o ho, h3⟩
  item := fun X e1 e2 e3 hc i pins s σ H E I hfp ht hg => by
    subst e1 e2 e3
    obtain ⟨⟨old, h1⟩, h2, h3⟩ := ht
    obtain ⟨xs, x, hs, hx⟩ := hg
    obtain ⟨its, hv, hl, hz⟩ := sq_at I hs
    obtain ⟨u, hu, rx⟩ := hv.get hx
    have elt : e < s.heap.objs.size := Heap.lt_size h1
    have itlt : it < s.heap.objs.size := by
      obtain ⟨o, ho, _⟩ := h2.obj
      exact Heap.lt_size ho
    refine enum_next_item h1 h2 hl (by simpa using hu) h3 fun h' o1 i1 t1 sz k1 => ⟨_, rfl, ?_⟩
    refine wpAny_letOwnedTupleGo_enum o1 fun h2' en sb => ?_
    have J : Inv X pins σ (upd H s.heap.objs.size (.frz { cls := .type "tuple", data := .seq #[.int i s.toks, u] } (.tup [.int i, x]))) { heap := h2', gens := s.gens, drawn := s.drawn, toks := s.toks + 1, os := s.os } := by
      refine I.turnedNew (ch := [e, it]) (fun b o hb ho => ?_) hfp (Nat.le_refl _) ?_
      · have b1 : b ≠ e := fun z => hb (by rw [z]; exact List.mem_cons_self)
        have b2 : b ≠ it := fun z => hb (by rw [z]; exact List.mem_cons_of_mem _ List.mem_cons_self)
        rw [sb.2 b b1]
        exact k1 b o b1 b2 ho
      · refine ⟨by
          rw [sb.2 _ (Nat.ne_of_gt elt)]
          exact t1, by show 2 ≤ _; rw [sizeLine_eq]; decide, [.int i s.toks, u], .cons ⟨_, rfl⟩ (.cons rx .nil), { cls := .type "tuple", data := .seq #[.int i s.toks, u] }, ?_, rfl, _, rfl⟩
        rw [sb.2 _ (Nat.ne_of_gt elt)]
        exact t1
    refine ⟨.ref s.heap.objs.size, _, J, rfl, ⟨_, x, _, rfl, I.hok.fresh (Nat.le_refl _), ⟨rfl, rfl⟩, rfl, fun ys hy => ?_⟩, ⟨⟨_, en⟩, ?_, h3⟩, fun b hb => ?_⟩
    · rw [sq_inj I hy hs]
      exact hx
    · exact i1.all fun o ho => by
        rw [sb.2 it h3.symm]
        exact ho
    · have hb' := (hfp b hb).1
      rw [upd_ne]
      · exact hb'
      · rcases List.mem_cons.mp hb with rfl | hb
        · exact Nat.ne_of_lt elt
        · rw [List.mem_singleton] at hb
          subst hb
          exact Nat.ne_of_lt itlt
  done := fun X e1 e2 e3 hc i pins s σ H E I hfp ht hs => by
    subst e1 e2 e3
    obtain ⟨⟨old, h1⟩, h2, h3⟩ := ht
    obtain ⟨xs, hs, hx⟩ := hs
    obtain ⟨its, hv, hl, hz⟩ := sq_at I hs
    refine enum_next_end (I.ok.hd hc) h1 h2 hl (by simp; rw [← hv.length]; exact hx) fun h' hx => ⟨rfl, ?_⟩
    exact I.turnedL (ch := [e, it]) (fun b o hb ho => hx b o (fun z => hb (by rw [z]; exact List.mem_cons_of_mem _ List.mem_cons_self)) ho) hfp
  self := fun A i s Q E ht hq => wpAny_pyIter_enum ht.1.choose_spec hq
/-- enumerate, as PI asks it, from what is called -/
theorem enum_pie {X : Cx} {pins : List (Addr × Obj)} {σ : L2.St} {H : Hp} {s : Shared} {elts : List Expr} {kk : Nat} {tpos : Pos} {R : It → Hp → Prop} {k : Bool} {a : Addr} {xs : List V} (I : Inv X pins σ H s) (h : SqK X.K k H a xs) (hR : R (IteM X.K k a) H) :
    wpAny (model X.prog X.w) X.A (call (.type "enumerate") [.ref a]) (fun v s1 => wpAny (model X.prog X.w) X.A (pyIter v) (PIE X pins σ (.Tuple elts kk tpos) R) X.xe s1) X.xe s := by
  obtain ⟨its, hv, hl, hz⟩ := sq_at I h
  refine enum_new hl fun h' en i1 sz k1 => ?_
  refine wpAny_pyIter_enum (s := ⟨h', _, _, _, _⟩) en ?_
  have J : Inv X pins σ H { heap := h', gens := s.gens, drawn := s.drawn, toks := s.toks, os := s.os } := I.kept k1
  refine ⟨s.heap.objs.size + 1, [s.heap.objs.size + 1, s.heap.objs.size], _, _, H, rfl, J, turn_enumM k a _ _, ⟨⟨_, en⟩, i1, Nat.ne_of_gt (Nat.lt_succ_self _)⟩, fun b hb => ?_, hR⟩
  have hb2 : s.heap.objs.size ≤ b := by
    rcases List.mem_cons.mp hb with rfl | hb
    · exact Nat.le_succ _
    · rw [List.mem_singleton] at hb
      exact Nat.le_of_eq hb.symm
  exact I.fpOk hb2 (I.hok.fresh hb2)
end Mi
set_option maxRecDepth 100000
set_option maxHeartbeats 1000000
/-! I3: zip over lists and tuples, mixed. -/
namespace Mi
open PySem PySem.Spec PyProof.Rows L2
section
variable {prog : Program} {w : World} {A : Around} {E : Value → Shared → Prop} {s : Shared}
theorem zip_item {k j : Bool} {z TI TO i1 i2 l1 l2 : Addr} {k1 k2 : Nat} {xs ys : Array Value} {x y a b : Value} {Q : Value → Shared → Prop} (ap : ZipApart z TI TO i1 i2 l1 l2) (h0 : IsZip s.heap z TI TO .none) (hI : IsPair s.heap TI (.ref i1) (.ref i2)) (hO : IsPair s.heap TO a b)
    (h1 : LIt k s.heap i1 l1 k1) (h2 : LIt j s.heap i2 l2 k2) (h3 : LSq k s.heap l1 xs) (h4 : LSq j s.heap l2 ys) (hx : xs[k1]? = some x) (hy : ys[k2]? = some y)
    (hq : ∀ h', IsZip h' z TI TO (rawInt s.heap.objs.size) → IsPair h' TO x y → LIt k h' i1 l1 (k1 + 1) → LIt j h' i2 l2 (k2 + 1) → IsPair h' s.heap.objs.size x y → h'.objs.size = s.heap.objs.size + 1 →
      (∀ c o, c ≠ z → c ≠ TO → c ≠ i1 → c ≠ i2 → s.heap.get? c = some o → h'.get? c = some o) → Q (.ref s.heap.objs.size) { heap := h', gens := s.gens, drawn := s.drawn, toks := s.toks, os := s.os }) :
    wpAny (model prog w) A (Builtin.«zip.__next__» { pos := [.ref z] }) (fun fin s' => ∃ v, fin = .done (.ret v) ∧ Q v s') E s := by
  unfold Builtin.«zip.__next__»
  refine wpAny_bind (wpAny_of_eq (a := (.ref z, [])) rfl ?_)
  refine wpAny_bind (wpAny_field h0 rfl rfl ?_)
  refine wpAny_bind (wpAny_field h0 rfl rfl ?_)
  refine wpAny_bind (wpAny_seqItems hI rfl ?_)
  refine wpAny_bind (wpAny_bind (wpAny_field h0 rfl rfl (wpAny_pure ?_)))
  refine wpAny_bind (wpAny_rule ?_)
  refine wpAny_bind (wpAny_field h0 rfl rfl ?_)
  refine wpAny_bind (wpAny_setField_rec h0 (by simp) fun ha e1 sb1 => ?_)
  have g1 : ∀ c, c ≠ z → ∀ o, s.heap.get? c = some o → ha.get? c = some o := fun c hc o ho => (sb1.2 c hc).trans ho
  have a1 : LIt k ha i1 l1 k1 := h1.all (g1 _ ap.i1z)
  have a3 : LSq k ha l1 xs := h3.all (g1 _ ap.l1z)
  refine wpAny_bind (wpAny_bind ?_)
  refine wpAny_bind (wpAny_onRaise (wpAny_bind (nextOf_item (s := ⟨ha, _, _, _, _⟩) a1 a3 hx fun hb b1 sb2 => wpAny_pure ?_)))
  have g2 : ∀ c, c ≠ z → c ≠ i1 → ∀ o, s.heap.get? c = some o → hb.get? c = some o := fun c hc hd o ho => (sb2.2 c hd).trans (g1 c hc o ho)
  have O2 : IsPair hb TO a b := g2 _ ap.TOz ap.TOi1 _ hO
  refine wpAny_bind (wpAny_seqItems (s := ⟨hb, _, _, _, _⟩) O2 rfl ?_)
  refine wpAny_bind (wpAny_updateSeq_pair (s := ⟨hb, _, _, _, _⟩) O2 fun hc O3 sb3 => ?_)
  refine wpAny_bind (wpAny_letGo ?_)
  refine wpAny_pure ?_
  have O3 : IsPair hc TO x b := O3
  have g3 : ∀ c, c ≠ z → c ≠ i1 → c ≠ TO → ∀ o, s.heap.get? c = some o → hc.get? c = some o := fun c hc hd he o ho => (sb3.2 c he).trans (g2 c hc hd o ho)
  have a2 : LIt j hc i2 l2 k2 := h2.all (g3 _ ap.i2z ap.i12.symm ap.TOi2.symm)
  have a4 : LSq j hc l2 ys := h4.all (g3 _ ap.l2z ap.l2i1 ap.l2TO)
  refine wpAny_bind ?_
  refine wpAny_bind (wpAny_onRaise (wpAny_bind (nextOf_item (s := ⟨hc, _, _, _, _⟩) a2 a4 hy fun hd b2 sb4 => wpAny_pure ?_)))
  have O4 : IsPair hd TO x b := (sb4.2 _ ap.TOi2).trans O3
  refine wpAny_bind (wpAny_seqItems (s := ⟨hd, _, _, _, _⟩) O4 rfl ?_)
  refine wpAny_bind (wpAny_updateSeq_pair (s := ⟨hd, _, _, _, _⟩) O4 fun he O5 sb5 => ?_)
  refine wpAny_bind (wpAny_letGo ?_)
  refine wpAny_pure ?_
  have O5 : IsPair he TO x y := O5
  refine wpAny_pure ?_
  refine wpAny_bind (wpAny_seqItems (s := ⟨he, _, _, _, _⟩) O5 rfl ?_)
  refine wpAny_bind (wpAny_newTuple ?_ (by show 2 ≤ _; rw [sizeLine_eq]; decide))
  have sz : he.objs.size = s.heap.objs.size := by rw [sb5.1, sb4.1, sb3.1, sb2.1, sb1.1]
  have zp : ∀ c, c ≠ TO → c ≠ i2 → c ≠ i1 → c ≠ z → he.get? c = s.heap.get? c := fun c c1 c2 c3 c4 => by rw [sb5.2 c c1, sb4.2 c c2, sb3.2 c c1, sb2.2 c c3, sb1.2 c c4]
  have zz : he.get? z = some { cls := .type "zip", data := .fields #[.ellipsis, .bool false, .bool false, .ref TI, .ref TO] } := by
    rw [sb5.2 z ap.TOz.symm, sb4.2 z ap.i2z.symm, sb3.2 z ap.TOz.symm, sb2.2 z ap.i1z.symm]
    exact e1
  have zz2 : (he.push { cls := .type "tuple", data := .seq #[x, y] }).get? z = some { cls := .type "zip", data := .fields #[.ellipsis, .bool false, .bool false, .ref TI, .ref TO] } := Heap.get?_push_of_some _ zz
  refine wpAny_bind (wpAny_bind (wpAny_setField_rec (s := ⟨_, _, _, _, _⟩) zz2 (by simp) fun hf e6 sb6 => ?_))
  refine wpAny_setField_rec (s := ⟨hf, _, _, _, _⟩) e6 (by simp) fun hg e7 sb7 => ?_
  refine wpAny_pure ⟨_, rfl, ?_⟩
  have back : ∀ c, c ≠ z → hg.get? c = (he.push { cls := .type "tuple", data := .seq #[x, y] }).get? c := fun c hc => (sb7.2 c hc).trans (sb6.2 c hc)
  have zlt : z < s.heap.objs.size := Heap.lt_size h0
  have e7 : IsZip hg z TI TO (rawInt s.heap.objs.size) := by
    rw [← sz]
    exact e7
  rw [sz]
  refine hq hg e7 ?_ ?_ ?_ ?_ ?_ ?_
  · exact (back _ ap.TOz).trans (Heap.get?_push_of_some _ O5)
  · refine b1.all fun o ho => (back _ ap.i1z).trans (Heap.get?_push_of_some _ ?_)
    rw [sb5.2 _ ap.TOi1.symm, sb4.2 _ ap.i12, sb3.2 _ ap.TOi1.symm]
    exact ho
  · refine b2.all fun o ho => (back _ ap.i2z).trans (Heap.get?_push_of_some _ ?_)
    rw [sb5.2 _ ap.TOi2.symm]
    exact ho
  · refine (back _ (Nat.ne_of_gt zlt)).trans ?_
    rw [← sz]
    exact Heap.get?_push_size _ rfl
  · rw [sb7.1, sb6.1, Heap.size_push, sz]
  · intro c o c1 c2 c3 c4 ho
    exact (back c c1).trans (Heap.get?_push_of_some _ ((zp c c2 c4 c3 c1).trans ho))
theorem zip_end {k j : Bool} {z TI TO i1 i2 l1 l2 : Addr} {k1 k2 : Nat} {xs ys : Array Value} {a b : Value} {Q : PySem.Fin → Shared → Prop} (hA : A.handled = none) (ap : ZipApart z TI TO i1 i2 l1 l2) (h0 : IsZip s.heap z TI TO .none) (hI : IsPair s.heap TI (.ref i1) (.ref i2)) (hO : IsPair s.heap TO a b)
    (h1 : LIt k s.heap i1 l1 k1) (h2 : LIt j s.heap i2 l2 k2) (h3 : LSq k s.heap l1 xs) (h4 : LSq j s.heap l2 ys) (hn : xs[k1]? = none ∨ ys[k2]? = none)
    (hq : ∀ h' e, (∀ c o, c ≠ z → c ≠ TO → c ≠ i1 → c ≠ i2 → s.heap.get? c = some o → h'.get? c = some o) → (∃ o, h'.get? e = some o ∧ o.cls = .type "StopIteration") → E (.ref e) { heap := h', gens := s.gens, drawn := s.drawn, toks := s.toks, os := s.os }) :
    wpAny (model prog w) A (Builtin.«zip.__next__» { pos := [.ref z] }) Q E s := by
  unfold Builtin.«zip.__next__»
  refine wpAny_bind (wpAny_of_eq (a := (.ref z, [])) rfl ?_)
  refine wpAny_bind (wpAny_field h0 rfl rfl ?_)
  refine wpAny_bind (wpAny_field h0 rfl rfl ?_)
  refine wpAny_bind (wpAny_seqItems hI rfl ?_)
  refine wpAny_bind (wpAny_bind (wpAny_field h0 rfl rfl (wpAny_pure ?_)))
  refine wpAny_bind (wpAny_rule ?_)
  refine wpAny_bind (wpAny_field h0 rfl rfl ?_)
  refine wpAny_bind (wpAny_setField_rec h0 (by simp) fun ha e1 sb1 => ?_)
  have g1 : ∀ c, c ≠ z → ∀ o, s.heap.get? c = some o → ha.get? c = some o := fun c hc o ho => (sb1.2 c hc).trans ho
  have a1 : LIt k ha i1 l1 k1 := h1.all (g1 _ ap.i1z)
  have a3 : LSq k ha l1 xs := h3.all (g1 _ ap.l1z)
  refine wpAny_bind (wpAny_bind ?_)
  have stop : ∀ (h' h'' : Heap) (e : Addr) (i : Addr) (u : Obj), i ≠ z → (∀ c o, c ≠ z → c ≠ TO → c ≠ i1 → c ≠ i2 → s.heap.get? c = some o → h'.get? c = some o) → (i = i1 ∨ i = i2) → h'.get? z = some u → (u.cls = .type "zip") → Heap.ExtBut i h' h'' → (∃ o, h''.get? e = some o ∧ o.cls = .type "StopIteration") →
      (∃ vs, u = { cls := .type "zip", data := .fields vs } ∧ 0 < vs.size) →
      wpAny (model prog w) A (setField (.ref z) 0 .none) (fun _ s'' => E (.ref e) s'') E ⟨h'', s.gens, s.drawn, s.toks, s.os⟩ := fun h' h'' e i u iz hk hi hu hc ex hs hv => by
    obtain ⟨vs, rfl, hp⟩ := hv
    have hz : h''.get? z = some { cls := .type "zip", data := .fields vs } := ex z _ iz.symm hu
    refine wpAny_setField_rec (s := ⟨h'', _, _, _, _⟩) hz hp fun hf ef sf => ?_
    refine hq hf e (fun c o c1 c2 c3 c4 ho => ?_) ?_
    · refine (sf.2 c c1).trans (ex c o ?_ (hk c o c1 c2 c3 c4 ho))
      rcases hi with rfl | rfl
      · exact c3
      · exact c4
    · obtain ⟨o, ho, hc⟩ := hs
      refine ⟨o, (sf.2 e fun ez => ?_).trans ho, hc⟩
      rw [ez, hz] at ho
      cases ho
      simp at hc
  cases hx : xs[k1]? with
  | none =>
    refine wpAny_bind (wpAny_onRaise (wpAny_bind (nextOf_end (s := ⟨ha, _, _, _, _⟩) hA a1 a3 hx fun h'' e ex hs => ?_)))
    exact stop ha h'' e i1 _ ap.i1z (fun c o c1 c2 c3 c4 ho => g1 c c1 o ho) (.inl rfl) e1 rfl ex hs ⟨_, rfl, by simp⟩
  | some x =>
    have hy : ys[k2]? = none := by
      rcases hn with hn | hn
      · rw [hx] at hn; cases hn
      · exact hn
    refine wpAny_bind (wpAny_onRaise (wpAny_bind (nextOf_item (s := ⟨ha, _, _, _, _⟩) a1 a3 hx fun hb b1 sb2 => wpAny_pure ?_)))
    have g2 : ∀ c, c ≠ z → c ≠ i1 → ∀ o, s.heap.get? c = some o → hb.get? c = some o := fun c hc hd o ho => (sb2.2 c hd).trans (g1 c hc o ho)
    have O2 : IsPair hb TO a b := g2 _ ap.TOz ap.TOi1 _ hO
    refine wpAny_bind (wpAny_seqItems (s := ⟨hb, _, _, _, _⟩) O2 rfl ?_)
    refine wpAny_bind (wpAny_updateSeq_pair (s := ⟨hb, _, _, _, _⟩) O2 fun hc O3 sb3 => ?_)
    refine wpAny_bind (wpAny_letGo ?_)
    refine wpAny_pure ?_
    have g3 : ∀ c, c ≠ z → c ≠ i1 → c ≠ TO → ∀ o, s.heap.get? c = some o → hc.get? c = some o := fun c hc hd he o ho => (sb3.2 c he).trans (g2 c hc hd o ho)
    have a2 : LIt j hc i2 l2 k2 := h2.all (g3 _ ap.i2z ap.i12.symm ap.TOi2.symm)
    have a4 : LSq j hc l2 ys := h4.all (g3 _ ap.l2z ap.l2i1 ap.l2TO)
    have zz : hc.get? z = some { cls := .type "zip", data := .fields #[.ellipsis, .bool false, .bool false, .ref TI, .ref TO] } := by
      rw [sb3.2 z ap.TOz.symm, sb2.2 z ap.i1z.symm]
      exact e1
    refine wpAny_bind ?_
    refine wpAny_bind (wpAny_onRaise (wpAny_bind (nextOf_end (s := ⟨hc, _, _, _, _⟩) hA a2 a4 hy fun h'' e ex hs => ?_)))
    exact stop hc h'' e i2 _ ap.i2z (fun c o c1 c2 c3 c4 ho => g3 c c1 c3 c2 o ho) (.inr rfl) zz rfl ex hs ⟨_, rfl, by simp⟩
end
end Mi
set_option maxRecDepth 100000
set_option maxHeartbeats 1000000
/-! I4: zip: the walk. -/
namespace Mi
open PySem PySem.Spec PyProof.Rows L2
section
variable {prog : Program} {w : World} {A : Around} {E : Value → Shared → Prop} {s : Shared}
theorem zip_next_item' {k j : Bool} {z TI TO i1 i2 l1 l2 : Addr} {k1 k2 : Nat} {xs ys : Array Value} {x y a b : Value} {Q : Option Value → Shared → Prop} (ap : ZipApart z TI TO i1 i2 l1 l2) (h0 : IsZip s.heap z TI TO .none) (hI : IsPair s.heap TI (.ref i1) (.ref i2)) (hO : IsPair s.heap TO a b)
    (h1 : LIt k s.heap i1 l1 k1) (h2 : LIt j s.heap i2 l2 k2) (h3 : LSq k s.heap l1 xs) (h4 : LSq j s.heap l2 ys) (hx : xs[k1]? = some x) (hy : ys[k2]? = some y)
    (hq : ∀ h', IsZip h' z TI TO (rawInt s.heap.objs.size) → IsPair h' TO x y → LIt k h' i1 l1 (k1 + 1) → LIt j h' i2 l2 (k2 + 1) → IsPair h' s.heap.objs.size x y → h'.objs.size = s.heap.objs.size + 1 →
      (∀ c o, c ≠ z → c ≠ TO → c ≠ i1 → c ≠ i2 → s.heap.get? c = some o → h'.get? c = some o) → Q (some (.ref s.heap.objs.size)) { heap := h', gens := s.gens, drawn := s.drawn, toks := s.toks, os := s.os }) :
    wpAny (model prog w) A (pyNext (.ref z)) Q E s := by
  unfold pyNext
  have ty : s.TypeIs (.ref z) "zip" := ⟨_, h0, rfl⟩
  refine wpAny_bind (wpAny_attempt (wpAny_callSpecial?_slot ty F.slot_zip_next (wpAny_call_entry F.slot_zip_next ty F.entry_zip_next (zip_item ap h0 hI hO h1 h2 h3 h4 hx hy fun h' a b c d e f g => wpAny_pure (hq h' a b c d e f g)) (F.args_zip_next_1 _))))
theorem zip_next_end' {k j : Bool} {z TI TO i1 i2 l1 l2 : Addr} {k1 k2 : Nat} {xs ys : Array Value} {a b : Value} {Q : Option Value → Shared → Prop} (hA : A.handled = none) (ap : ZipApart z TI TO i1 i2 l1 l2) (h0 : IsZip s.heap z TI TO .none) (hI : IsPair s.heap TI (.ref i1) (.ref i2)) (hO : IsPair s.heap TO a b)
    (h1 : LIt k s.heap i1 l1 k1) (h2 : LIt j s.heap i2 l2 k2) (h3 : LSq k s.heap l1 xs) (h4 : LSq j s.heap l2 ys) (hn : xs[k1]? = none ∨ ys[k2]? = none)
    (hq : ∀ h', (∀ c o, c ≠ z → c ≠ TO → c ≠ i1 → c ≠ i2 → s.heap.get? c = some o → h'.get? c = some o) → Q none { heap := h', gens := s.gens, drawn := s.drawn, toks := s.toks, os := s.os }) :
    wpAny (model prog w) A (pyNext (.ref z)) Q E s := by
  unfold pyNext
  have ty : s.TypeIs (.ref z) "zip" := ⟨_, h0, rfl⟩
  refine wpAny_bind (wpAny_attempt (wpAny_callSpecial?_slot ty F.slot_zip_next (wpAny_call_entry F.slot_zip_next ty F.entry_zip_next (zip_end (A := A.in1) hA ap h0 hI hO h1 h2 h3 h4 hn fun h' e hk hs => ?_) (F.args_zip_next_1 _))))
  obtain ⟨o, ho, hc⟩ := hs
  exact wpAny_bind (wpAny_isInstance ⟨o, ho, hc⟩ isSubtype_stop (wpAny_pure (hq h' hk)))
theorem newTuple_at {l : List Value} {Q : Value → Shared → Prop} (hl : l.length ≤ 1000)
    (hq : ∀ h', h'.get? s.heap.objs.size = some { cls := .type "tuple", data := .seq l.toArray } → h'.objs.size = s.heap.objs.size + 1 → (∀ b o, s.heap.get? b = some o → h'.get? b = some o) → Q (.ref s.heap.objs.size) { heap := h', gens := s.gens, drawn := s.drawn, toks := s.toks, os := s.os }) :
    wpAny (model prog w) A (newTuple l) Q E s :=
  wpAny_newTuple (hq _ (Heap.get?_push_size _ rfl) (Heap.size_push ..) fun b o hb => Heap.get?_push_of_some _ hb) (by rw [sizeLine_eq]; omega)
theorem zip_new {k j : Bool} {l1 l2 : Addr} {xs ys : Array Value} {Q : Value → Shared → Prop} (h1 : LSq k s.heap l1 xs) (h2 : LSq j s.heap l2 ys)
    (hq : ∀ h', IsZip h' (s.heap.objs.size + 4) (s.heap.objs.size + 2) (s.heap.objs.size + 3) .none → IsPair h' (s.heap.objs.size + 2) (.ref s.heap.objs.size) (.ref (s.heap.objs.size + 1)) → IsPair h' (s.heap.objs.size + 3) .none .none →
      LIt k h' s.heap.objs.size l1 0 → LIt j h' (s.heap.objs.size + 1) l2 0 → h'.objs.size = s.heap.objs.size + 5 → (∀ c o, s.heap.get? c = some o → h'.get? c = some o) →
      Q (.ref (s.heap.objs.size + 4)) { heap := h', gens := s.gens, drawn := s.drawn, toks := s.toks, os := s.os }) :
    wpAny (model prog w) A (call (.type "zip") [.ref l1, .ref l2]) Q E s := by
  have M : Meets (Builtin.«zip.__new__» { pos := [.type "zip", .ref l1, .ref l2] }) fun x R s => LSq k s.heap l1 xs ∧ LSq j s.heap l2 ys ∧ ∀ h', IsZip h' (s.heap.objs.size + 4) (s.heap.objs.size + 2) (s.heap.objs.size + 3) .none → IsPair h' (s.heap.objs.size + 2) (.ref s.heap.objs.size) (.ref (s.heap.objs.size + 1)) → IsPair h' (s.heap.objs.size + 3) .none .none →
      LIt k h' s.heap.objs.size l1 0 → LIt j h' (s.heap.objs.size + 1) l2 0 → h'.objs.size = s.heap.objs.size + 5 → (∀ c o, s.heap.get? c = some o → h'.get? c = some o) →
      R (.ok (.ret (.ref (s.heap.objs.size + 4)))) { heap := h', gens := s.gens, drawn := s.drawn, toks := s.toks, os := s.os } := by
    refine Meets.of_wp fun prog w A R s hs => ?_
    obtain ⟨h1, h2, hR⟩ := hs
    unfold Builtin.«zip.__new__»
    refine wpAny_bind (wpAny_of_eq (a := (.type "zip", [.ref l1, .ref l2])) ?_ ?_)
    · unfold Builtin.SmallTypes.newClass
      simp only [sub_zip]
      rfl
    refine wpAny_ite_false rfl ?_
    refine wpAny_bind ?_
    unfold Builtin.SmallTypes.iterAll
    refine wpAny_bind (wpAny_bind (wpAny_bind (wpAny_holding (pyIter_at h1 fun ha i1 za ka => wpAny_pure ?_))))
    refine wpAny_bind (wpAny_bind (wpAny_holding (pyIter_at (s := ⟨ha, _, _, _, _⟩) (h2.all fun o ho => ka _ o ho) fun hb i2 zb kb => wpAny_pure ?_)))
    refine wpAny_pure (wpAny_pure ?_)
    have za : ha.objs.size = s.heap.objs.size + 1 := za
    have zb : hb.objs.size = s.heap.objs.size + 2 := by
      have zb : hb.objs.size = ha.objs.size + 1 := zb
      rw [zb, za]
    refine wpAny_bind (newTuple_at (s := ⟨hb, _, _, _, _⟩) (by simp) fun hc c1 zc kc => ?_)
    refine wpAny_bind (newTuple_at (s := ⟨hc, _, _, _, _⟩) (by simp) fun hd d1 zd kd => ?_)
    have zc : hc.objs.size = s.heap.objs.size + 3 := by
      have zc : hc.objs.size = hb.objs.size + 1 := zc
      rw [zc, zb]
    have zd : hd.objs.size = s.heap.objs.size + 4 := by
      have zd : hd.objs.size = hc.objs.size + 1 := zd
      rw [zd, zc]
    refine wpAny_bind ?_
    unfold Builtin.SmallTypes.newRecord newObj
    refine wpAny_ite_false (by rw [sizeLine_eq]; rfl) ?_
    refine wpAny_bind (wpAny_alloc' ?_)
    refine wpAny_pure (wpAny_pure ⟨_, rfl, ?_⟩)
    rw [zd]
    have c1 : hc.get? hb.objs.size = some { cls := .type "tuple", data := .seq #[.ref s.heap.objs.size, .ref ha.objs.size] } := c1
    have d1 : hd.get? hc.objs.size = some { cls := .type "tuple", data := .seq #[.none, .none] } := d1
    have i2 : LIt j hb ha.objs.size l2 0 := i2
    rw [zb, za] at c1
    rw [zc] at d1
    rw [za] at i2
    have zz : ∀ u : Obj, u.isFreed = false → (hd.push u).get? (s.heap.objs.size + 4) = some u := fun u hu => by
      rw [← zd]
      exact Heap.get?_push_size _ hu
    refine hR _ ?_ ?_ ?_ ?_ ?_ ?_ ?_
    · refine (zz _ rfl).trans ?_
      show some (Obj.mk (.type "zip") none (.fields #[.none, .bool false, .bool false, .ref hb.objs.size, .ref hc.objs.size]) #[]) = _
      rw [zb, zc]
    · exact Heap.get?_push_of_some _ (kd _ _ c1)
    · exact Heap.get?_push_of_some _ d1
    · exact i1.all fun o ho => Heap.get?_push_of_some _ (kd _ _ (kc _ _ (kb _ _ ho)))
    · exact i2.all fun o ho => Heap.get?_push_of_some _ (kd _ _ (kc _ _ ho))
    · rw [Heap.size_push, zd]
    · exact fun c o ho => Heap.get?_push_of_some _ (kd _ _ (kc _ _ (kb _ _ (ka _ _ ho))))
  refine callType_new F.called_zip rfl (F.typeCall_zip_2 _ _) (F.newCall_zip_2 _ _) (fun obj => F.args_object_init_3 _ _ _) F.entry_zip_new M ⟨h1, h2, fun h' a b c d e f g => ?_⟩
  exact ⟨⟨_, a, rfl⟩, hq h' a b c d e f g⟩
end
def ItzM (K : PySem.W.Frag) (k j : Bool) (a b : Addr) : It where
  go := fun i H => ∃ xs ys x y, SqK K k H a xs ∧ SqK K j H b ys ∧ xs[i]? = some x ∧ ys[i]? = some y
  yld := fun i H v H' => ∃ T x y o, v = .ref T ∧ H T = none ∧ TupO o ∧ H' = upd H T (.frz o (.tup [x, y])) ∧ (∀ xs, SqK K k H a xs → xs[i]? = some x) ∧ ∀ ys, SqK K j H b ys → ys[i]? = some y
  stop := fun i H => ∃ xs ys, SqK K k H a xs ∧ SqK K j H b ys ∧ (xs.length ≤ i ∨ ys.length ≤ i)
theorem turn_zipM {P : Program} {w : World} {K : PySem.W.Frag} {elts : List Expr} {kk : Nat} {tpos : Pos} (k j : Bool) {a b z TI TO i1 i2 : Addr} (ap : ZipApart z TI TO i1 i2 a b) :
    Turn P w K (.Tuple elts kk tpos) (ItzM K k j a b) [z, TI, TO, i1, i2] z fun i h => IsZip h z TI TO .none ∧ IsPair h TI (.ref i1) (.ref i2) ∧ (∃ x y, IsPair h TO x y) ∧ LIt k h i1 a i ∧ LIt j h i2 b i where
  mem := List.mem_cons_self
  obj := fun i h ht c hc => by
    obtain ⟨h1, h2, ⟨x, y, h3⟩, h4, h5⟩ := ht
    simp only [List.mem_cons, List.not_mem_nil, or_false] at hc
    rcases hc with rfl | rfl | rfl | rfl | rfl
    · exact ⟨_, h1, fun v z => by cases z⟩
    · exact ⟨_, h2, fun v z => by cases z⟩
    · exact ⟨_, h3, fun v z => by cases z⟩
    · exact h4.obj
    · exact h5.obj
  keep := fun i h h' ht hk => by
    obtain ⟨h1, h2, ⟨x, y, h3⟩, h4, h5⟩ := ht
    exact ⟨hk _ (by simp) _ h1, hk _ (by simp) _ h2, ⟨x, y, hk _ (by simp) _ h3⟩, h4.all fun o ho => hk _ (by simp) _ ho, h5.all fun o ho => hk _ (by simp) _ ho⟩
  item := fun X e1 e2 e3 hc i pins s σ H E I hfp ht hg => by
    subst e1 e2 e3
    obtain ⟨h1, h2, ⟨p, q, h3⟩, h4, h5⟩ := ht
    obtain ⟨xs, ys, x, y, hs, hs2, hx, hy⟩ := hg
    obtain ⟨its, hv, hl, hz⟩ := sq_at I hs
    obtain ⟨its2, hv2, hl2, hz2⟩ := sq_at I hs2
    obtain ⟨u, hu, rx⟩ := hv.get hx
    obtain ⟨v, hv', ry⟩ := hv2.get hy
    have zlt : z < s.heap.objs.size := Heap.lt_size h1
    refine zip_next_item' ap h1 h2 h3 h4 h5 hl hl2 (by simpa using hu) (by simpa using hv') fun h' o1 o2 j1 j2 t1 sz k1 => ⟨_, rfl, ?_⟩
    refine wpAny_letOwnedTupleGo_zip o1 fun h2' en sb => ?_
    have J : Inv X pins σ (upd H s.heap.objs.size (.frz { cls := .type "tuple", data := .seq #[u, v] } (.tup [x, y]))) { heap := h2', gens := s.gens, drawn := s.drawn, toks := s.toks, os := s.os } := by
      refine I.turnedNew (ch := [z, TI, TO, i1, i2]) (fun b o hb ho => ?_) hfp (Nat.le_refl _) ?_
      · simp only [List.mem_cons, List.not_mem_nil, or_false, not_or] at hb
        rw [sb.2 b hb.1]
        exact k1 b o hb.1 hb.2.2.1 hb.2.2.2.1 hb.2.2.2.2 ho
      · refine ⟨by
          rw [sb.2 _ (Nat.ne_of_gt zlt)]
          exact t1, by show 2 ≤ _; rw [sizeLine_eq]; decide, [u, v], .cons rx (.cons ry .nil), { cls := .type "tuple", data := .seq #[u, v] }, ?_, rfl, _, rfl⟩
        rw [sb.2 _ (Nat.ne_of_gt zlt)]
        exact t1
    have nz : ∀ b, b ∈ [z, TI, TO, i1, i2] → b ≠ s.heap.objs.size := fun b hb e => by
      have lt : b < s.heap.objs.size := by
        simp only [List.mem_cons, List.not_mem_nil, or_false] at hb
        rcases hb with rfl | rfl | rfl | rfl | rfl
        · exact zlt
        · exact Heap.lt_size h2
        · exact Heap.lt_size h3
        · obtain ⟨o, ho, _⟩ := h4.obj
          exact Heap.lt_size ho
        · obtain ⟨o, ho, _⟩ := h5.obj
          exact Heap.lt_size ho
      exact Nat.ne_of_lt lt e
    refine ⟨.ref s.heap.objs.size, _, J, rfl, ⟨_, x, y, _, rfl, I.hok.fresh (Nat.le_refl _), ⟨rfl, rfl⟩, rfl, fun zs hz => ?_, fun zs hz => ?_⟩, ⟨en, ?_, ⟨_, _, (sb.2 _ ap.TOz).trans o2⟩, ?_, ?_⟩, fun b hb => ?_⟩
    · rw [sq_inj I hz hs]
      exact hx
    · rw [sq_inj I hz hs2]
      exact hy
    · refine (sb.2 _ ap.TIz).trans (k1 _ _ ap.TIz ap.TITO ap.TIi1 ap.TIi2 h2)
    · exact j1.all fun o ho => (sb.2 _ ap.i1z).trans ho
    · exact j2.all fun o ho => (sb.2 _ ap.i2z).trans ho
    · have hb' := (hfp b hb).1
      rw [upd_ne (nz b hb)]
      exact hb'
  done := fun X e1 e2 e3 hc i pins s σ H E I hfp ht hs => by
    subst e1 e2 e3
    obtain ⟨h1, h2, ⟨p, q, h3⟩, h4, h5⟩ := ht
    obtain ⟨xs, ys, hs, hs2, hx⟩ := hs
    obtain ⟨its, hv, hl, hz⟩ := sq_at I hs
    obtain ⟨its2, hv2, hl2, hz2⟩ := sq_at I hs2
    refine zip_next_end' (I.ok.hd hc) ap h1 h2 h3 h4 h5 hl hl2 ?_ fun h' hk => ⟨rfl, ?_⟩
    · rcases hx with hx | hx
      · left
        simp
        rw [← hv.length]
        exact hx
      · right
        simp
        rw [← hv2.length]
        exact hx
    · exact I.turnedL (ch := [z, TI, TO, i1, i2]) (fun b o hb ho => by
        simp only [List.mem_cons, List.not_mem_nil, or_false, not_or] at hb
        exact hk b o hb.1 hb.2.2.1 hb.2.2.2.1 hb.2.2.2.2 ho) hfp
  self := fun A i s Q E ht hq => wpAny_pyIter_zip ht.1 hq
/-- zip, as PI asks it, from what is called -/
theorem zip_pie {X : Cx} {pins : List (Addr × Obj)} {σ : L2.St} {H : Hp} {s : Shared} {elts : List Expr} {kk : Nat} {tpos : Pos} {R : It → Hp → Prop} {k j : Bool} {a b : Addr} {xs ys : List V} (I : Inv X pins σ H s) (h : SqK X.K k H a xs) (h' : SqK X.K j H b ys) (hR : R (ItzM X.K k j a b) H) :
    wpAny (model X.prog X.w) X.A (call (.type "zip") [.ref a, .ref b]) (fun v s1 => wpAny (model X.prog X.w) X.A (pyIter v) (PIE X pins σ (.Tuple elts kk tpos) R) X.xe s1) X.xe s := by
  obtain ⟨its, hv, hl, hz⟩ := sq_at I h
  obtain ⟨its2, hv2, hl2, hz2⟩ := sq_at I h'
  have lt : ∀ {k : Bool} {l : Addr} {xs : Array Value}, LSq k s.heap l xs → l < s.heap.objs.size := fun {k l xs} q => by
    cases k <;> obtain ⟨o, ho, _⟩ := q <;> exact Heap.lt_size ho
  refine zip_new hl hl2 fun h' en pi po i1 i2 sz k1 => ?_
  refine wpAny_pyIter_zip (s := ⟨h', _, _, _, _⟩) en ?_
  have J : Inv X pins σ H { heap := h', gens := s.gens, drawn := s.drawn, toks := s.toks, os := s.os } := I.kept k1
  refine ⟨s.heap.objs.size + 4, [s.heap.objs.size + 4, s.heap.objs.size + 2, s.heap.objs.size + 3, s.heap.objs.size, s.heap.objs.size + 1], _, _, H, rfl, J, turn_zipM k j (W.ktu_apart _ _ _ (lt hl) (lt hl2)), ⟨en, pi, ⟨_, _, po⟩, i1, i2⟩, fun c hc => ?_, hR⟩
  have hc2 : s.heap.objs.size ≤ c := by
    simp only [List.mem_cons, List.not_mem_nil, or_false] at hc
    rcases hc with rfl | rfl | rfl | rfl | rfl
    · exact Nat.le_add_right _ _
    · exact Nat.le_add_right _ _
    · exact Nat.le_add_right _ _
    · exact Nat.le_refl _
    · exact Nat.le_add_right _ _
  exact I.fpOk hc2 (I.hok.fresh hc2)
end Mi
set_option maxRecDepth 100000
set_option maxHeartbeats 1000000
/-! I5: dict(..) over a list or a tuple of pairs. -/
namespace Mi
open PySem PySem.Spec PyProof.Rows L2
theorem tuple_keys_none : typeLookup (.type "tuple") (PySem.Str.ofString "keys") = pure none := am_miss_of_fast (by decide +kernel)
section
variable {prog : Program} {w : World} {A : Around} {E : Value → Shared → Prop} {s : Shared}
theorem miss_tuple {a : Addr} {o : Obj} {xs : Array Value} {k : Nat} {Q : Option Value → Shared → Prop} (ho : s.heap.get? a = some o) (hc : o.cls = .type "tuple") (hd : o.data = .seq xs k) (hn : o.dict = none) (hA : A.handled = none)
    (hq : ∀ h' tk, (∀ b ob, s.heap.get? b = some ob → h'.get? b = some ob) → Q none { heap := h', gens := s.gens, drawn := s.drawn, toks := tk, os := s.os }) :
    wpAny (model prog w) A (getAttr? (.ref a) (PySem.Str.ofString "keys")) Q E s := by
  obtain ⟨oc, od, oda, osl⟩ := o
  obtain ⟨sh, sg, sd, st, so⟩ := s
  simp only at hc hd hn
  subst hc hd hn
  have ty : ∀ t, (Shared.mk sh sg sd t so).TypeIs (.ref a) "tuple" := fun t => ⟨_, ho, rfl⟩
  unfold getAttr? mkText
  refine wpAny_bind (wpAny_bind (wpAny_fresh' (wpAny_pure ?_)))
  unfold getAttrBy?
  refine wpAny_bind (wpAny_attempt ?_)
  unfold getAttrBy
  refine wpAny_holding (wpAny_bind (wpAny_typeOf (ty _) ?_))
  refine wpAny_bind (wpAny_of_eq F.slot_tuple_getattribute.lookup ?_)
  refine wpAny_ite_false rfl ?_
  unfold getAttrByItsOwn
  refine wpAny_bind (wpAny_of_eq (a := none) rfl ?_)
  refine wpAny_bind (wpAny_attempt (wpAny_holding ?_))
  unfold callGetattribute
  refine wpAny_ite_false rfl ?_
  unfold boundAndCalled
  refine wpAny_bind (wpAny_of_eq (F.slot_tuple_getattribute.bind _) ?_)
  refine call_meets F.slot_tuple_getattribute (ty _) am_entry_tuple_getattribute (F.args_tuple_getattribute_2 _ _) (meets_getattribute_miss_tuple a xs k osl _ _ tuple_keys_none (by decide +kernel) (by rw [sizeLine_eq]; decide +kernel)) ⟨ho, hA, fun h' tk e he => ?_⟩
  obtain ⟨t, u, hu⟩ := he.there
  have te : ∀ tk, (Shared.mk h' sg sd tk so).TypeIs (.ref e) "AttributeError" := fun tk => ⟨_, hu, rfl⟩
  unfold getattributeRaised
  refine wpAny_bind (wpAny_isInstance (te _) sub_AttributeError ?_)
  refine wpAny_ite_true rfl ?_
  refine wpAny_bind (wpAny_of_eq (a := none) (show hookBehind (.type "tuple") none = pure none from am_tuple_getattr_none) ?_)
  show wpAny _ _ (attributeErrorLeaves _ _ _ false false) _ _ _
  unfold attributeErrorLeaves
  refine wpAny_ite_true rfl ?_
  refine wpAny_bind (wpAny_throw ?_)
  refine wpAny_bind (wpAny_isInstance (te _) sub_AttributeError ?_)
  exact wpAny_pure (hq h' tk he.keeps)
theorem pyNext_item {k : Bool} {it l : Addr} {i : Nat} {items : Array Value} {x : Value} {Q : Option Value → Shared → Prop} (h1 : LIt k s.heap it l i) (h2 : LSq k s.heap l items) (h3 : items[i]? = some x)
    (hq : ∀ h', LIt k h' it l (i + 1) → Heap.SameBut it s.heap h' → Q (some x) { heap := h', gens := s.gens, drawn := s.drawn, toks := s.toks, os := s.os }) :
    wpAny (model prog w) A (pyNext (.ref it)) Q E s := by
  cases k
  · exact wpAny_pyNext_list_item h1 h2 h3 hq
  · exact wpAny_pyNext_tuple_item h1 h2 h3 hq
theorem pyNext_end {k : Bool} {it l : Addr} {i : Nat} {items : Array Value} {Q : Option Value → Shared → Prop} (hA : A.handled = none) (h1 : LIt k s.heap it l i) (h2 : LSq k s.heap l items) (h3 : items[i]? = none)
    (hq : ∀ h', Heap.ExtBut it s.heap h' → Q none { heap := h', gens := s.gens, drawn := s.drawn, toks := s.toks, os := s.os }) :
    wpAny (model prog w) A (pyNext (.ref it)) Q E s := by
  cases k
  · exact wpAny_pyNext_list_end hA h1 h2 h3 hq
  · exact wpAny_pyNext_tuple_end hA h1 h2 h3 hq
end
theorem upd_loopM {prog : Program} {w : World} {R : Result → Shared → Prop} {S I l : Addr} {items : Array Value} {res : Value} {k : Bool} (hlI : l ≠ I) (hSI : S ≠ I) (hSl : S ≠ l) :
    ∀ (rest : List (Key × Value)) (A : Around) (i : Nat) (acc : List (Key × Value)) (ix : Int) (t : Tok) (s : Shared), A.handled = none → items.size = i + rest.length → acc.length + rest.length ≤ sizeLine →
      (∀ (j : Nat) (q : Key × Value), rest[j]? = some q → ∃ b u, items[i + j]? = some (.ref b) ∧ b ≠ S ∧ b ≠ I ∧ IsTup s.heap b #[u, q.2] ∧ keyIs q.1 u = true) →
      LIt k s.heap I l i → LSq k s.heap l items → Heap.DictOf (mixKind prog w) s.heap S acc →
      (∀ h' tk, Heap.DictOf (mixKind prog w) h' S (merged acc rest) → (∀ b o, b ≠ S → b ≠ I → s.heap.get? b = some o → h'.get? b = some o) → R (.ok (.ret res)) { heap := h', gens := s.gens, drawn := s.drawn, toks := tk, os := s.os }) →
      codeAny (model prog w) A (.builtin "dict.update.loop" { pos := [.ref S, .ref I, .int ix t, res] }) R s
  | [], A, i, acc, ix, t, s, hA, hsz, hle, hit, h1, h2, hd, hq => by
    refine codeAny_builtin ud_entry ?_
    rw [Around.under_plainId ud_plain]
    unfold Builtin.«dict.update.loop»
    refine wpAny_bind (pyNext_end (A := A.in1) hA h1 h2 (by simp at hsz; simp [hsz]) fun h' hx => ?_)
    refine wpAny_bind (wpAny_of_eq (a := ()) rfl ?_)
    exact wpAny_pure (hq h' _ (hd.extBut hx hSI) fun b o _ hb ho => hx b o hb ho)
  | (key, val) :: rest, A, i, acc, ix, t, s, hA, hsz, hle, hit, h1, h2, hd, hq => by
    refine codeAny_builtin ud_entry ?_
    rw [Around.under_plainId ud_plain]
    unfold Builtin.«dict.update.loop»
    obtain ⟨b, u, hb, bS, bI, tb, hk⟩ := hit 0 (key, val) rfl
    refine wpAny_bind (pyNext_item h1 h2 (by simpa using hb) fun h1' i1 sb => ?_)
    have d1 : Heap.DictOf (mixKind prog w) h1' S acc := hd.extBut sb.extBut hSI
    have tb1 : IsTup h1' b #[u, val] := tb.extBut sb.extBut bI
    obtain ⟨ob, hob, cob, n, dob⟩ := tb1
    refine wpAny_bind (wpAny_holding (wpAny_bind (wpAny_tryCatch ?_)))
    unfold Builtin.Dict.pairItems
    refine wpAny_bind (wpAny_typeOf (T := "tuple") ⟨ob, hob, cob⟩ ?_)
    refine wpAny_ite_true rfl ?_
    refine wpAny_bind (wpAny_seqItems hob dob (wpAny_pure ?_))
    refine wpAny_holding (wpAny_dictSet_pairs (s := ⟨h1', _, _, _, _⟩) (knd := mixKind prog w) hk d1 (fun h2' d2 sb2 => ?_) (by simp at hle; omega))
    refine wpAny_pure ⟨plainId_quiet ud_plain _, ?_⟩
    refine upd_loopM (items := items) hlI hSI hSl rest A (i + 1) (stored acc key val) _ _ ⟨h2', _, _, _, _⟩ hA (by simp only [List.length_cons] at hsz; omega) ?_ ?_ (i1.all fun o ho => (sb2.2 _ hSI.symm).trans ho) ?_ d2 ?_
    · have := stored_length_le acc key val
      simp at hle
      omega
    · intro j q hj
      obtain ⟨b', u', hb', bS', bI', tb', hk'⟩ := hit (j + 1) q (by simpa using hj)
      refine ⟨b', u', by rw [← hb', Nat.add_assoc, Nat.add_comm 1 j], bS', bI', ?_, hk'⟩
      exact (tb'.extBut sb.extBut bI').extBut sb2.extBut bS'
    · exact h2.all fun o ho => (sb2.2 _ hSl.symm).trans ((sb.2 _ hlI).trans ho)
    · intro h3 tk d3 k3
      refine hq h3 tk d3 fun b o hb1 hb2 ho => k3 b o hb1 hb2 ((sb2.2 _ hb1).trans ((sb.2 _ hb2).trans ho))
end Mi
set_option maxRecDepth 100000
set_option maxHeartbeats 1000000
/-! I6: dict(..): the call. -/
namespace Mi
open PySem PySem.Spec PyProof.Rows L2
theorem dict_new {prog : Program} {w : World} {A : Around} {E : Value → Shared → Prop} {s : Shared} {k : Bool} {l : Addr} {ol : Obj} {items : Array Value} {n : Nat} {prs : List (Key × Value)} {Q : Value → Shared → Prop}
    (hA : A.handled = none) (ho : s.heap.get? l = some ol) (hc : ol.cls = .type (if k then "tuple" else "list")) (hdi : ol.dict = none) (hd : ol.data = .seq items n) (hz : items.size = prs.length) (hl : prs.length ≤ sizeLine)
    (hit : ∀ (j : Nat) (q : Key × Value), prs[j]? = some q → ∃ b u, items[j]? = some (.ref b) ∧ IsTup s.heap b #[u, q.2] ∧ keyIs q.1 u = true)
    (hq : ∀ h' tk, Heap.DictOf (mixKind prog w) h' s.heap.objs.size (merged [] prs) → (∀ b o, s.heap.get? b = some o → h'.get? b = some o) → Q (.ref s.heap.objs.size) { heap := h', gens := s.gens, drawn := s.drawn, toks := tk, os := s.os }) :
    wpAny (model prog w) A (call (.type "dict") [.ref l]) Q E s := by
  refine callType_codes F.kt_called_dict (F.kt_typeCall_dict_1 _) F.entry_dict_init (kt_code_dict_new _ (Q₁ := fun obj s1 => obj = .ref s.heap.objs.size ∧ s1 = { heap := s.heap.push { cls := .type "dict", data := .dict #[] }, gens := s.gens, drawn := s.drawn, toks := s.toks, os := s.os }) ⟨rfl, rfl⟩) fun obj s1 h => ?_
  obtain ⟨rfl, rfl⟩ := h
  have d0 : Heap.DictOf (mixKind prog w) (s.heap.push { cls := .type "dict", data := .dict #[] }) s.heap.objs.size [] := Heap.DictOf.new s.heap
  have ty : ∀ tk, (Shared.mk (s.heap.push { cls := .type "dict", data := .dict #[] }) s.gens s.drawn tk s.os).TypeIs (.ref s.heap.objs.size) "dict" := fun tk => ⟨_, Heap.get?_push_size _ rfl, rfl⟩
  refine ⟨ty _, F.args_dict_init_2 _ _, ?_⟩
  have k0 : ∀ b o, s.heap.get? b = some o → (s.heap.push { cls := .type "dict", data := .dict #[] }).get? b = some o := fun b o h => Heap.get?_push_of_some _ h
  unfold Builtin.«dict.__init__»
  unfold Builtin.Dict.selfAndRest
  refine wpAny_bind (wpAny_bind (wpAny_notOrdered_dict (ty _) ?_))
  refine wpAny_bind (wpAny_of_eq (a := s.heap.objs.size) rfl (wpAny_pure ?_))
  show wpAny _ _ (Builtin.Dict.updateFrom "dict.__init__" s.heap.objs.size (.ref l) [] .none) _ _ _
  unfold Builtin.Dict.updateFrom
  have llt : l < s.heap.objs.size := Heap.lt_size ho
  have fin : ∀ (h1 : Heap) (tk : Nat), (∀ b ob, (s.heap.push { cls := .type "dict", data := .dict #[] }).get? b = some ob → h1.get? b = some ob) →
      wpAny (model prog w) A.in1.in1 (do
        rule (toString "dict.__init__" ++ toString ".from-pairs")
        let __do_lift ← pyIter (.ref l)
        again (Code.builtin "dict.update.loop" { pos := [Value.ref s.heap.objs.size, __do_lift, rawInt 0, .none], kw := [] }))
        (fun fin s' => match fin with
          | Fin.done f => wants (fun r s₂ => r = Value.none ∧ Q (.ref s.heap.objs.size) s₂) E (Except.ok f) s'
          | Fin.again c' => c'.quiet = true ∧ codeAny (model prog w) A.in1 c' (wants (fun r s₂ => r = Value.none ∧ Q (.ref s.heap.objs.size) s₂) E) s')
        (fun e s' => wants (fun r s₂ => r = Value.none ∧ Q (.ref s.heap.objs.size) s₂) E (Except.error e) s') ⟨h1, s.gens, s.drawn, tk, s.os⟩ := fun h1 tk k1 => by
    have ho1 : h1.get? l = some ol := k1 _ _ (k0 _ _ ho)
    have sq : LSq k h1 l items := by
      cases k
      · exact ⟨ol, ho1, hc, n, hd⟩
      · exact ⟨ol, ho1, hc, n, hd⟩
    refine wpAny_bind (wpAny_rule ?_)
    refine wpAny_bind (pyIter_at (s := ⟨h1, _, _, _, _⟩) sq fun h2 i2 z2 k2 => ?_)
    refine wpAny_pure ⟨plainId_quiet ud_plain _, ?_⟩
    have i2 : LIt k h2 h1.objs.size l 0 := i2
    have lt1 : l < h1.objs.size := Heap.lt_size ho1
    have dlt : s.heap.objs.size < h1.objs.size := Heap.lt_size (k1 _ _ (Heap.get?_push_size _ rfl))
    refine upd_loopM (items := items) (Nat.ne_of_lt lt1) (Nat.ne_of_lt dlt) (Nat.ne_of_gt llt) prs A.in1 0 [] _ _ ⟨h2, _, _, _, _⟩ hA (by rw [hz]; omega) (by simpa using hl) (fun j q hj => ?_) i2 (sq.all fun o h => k2 _ _ h) ((d0.at fun o h => k1 _ _ h).at fun o h => k2 _ _ h) fun h3 tk3 d3 k3 => ?_
    · obtain ⟨b, u, h4, h5, h6⟩ := hit j q hj
      have blt : b < s.heap.objs.size := h5.lt
      exact ⟨b, u, by simpa using h4, Nat.ne_of_lt blt, Nat.ne_of_lt (Nat.lt_trans blt dlt), h5.keeps fun b o h => k2 _ _ (k1 _ _ (k0 _ _ h)), h6⟩
    · refine ⟨rfl, hq h3 tk3 d3 fun b o h => k3 b o (Nat.ne_of_lt (Heap.lt_size h)) (Nat.ne_of_lt (Nat.lt_trans (Heap.lt_size h) dlt)) (k2 _ _ (k1 _ _ (k0 _ _ h)))⟩
  cases k
  · refine wpAny_bind (wpAny_typeOf (T := "list") ⟨ol, k0 _ _ ho, hc⟩ ?_)
    refine wpAny_ite_true rfl ?_
    refine wpAny_bind (miss_list (k0 _ _ ho) hc hd hdi hA fun h1 tk k1 => ?_)
    exact wpAny_ite_true rfl (fin h1 tk k1)
  · refine wpAny_bind (wpAny_typeOf (T := "tuple") ⟨ol, k0 _ _ ho, hc⟩ ?_)
    refine wpAny_ite_true rfl ?_
    refine wpAny_bind (miss_tuple (k0 _ _ ho) hc hd hdi hA fun h1 tk k1 => ?_)
    exact wpAny_ite_true rfl (fin h1 tk k1)
/-- dict(xs), xs a list or a tuple of pairs -/
theorem cr_dictX {X : Cx} (hc : X.calm = true) : CallR X (.type "dict") fun xs H Q => ∃ (a : Addr) (ps : List Addr) (kvs : List (Key × V)), xs = [.ref a] ∧ (SqL X.K H a (ps.map V.ref) ∨ SqX X.K H a (ps.map V.ref)) ∧ Paired (fun p kv => SqT X.K H p [kV kv.1, kv.2]) ps kvs ∧ ∀ p, H p = none → Q (.ref p) (upd H p (.dK (mergeK [] kvs))) := by
  intro pins s σ H xs us Q I r h
  obtain ⟨a, ps, kvs, rfl, ha, hp, hq⟩ := h
  rcases ha with ha | ha
  · exact call_dictP hc pins s σ H _ us Q I r ⟨a, ps, kvs, rfl, ha, hp, hq⟩
  obtain ⟨u, rfl, rx⟩ := vals1 r
  cases rx
  obtain ⟨o, its, n, ho, hT, hd, rv, hz⟩ := sqX_at I ha
  obtain ⟨prs, kv, hlen, hit⟩ := pairs_of I hp
  have eu := refs_at rv
  have ps1 : its.size = prs.length := by
    rw [hlen]
    have := congrArg List.length eu
    simpa using this
  refine dict_new (k := true) (I.ok.hd hc) ho hT.1 hT.2 hd ps1 (by rw [hlen]; simpa using hz) (fun j q hj => ?_) fun h' tk hdict hk => ?_
  · obtain ⟨b, u, h1, h2, h3⟩ := hit j q hj
    refine ⟨b, u, ?_, h2, h3⟩
    rw [← Array.getElem?_toList, eu, List.getElem?_map, h1]
    rfl
  · have kl : (mergeK [] kvs).length ≤ sizeLine := by
      have h1 := length_mergeK kvs []
      have h2 : kvs.length = ps.length := by
        have h3 := kv.length
        rw [h3, hlen]
      have h4 : ps.length ≤ sizeLine := by simpa using hz
      simp at h1
      omega
    refine ⟨.ref s.heap.objs.size, _, I.laid (o := .dK (mergeK [] kvs)) hk (Nat.le_refl _) ⟨kl, ?_, _, kv.merge .nil, hdict⟩, rfl, hq _ (I.hok.fresh (Nat.le_refl _))⟩
    have := I.big
    exact beq_eq_false_iff_ne.mpr (Nat.ne_of_gt this)
end Mi
set_option maxRecDepth 100000
set_option maxHeartbeats 1000000
/-! S8: more built-ins called with values. -/
namespace Mi
open PySem PySem.Spec PyProof.Rows L2
section
variable {X : Cx} {g : Gs} {P : Prg} {k : Nat} {cl : Cl}
/-- repr of a list, a tuple of plain data -/
theorem bi_repr (hK : X.K = g.K) (hg : X.A.guards = some []) (hu : X.A.units + 64 < cLine) : CallR X (.builtin "repr") (rBi g P cl .repr1) := by
  intro pins s σ H xs us Q I r h
  obtain ⟨x, rfl, p, d, rfl, ok, hd, hp⟩ := rBi_one (fun _ => rfl) (fun _ _ _ => rfl) h
  have hp : Post g NoX p (biRepr d p.S) (EndV g Q) := hp
  unfold biRepr reprD at hp
  cases h1 : pd p.S deep d with
  | none => rw [h1] at hp; exact False.elim hp
  | some y =>
    rw [h1] at hp
    cases h2 : y.repr with
    | none => simp only [h2] at hp; exact False.elim hp
    | some t =>
      simp only [h2] at hp
      by_cases hl : d.boxed = true ∧ t.length ≤ 4000000
      · rw [if_pos hl] at hp
        obtain ⟨u, rfl, rx⟩ := vals1 r
        have od := pd_ok ok deep d x y hd h1
        obtain ⟨as, rd⟩ := Dp.reads I (toPy y) x u (by rw [hK]; exact od.dp) rx
        obtain ⟨e1, e2, e3⟩ := shown_eq y t h2
        have ha : ∃ a, u = .ref a := by
          cases d with
          | tup l =>
            obtain ⟨a, xs, e, _⟩ := hd
            subst e
            exact ⟨a, rx⟩
          | loc n =>
            obtain ⟨_, e⟩ := hd
            subst e
            exact ⟨_, rx⟩
          | _ => exact absurd hl.1 (by simp [D.boxed])
        obtain ⟨a, rfl⟩ := ha
        have hdp : (toPy y).depth ≤ 20 := od.dep
        refine repr_of_reads' rd e2 (fun z => by rw [e3] at z; cases z) hg (by omega) (fun b o h => h) (fun h' tk tk' hk => ?_) (by rw [e1, strS_len, sizeLine_eq]; omega)
        refine ⟨.str (strS t), p.H, I.kept hk, ⟨_, by rw [e1]⟩, ?_⟩
        exact hp.ok rfl ok _ ⟨rfl, repr_ok y t h2⟩
      · rw [if_neg hl] at hp
        exact False.elim hp
theorem natOf_digits : ∀ (cs : List Nat) (n m : Nat), natOf cs n = some m → NumText.AllDigits cs ∧ m = List.foldl (fun acc c => acc * 10 + (c - 48)) n cs
  | [], n, m, h => by
    cases h
    exact ⟨fun c hc => (by cases hc), rfl⟩
  | c :: r, n, m, h => by
    simp only [natOf] at h
    split at h
    · rename_i hc
      obtain ⟨h1, h2⟩ := natOf_digits r _ _ h
      refine ⟨fun x hx => ?_, ?_⟩
      · rcases List.mem_cons.mp hx with rfl | hx
        · exact hc
        · exact h1 x hx
      · rw [h2, List.foldl_cons, Nat.mul_comm]
    · cases h
theorem intOf_text {z : List Nat} {i : Int} (h : intOf z = some i) (hl : z.length ≤ 600) : intText? (strS z) = some i := by
  unfold intOf at h
  split at h
  · cases h
  · rename_i c r
    cases hm : natOf (c :: r) 0 with
    | none => rw [hm] at h; cases h
    | some m =>
    rw [hm] at h
    cases h
    obtain ⟨h1, h2⟩ := natOf_digits _ _ _ hm
    subst h2
    exact intText_neg (x := strS (45 :: c :: r)) (cs := c :: r) (strS_list _) h1 (by simp) (by rw [strS_len]; omega)
  · rename_i c r _
    cases hm : natOf (c :: r) 0 with
    | none => rw [hm] at h; cases h
    | some m =>
    rw [hm] at h
    cases h
    obtain ⟨h1, h2⟩ := natOf_digits _ _ _ hm
    subst h2
    have := intText_digits (x := strS (c :: r)) (by rw [strS_list]; exact h1) (by rw [strS_list]; simp) (by rw [strS_len]; omega)
    rw [strS_list] at this
    exact this
theorem bi_int : CallR X (.type "int") (rBi g P cl .int1) := by
  intro pins s σ H xs us Q I r h
  obtain ⟨x, rfl, p, d, rfl, ok, hd, hp⟩ := rBi_one (fun _ => rfl) (fun _ _ _ => rfl) h
  have hp : Post g NoX p (biInt d p.S) (EndV g Q) := hp
  cases d with
  | int i =>
    cases hd
    exact call_int1 pins s σ p.H _ us Q I r (.inl ⟨i, rfl, hp.ok rfl ok _ rfl⟩)
  | bl b =>
    cases hd
    exact call_int1 pins s σ p.H _ us Q I r (.inr ⟨b, rfl, hp.ok rfl ok _ rfl⟩)
  | str z =>
    obtain ⟨e, hz⟩ := hd
    subst e
    simp only [biInt] at hp
    by_cases hl : z.length ≤ 600
    · rw [if_pos hl] at hp
      obtain ⟨a, ha, hq⟩ := hp.lift rfl ok
      obtain ⟨i, hi, ea⟩ := Option.map_eq_some_iff.mp ha
      subst ea
      exact call_int_str pins s σ p.H _ us Q I r ⟨_, i, rfl, intOf_text hi hl, by rw [strS_len]; omega, hq _ rfl⟩
    · rw [if_neg hl] at hp
      exact False.elim hp
  | _ => exact False.elim hp
/-! dict -/
theorem putK_ne {qa q : Key} {ua w : V} {rk : List (Key × V)} (h : qa ≠ q) : putK ((qa, ua) :: rk) q w = (qa, ua) :: putK rk q w := by
  unfold putK
  simp only [List.any_cons, decide_eq_false h, Bool.false_or, List.map_cons, if_neg h]
  split
  · rfl
  · rfl
theorem putK_eq {q : Key} {ua w : V} {rk : List (Key × V)} (h : q ∉ rk.map (·.1)) : putK ((q, ua) :: rk) q w = (q, w) :: rk := by
  unfold putK
  simp only [List.any_cons, decide_true, Bool.true_or, if_true, List.map_cons]
  congr 1
  conv => rhs; rw [← List.map_id rk]
  refine List.map_congr_left fun x hx => ?_
  rw [if_neg fun e => h (List.mem_map.mpr ⟨x, hx, e⟩)]
  rfl
theorem putK_keys {q : Key} {w : V} : ∀ {rk : List (Key × V)}, (rk.map (·.1)).Nodup → ((putK rk q w).map (·.1)).Nodup ∧ ∀ x, x ∈ (putK rk q w).map (·.1) → x = q ∨ x ∈ rk.map (·.1)
  | [], _ => by simp [putK]
  | (qa, ua) :: rk, h => by
    have h1 : qa ∉ rk.map (·.1) := (List.nodup_cons.mp h).1
    have h2 : (rk.map (·.1)).Nodup := (List.nodup_cons.mp h).2
    by_cases e : qa = q
    · subst e
      rw [putK_eq h1]
      exact ⟨h, fun x hx => .inr hx⟩
    · rw [putK_ne e]
      obtain ⟨h3, h4⟩ := putK_keys (q := q) (w := w) h2
      refine ⟨List.nodup_cons.mpr ⟨fun hx => ?_, h3⟩, fun x hx => ?_⟩
      · rcases h4 _ hx with z | z
        · exact e z
        · exact h1 z
      · rcases List.mem_cons.mp hx with z | z
        · exact .inr (by rw [z]; exact List.mem_cons_self)
        · rcases h4 x z with y | y
          · exact .inl y
          · exact .inr (List.mem_cons_of_mem _ y)
theorem RK.put {p : Pl} {k v : D} {q : Key} {w : V} (hk : keyOf k = some q) (hv : RV g p v w) : ∀ {acc : List (D × D)} {ka : List (Key × V)}, RK g p acc ka → (ka.map (·.1)).Nodup → RK g p (dicPut k v acc) (putK ka q w)
  | [], ka, r, _ => by
    have e : ka = [] := r
    subst e
    exact ⟨q, w, [], rfl, hk, hv, rfl⟩
  | (a, u) :: l, ka, r, nd => by
    obtain ⟨qa, ua, rk, e, ha, hu, t⟩ := r
    subst e
    have h1 : qa ∉ rk.map (·.1) := (List.nodup_cons.mp nd).1
    have h2 : (rk.map (·.1)).Nodup := (List.nodup_cons.mp nd).2
    simp only [dicPut]
    by_cases e : a = k
    · rw [if_pos e]
      subst e
      rw [ha] at hk
      cases hk
      rw [putK_eq h1]
      exact ⟨_, w, rk, rfl, ha, hv, t⟩
    · rw [if_neg e, putK_ne fun z => e (keyOf_inj ha (by rw [z]; exact hk))]
      exact ⟨qa, ua, _, rfl, ha, hu, RK.put hk hv t h2⟩
theorem dicOf_ok {p : Pl} (ok : Ok g p) : ∀ {l : List D} {acc kvs : List (D × D)} {xs : List V} {ka : List (Key × V)}, dicOf l acc = some kvs → RVs g p l xs → RK g p acc ka → (ka.map (·.1)).Nodup →
    ∃ (ps : List Addr) (kv : List (Key × V)), xs = ps.map V.ref ∧ Paired (fun a kv => SqT g.K p.H a [kV kv.1, kv.2]) ps kv ∧ RK g p kvs (mergeK ka kv) ∧ ((mergeK ka kv).map (·.1)).Nodup
  | [], acc, kvs, xs, ka, h, r, hk, nd => by
    cases h
    have e : xs = [] := r
    subst e
    exact ⟨[], [], rfl, .nil, hk, nd⟩
  | d :: l, acc, kvs, xs, ka, h, r, hk, nd => by
    obtain ⟨v, w, e, hv, t⟩ := r
    subst e
    unfold dicOf at h
    split at h
    · cases ‹_ :: _ = []›
    · rename_i k x r' acc' heq
      cases heq
      split at h
      · rename_i hkey
        obtain ⟨a, ys, ev, sx, ry⟩ := hv
        obtain ⟨yk, yv, ey, rk1, rv1⟩ := ry.two
        subst ey ev
        obtain ⟨q, hq⟩ := keyOf_of hkey
        have ek := key_rv hq rk1
        subst ek
        obtain ⟨ps, kv, h1, h2, h3, h4⟩ := dicOf_ok ok h t (RK.put hq rv1 hk nd) (putK_keys nd).1
        exact ⟨a :: ps, (q, yv) :: kv, by rw [h1]; rfl, .cons sx.sqT h2, h3, h4⟩
      · cases h
    · cases h
theorem bi_dict (hc : X.calm = true) (hK : X.K = g.K) : CallR X (.type "dict") (rBi g P cl .dict1) := by
  intro pins s σ H xs us Q I r h
  obtain ⟨x, rfl, p, d, rfl, ok, hd, hp⟩ := rBi_one (fun _ => rfl) (fun _ _ _ => rfl) h
  have hp : Post g NoX p (biDict d p.S) (EndV g Q) := hp
  unfold biDict at hp
  cases h1 : itemsOf p.S d with
  | none => rw [h1] at hp; exact False.elim hp
  | some l =>
    simp only [h1] at hp
    cases h2 : dicOf l [] with
    | none => rw [h2] at hp; exact False.elim hp
    | some kvs =>
      simp only [h2] at hp
      obtain ⟨a, ys, e, _, rv, hs⟩ := itemsOf_ok ok h1 hd
      subst e
      obtain ⟨ps, kv, e1, e2, e3, e4⟩ := dicOf_ok (ka := []) ok h2 rv rfl .nil
      subst e1
      refine cr_dictX hc pins s σ p.H _ us Q I r ⟨a, ps, kv, rfl, ?_, by rw [hK]; exact e2, fun c hcn => ?_⟩
      · rw [hK]
        rcases hs with ⟨n, _, hs⟩ | ⟨_, hs⟩
        · exact .inl hs
        · exact .inr hs
      · obtain ⟨q, f1, f2, f3, nx, okq⟩ := ok.add (o := .dic kvs) (u := .dK (mergeK [] kv)) hcn (fun q f1 f2 f3 f4 nx => ⟨_, by rw [f1]; exact upd_same, e3.nx nx ok, e4⟩)
        rw [← f2]
        exact hp q f1 nx okq _ ⟨by rw [f1]; simp, by rw [f3]⟩
/-! isinstance -/
theorem ty_ok {p : Pl} (ok : Ok g p) {d : D} {v : V} {a : String ⊕ Nat} (h : tyOf p.S d = some a) (r : RV g p d v) (hi : ∀ k, a = .inr k → InsTy g.K (g.ad k)) : TyX g.K p.H v (tyVal g a) := by
  cases d with
  | non => cases h; cases r; exact .base .non
  | bl b => cases h; cases r; exact .base (.bl b)
  | int i => cases h; cases r; exact .base (.int i)
  | str z => cases h; obtain ⟨e, _⟩ := r; subst e; exact .base (.str _)
  | tup l =>
    cases h
    obtain ⟨b, xs, e, sx, _⟩ := r
    subst e
    rcases sx with ⟨o, sx, _⟩ | ⟨o, its, n, h1, h2, _⟩
    · exact .fTuple sx
    · exact .kTuple h1 h2.1
  | loc n =>
    obtain ⟨_, e⟩ := r
    subst e
    simp only [tyOf] at h
    cases hn : p.S[n]? with
    | none => rw [hn] at h; cases h
    | some o =>
      rw [hn] at h
      have ro := ok.ob n o hn
      cases o with
      | lst l =>
        cases h
        obtain ⟨xs, h1, _⟩ := ro
        exact .base (.lst h1)
      | fls l =>
        cases h
        obtain ⟨xs, h1 | ⟨o, its, m, h1, h2, _⟩, _⟩ := ro
        · obtain ⟨o, h1⟩ := h1
          exact .base (.frz h1)
        · exact .kList h1 h2
      | dic kvs =>
        cases h
        obtain ⟨ks, h1, _⟩ := ro
        exact .base (.dK h1)
      | ins c fs =>
        cases h
        obtain ⟨dx, gs, h1, _⟩ := ro
        have z := hi c rfl
        exact .base (.ins h1 z.cl z.f1 z.f2 z.f3 z.f4)
      | exn c fs => cases h
  | glo k => cases h
  | ty n => cases h
theorem clsV_ok (t : Ty) : ClsV (t.v g) (t.val g) := by
  cases t <;> first | exact .ty _ | exact .own _
theorem isTy_ok (hK : X.K = g.K) (Z : Sta g P) {p : Pl} (ok : Ok g p) {d : D} {v : V} {t : Ty} {b : Bool} (h : isTy P p.S d t = some b) (r : RV g p d v) : ∃ u, TyX X.K p.H v u ∧ PySem.W.kitOne X.K u (t.val g) = some b := by
  unfold isTy at h
  cases h1 : tyOf p.S d with
  | none => rw [h1] at h; cases h
  | some a =>
    rw [h1] at h
    obtain ⟨h2, h3⟩ := Z.ask a t b h
    exact ⟨tyVal g a, by rw [hK]; exact ty_ok ok h1 r h3, by rw [hK]; exact h2⟩
def rIs1 (g : Gs) (P : Prg) (t : Ty) : List V → Hp → VK → Prop := fun xs H Q => ∃ x p d b, xs = [x, t.v g] ∧ p.H = H ∧ Ok g p ∧ RV g p d x ∧ isTy P p.S d t = some b ∧ Q (.bl b) H
theorem bi_is1 (hK : X.K = g.K) (Z : Sta g P) (t : Ty) : CallR X (.builtin "isinstance") (rIs1 g P t) := by
  intro pins s σ H xs us Q I r h
  obtain ⟨x, p, d, b, rfl, rfl, ok, hd, hb, q⟩ := h
  obtain ⟨u, h1, h2⟩ := isTy_ok hK Z ok hb hd
  exact call_isi pins s σ p.H _ us Q I r ⟨x, _, u, _, b, rfl, clsV_ok t, h1, h2, q⟩
def rIsT (g : Gs) (P : Prg) (ts : List Ty) : List V → Hp → VK → Prop := fun xs H Q => ∃ x tp p d b, xs = [x, .ref tp] ∧ p.H = H ∧ H tp = some (.tup (ts.map (Ty.v g))) ∧ Ok g p ∧ RV g p d x ∧ isAny P p.S d ts = some b ∧ (∃ t, isTy P p.S d t ≠ none) ∧ Q (.bl b) H
theorem kitAny_ok (hK : X.K = g.K) (Z : Sta g P) {p : Pl} (ok : Ok g p) {d : D} {v : V} (r : RV g p d v) : ∀ {ts : List Ty} {b : Bool} {a : String ⊕ Nat}, isAny P p.S d ts = some b → tyOf p.S d = some a → PySem.W.kitAny X.K (tyVal g a) (ts.map (Ty.val g)) = some b
  | [], b, a, h, ha => by
    cases h
    rfl
  | t :: ts, b, a, h, ha => by
    simp only [isAny] at h
    cases h1 : isTy P p.S d t with
    | none => rw [h1] at h; cases h
    | some c =>
      rw [h1] at h
      have h2 : P.ask a t = some c := by
        unfold isTy at h1
        rw [ha] at h1
        exact h1
      have h3 : PySem.W.kitOne X.K (tyVal g a) (t.val g) = some c := by rw [hK]; exact (Z.ask a t c h2).1
      refine kitAny_cons h3 (fun e => ?_) (fun e => ?_)
      · subst e
        exact kitAny_ok hK Z ok r h ha
      · subst e
        exact (Option.some.inj h).symm
theorem bi_isT (hK : X.K = g.K) (Z : Sta g P) (ts : List Ty) : CallR X (.builtin "isinstance") (rIsT g P ts) := by
  intro pins s σ H xs us Q I r h
  obtain ⟨x, tp, p, d, b, rfl, rfl, ht, ok, hd, hb, ⟨t, hne⟩, q⟩ := h
  cases ha : tyOf p.S d with
  | none =>
    exfalso
    apply hne
    unfold isTy
    rw [ha]
  | some a =>
    have h3 : ∀ k, a = .inr k → InsTy g.K (g.ad k) := by
      cases hc : isTy P p.S d t with
      | none => exact absurd hc hne
      | some c =>
        unfold isTy at hc
        rw [ha] at hc
        exact (Z.ask a t c hc).2
    have hp : Paired ClsV (ts.map (Ty.v g)) (ts.map (Ty.val g)) := by
      clear hb ht r
      induction ts with
      | nil => exact .nil
      | cons t ts ih => exact .cons (clsV_ok t) ih
    exact call_isiT pins s σ p.H _ us Q I r ⟨x, tp, _, tyVal g a, _, b, rfl, ht, hp, by rw [hK]; exact ty_ok ok ha hd h3, kitAny_ok hK Z ok hd hb ha, q⟩
end
end Mi
set_option maxRecDepth 100000
set_option maxHeartbeats 1000000
/-! S9: methods of Python's types. -/
namespace Mi
open PySem PySem.Spec PyProof.Rows L2
def rMb (g : Gs) (m : Mb) : V → List V → Hp → VK → Prop := fun x xs H Q => ∃ p o ds, p.H = H ∧ Ok g p ∧ RV g p o x ∧ RVs g p ds xs ∧ Post g NoX p (mbE m o ds p.S) (EndV g Q)
theorem rMb_one {g : Gs} {m : Mb} (h0 : m ≠ .pop0) (h2 : m ≠ .get2) {x : V} {xs : List V} {H : Hp} {Q : VK} (h : rMb g m x xs H Q) : ∃ p o d y, xs = [y] ∧ p.H = H ∧ Ok g p ∧ RV g p o x ∧ RV g p d y ∧ Post g NoX p (mb1 m o d p.S) (EndV g Q) := by
  obtain ⟨p, o, ds, rfl, ok, ho, hd, hp⟩ := h
  match ds, hd, hp with
  | [], hd, hp =>
    exfalso
    cases m <;> first | exact h0 rfl | exact hp
  | [d], hd, hp =>
    obtain ⟨y, e, hy⟩ := hd.one
    exact ⟨p, o, d, y, e, rfl, ok, ho, hy, hp⟩
  | [d, e], hd, hp =>
    exfalso
    cases m <;> first | exact h2 rfl | exact hp
  | _ :: _ :: _ :: _, hd, hp => exact False.elim hp
/-- a list of the store is written anew -/
theorem end_put {g : Gs} {p : Pl} {Q : VK} {n : Nat} {l l' : List D} {xs' : List V} {d : D} {v : V} (ok : Ok g p) (hn : p.S[n]? = some (.lst l)) (h : Post g NoX p (.ok d (p.S.set n (.lst l'))) (EndV g Q)) (r : RVs g p l' xs') (hv : RV g p d v) : Q v (upd p.H (p.ρ n) (.lst xs')) := by
  obtain ⟨q, e1, e2, e3, nx, okq⟩ := ok.put (o' := .lst l') (u := .lst xs') hn rfl rfl (fun q e1 e2 e3 nx => ⟨xs', by rw [e1]; exact upd_same, r.nx nx ok⟩) (fun q e1 e2 e3 => Nx.put ok hn rfl rfl e1 e2 e3)
  rw [← e2]
  exact h q e1 nx okq v (hv.nx nx ok)
section
variable {X : Cx} {g : Gs}
theorem mt_appendM : MtR X "list.append" (rMb g .append) := by
  intro pins s σ H x xs v us Q I rx r h
  obtain ⟨p, o, d, y, rfl, rfl, ok, ho, hd, hp⟩ := rMb_one (by simp) (by simp) h
  have hp : Post g NoX p (mbAppend o d p.S) (EndV g Q) := hp
  cases o with
  | loc n =>
    obtain ⟨_, e⟩ := ho
    subst e
    simp only [mbAppend] at hp
    cases hn : p.S[n]? with
    | none => rw [hn] at hp; exact False.elim hp
    | some o =>
      rw [hn] at hp
      cases o with
      | lst l =>
        simp only at hp
        by_cases hz : l.length < szl
        · rw [if_pos hz] at hp
          obtain ⟨ws, h1, h2⟩ := ok.lstAt hn
          exact mt_append pins s σ p.H _ _ v us Q I rx r ⟨_, ws, y, rfl, rfl, h1, by rw [← h2.len, ← szl_eq]; exact hz, end_put ok hn hp (h2.append ⟨_, _, rfl, hd, rfl⟩) rfl⟩
        · rw [if_neg hz] at hp
          exact False.elim hp
      | _ => exact False.elim hp
  | _ => exact False.elim hp
theorem RVs.dropLast {p : Pl} {l : List D} {xs : List V} (r : RVs g p l xs) : RVs g p l.dropLast xs.dropLast := by
  rw [List.dropLast_eq_take, List.dropLast_eq_take, r.len]
  exact r.take _
theorem RVs.eraseIdx {p : Pl} {l : List D} {xs : List V} (r : RVs g p l xs) (k : Nat) : RVs g p (l.eraseIdx k) (xs.eraseIdx k) := by
  rw [List.eraseIdx_eq_take_drop_succ, List.eraseIdx_eq_take_drop_succ]
  exact (r.take _).append (r.drop _)
theorem mt_pop0M : MtR X "list.pop" (rMb g .pop0) := by
  intro pins s σ H x xs v us Q I rx r h
  obtain ⟨p, o, ds, rfl, ok, ho, hd, hp⟩ := h
  match ds, hd, hp with
  | [], hd, hp =>
    have e : xs = [] := hd
    subst e
    have hp : Post g NoX p (mbPop0 o p.S) (EndV g Q) := hp
    cases o with
    | loc n =>
      obtain ⟨_, e⟩ := ho
      subst e
      simp only [mbPop0] at hp
      cases hn : p.S[n]? with
      | none => rw [hn] at hp; exact False.elim hp
      | some o =>
        rw [hn] at hp
        cases o with
        | lst l =>
          simp only at hp
          cases hl : l.getLast? with
          | none => rw [hl] at hp; exact False.elim hp
          | some d =>
            rw [hl] at hp
            obtain ⟨ws, h1, h2⟩ := ok.lstAt hn
            have hl2 : l[l.length - 1]? = some d := by rw [← hl, List.getLast?_eq_getElem?]
            obtain ⟨w, h3, h4⟩ := h2.get _ d hl2
            rw [h2.len] at h3
            exact mt_pop pins s σ p.H _ _ v us Q I rx r ⟨_, ws, w, rfl, rfl, h1, h3, end_put ok hn hp h2.dropLast h4⟩
        | _ => exact False.elim hp
    | _ => exact False.elim hp
  | [d], hd, hp => exact False.elim hp
  | [d, e], hd, hp => exact False.elim hp
  | _ :: _ :: _ :: _, hd, hp => exact False.elim hp
theorem mt_pop1M : MtR X "list.pop" (rMb g .pop1) := by
  intro pins s σ H x xs v us Q I rx r h
  obtain ⟨p, o, d, y, rfl, rfl, ok, ho, hd, hp⟩ := rMb_one (by simp) (by simp) h
  have hp : Post g NoX p (mbPop1 o d p.S) (EndV g Q) := hp
  cases o with
  | loc n =>
    obtain ⟨_, e⟩ := ho
    subst e
    simp only [mbPop1] at hp
    cases hn : p.S[n]? with
    | none => rw [hn] at hp; exact False.elim hp
    | some o =>
      rw [hn] at hp
      cases o with
      | lst l =>
        cases d with
        | int i =>
          cases hd
          simp only at hp
          by_cases hz : 0 ≤ i ∧ i < 2 ^ 62
          · rw [if_pos hz] at hp
            cases hl : l[i.toNat]? with
            | none => rw [hl] at hp; exact False.elim hp
            | some d =>
              rw [hl] at hp
              obtain ⟨ws, h1, h2⟩ := ok.lstAt hn
              obtain ⟨w, h3, h4⟩ := h2.get _ d hl
              have lt := (List.getElem?_eq_some_iff.mp h3).1
              refine mt_popAt pins s σ p.H _ _ v us Q I rx r ⟨_, ws, i, i.toNat, w, rfl, rfl, h1, by omega, by omega, ?_, h3, end_put ok hn hp (h2.eraseIdx _) h4⟩
              unfold seqIndex?
              have c : (decide (0 ≤ i) && decide (i < (ws.length : Int))) = true := by
                simp
                omega
              simp only [if_neg (show ¬ i < 0 by omega), c, if_true]
          · rw [if_neg hz] at hp
            exact False.elim hp
        | _ => exact False.elim hp
      | _ => exact False.elim hp
  | _ => exact False.elim hp
end
/-- what a method is of, as the rules ask it -/
theorem mbOk_list {X : Cx} {g : Gs} {p : Pl} (hK : X.K = g.K) (ok : Ok g p) {m : Mb} {o : D} {v : V} (hm : m.ty = "list") (h : mbOk m o p.S = true) (r : RV g p o v) : tyV X.K "list" v p.H := by
  unfold mbOk at h
  rw [hm] at h
  cases o with
  | loc n =>
    obtain ⟨_, e⟩ := r
    subst e
    simp only [tyOf] at h
    cases hn : p.S[n]? with
    | none => rw [hn] at h; cases h
    | some ob =>
      rw [hn] at h
      cases ob with
      | lst l =>
        obtain ⟨ws, h1, h2⟩ := ok.seqAt (.inl hn)
        exact .inl ⟨rfl, ws, by rw [hK]; exact h1⟩
      | fls l =>
        obtain ⟨ws, h1, h2⟩ := ok.seqAt (.inr hn)
        exact .inl ⟨rfl, ws, by rw [hK]; exact h1⟩
      | dic kvs => simp at h
      | ins c fs => simp at h
      | exn c fs => simp at h
  | glo k => simp [tyOf] at h
  | ty n => simp [tyOf] at h
  | _ => simp [tyOf] at h
end Mi
set_option maxRecDepth 100000
set_option maxHeartbeats 1000000
/-! S10: what is walked. -/
namespace Mi
open PySem PySem.Spec PyProof.Rows L2
def notStar : Expr → Bool
  | .Starred .. => false
  | _ => true
theorem star_cons {e : Expr} (h : notStar e = true) (es : List Expr) (env : PySem.Env) : starEach (e :: es) env = (false, eval e env) :: starEach es env := by
  cases e <;> first | rfl | cases h
theorem star_any {pos : Pos} {env : PySem.Env} : ∀ {es : List Expr}, es.all notStar = true → ((backTo pos (starEach es env)).any fun x => x.1) = false
  | [], _ => rfl
  | e :: es, h => by
    simp only [List.all_cons, Bool.and_eq_true] at h
    rw [star_cons h.1]
    have := star_any (pos := pos) (env := env) h.2
    simpa [backTo] using this
/-- a walk over src from p on -/
def Wk (g : Gs) (J : It) (p : Pl) (src : List D × List (Nat × List D)) : Prop := ∀ q, Nx p q → Ok g q → same q.S src.2 = true →
  (∀ i, i < src.1.length → J.go i q.H) ∧ (∀ i, src.1.length ≤ i → J.stop i q.H) ∧ ∀ i x H' d, src.1[i]? = some d → J.yld i q.H x H' → ∃ q' : Pl, q'.S = q.S ∧ q'.H = H' ∧ Nx q q' ∧ Ok g q' ∧ RV g q' d x
abbrev Src := List D × List (Nat × List D)
/-- the reading of what is walked -/
def iM (g : Gs) (W : WX) (m : Env → Store → R Src) : TI := fun σ H Rr => ∃ (p : Pl) (env : Env), p.H = H ∧ Ok g p ∧ RE g p env σ ∧ Post g (fun c d H => W c d σ H) p (m env p.S) fun q src => ∀ J, Wk g J q src → Rr J q.H
theorem same_cons {S : Store} {n : Nat} {l : List D} {r : List (Nat × List D)} (h : same S ((n, l) :: r) = true) : (S[n]? = some (.lst l) ∨ S[n]? = some (.fls l)) ∧ same S r = true := by
  simp only [same, Bool.and_eq_true] at h
  refine ⟨?_, h.2⟩
  have h1 := h.1
  cases hn : S[n]? with
  | none => rw [hn] at h1; cases h1
  | some o =>
    rw [hn] at h1
    cases o with
    | lst k =>
      have e : k = l := by simpa using h1
      rw [e]; exact .inl rfl
    | fls k =>
      have e : k = l := by simpa using h1
      rw [e]; exact .inr rfl
    | _ => cases h1
section
variable {g : Gs} {p : Pl}
theorem wk_list {n : Nat} {l : List D} (hn : n < p.S.length) : Wk g (Itl g.K (p.ρ n)) p (l, [(n, l)]) := by
  intro q nx ok hs
  obtain ⟨h1, _⟩ := same_cons hs
  obtain ⟨xs, h2, h3⟩ := ok.seqAt h1
  rw [nx.rho n hn] at h2
  refine ⟨fun i hi => ?_, fun i hi => ⟨xs, h2, by rw [← h3.len]; exact hi⟩, fun i x H' d hd hy => ?_⟩
  · obtain ⟨x, hx, _⟩ := h3.get i _ (List.getElem?_eq_getElem hi)
    exact ⟨xs, x, h2, hx⟩
  · obtain ⟨e, hx⟩ := hy
    subst e
    obtain ⟨x', h4, h5⟩ := h3.get i d hd
    rw [hx xs h2] at h4
    cases h4
    exact ⟨q, rfl, rfl, Nx.refl q, ok, h5⟩
theorem wk_tup {a : Addr} {l : List D} {xs : List V} (ok : Ok g p) (hs : SqX g.K p.H a xs) (r : RVs g p l xs) : Wk g (Itt g.K a) p (l, []) := by
  intro q nx okq _
  have h2 : SqT g.K q.H a xs := (nx.sqX ok hs).sqT
  have h3 := r.nx nx ok
  refine ⟨fun i hi => ?_, fun i hi => ⟨xs, h2, by rw [← h3.len]; exact hi⟩, fun i x H' d hd hy => ?_⟩
  · obtain ⟨x, hx, _⟩ := h3.get i _ (List.getElem?_eq_getElem hi)
    exact ⟨xs, x, h2, hx⟩
  · obtain ⟨e, hx⟩ := hy
    subst e
    obtain ⟨x', h4, h5⟩ := h3.get i d hd
    rw [hx xs h2] at h4
    cases h4
    exact ⟨q, rfl, rfl, Nx.refl q, okq, h5⟩
theorem wk_str {s : List Nat} (hs : okS s = true) : Wk g (Its (strS s)) p (s.map fun c => .str [c], []) := by
  intro q nx ok _
  refine ⟨fun i hi => by simpa [Its, strS] using hi, fun i hi => by simpa [Its, strS] using hi, fun i x H' d hd hy => ?_⟩
  obtain ⟨e, c, hc, ex⟩ := hy
  subst e ex
  have hc : s[i]? = some c := by simpa [strS] using hc
  have e : d = .str [c] := by
    rw [List.getElem?_map, hc] at hd
    exact (Option.some.inj hd).symm
  subst e
  exact ⟨q, rfl, rfl, Nx.refl q, ok, rfl, okS_mem hs (List.mem_of_getElem? hc)⟩
theorem wk_rng (lo hi : Int) : Wk g (Itr lo (hi - lo).toNat) p (rangeL lo hi, []) := by
  intro q nx ok _
  have hl : (rangeL lo hi).length = (hi - lo).toNat := by simp [rangeL]
  refine ⟨fun i h => ?_, fun i h => ?_, fun i x H' d hd hy => ?_⟩
  · rw [hl] at h; exact h
  · rw [hl] at h; exact h
  · obtain ⟨e, ex⟩ := hy
    subst e ex
    have e : d = .int (lo + i) := by
      unfold rangeL at hd
      rw [List.getElem?_map] at hd
      obtain ⟨j, hj, e⟩ := Option.map_eq_some_iff.mp hd
      rw [List.getElem?_range] at hj
      · cases hj; exact e.symm
      · have := (List.getElem?_eq_some_iff.mp hj).1
        simpa using this
    subst e
    exact ⟨q, rfl, rfl, Nx.refl q, ok, rfl⟩
/-- the items at a value, as a list or a tuple -/
theorem seqD_ok {d : D} {v : V} {src : Src} (ok : Ok g p) (h : seqD p.S d = some src) (r : RV g p d v) : ∃ a k xs, v = .ref a ∧ SqK g.K k p.H a xs ∧ ∀ q, Nx p q → Ok g q → same q.S src.2 = true → ∃ ys, SqK g.K k q.H a ys ∧ RVs g q src.1 ys := by
  cases d with
  | tup l =>
    cases h
    obtain ⟨a, xs, e, sx, rv⟩ := r
    exact ⟨a, true, xs, e, sx.sqT, fun q nx okq _ => ⟨xs, (nx.sqX ok sx).sqT, rv.nx nx ok⟩⟩
  | loc n =>
    obtain ⟨hn, e⟩ := r
    simp only [seqD] at h
    have key : ∀ l : List D, (p.S[n]? = some (.lst l) ∨ p.S[n]? = some (.fls l)) → src = (l, [(n, l)]) → ∃ a k xs, v = .ref a ∧ SqK g.K k p.H a xs ∧ ∀ q, Nx p q → Ok g q → same q.S src.2 = true → ∃ ys, SqK g.K k q.H a ys ∧ RVs g q src.1 ys := fun l hl es => by
      subst es
      obtain ⟨xs, h1, h2⟩ := ok.seqAt hl
      refine ⟨_, false, xs, e, h1, fun q nx okq hs => ?_⟩
      obtain ⟨h3, _⟩ := same_cons hs
      obtain ⟨ys, h4, h5⟩ := okq.seqAt h3
      rw [nx.rho n hn] at h4
      exact ⟨ys, h4, h5⟩
    cases hS : p.S[n]? with
    | none => rw [hS] at h; cases h
    | some o =>
      rw [hS] at h
      cases o with
      | lst l => cases h; exact key l (.inl hS) rfl
      | fls l => cases h; exact key l (.inr hS) rfl
      | _ => cases h
  | _ => cases h
theorem enumL_get : ∀ (l : List D) (k i : Nat), (enumL k l)[i]? = (l[i]?).map fun d => .tup [.int ((k + i : Nat) : Int), d]
  | [], k, i => by simp [enumL]
  | d :: l, k, 0 => by simp [enumL]
  | d :: l, k, i + 1 => by
    simp only [enumL, List.getElem?_cons_succ]
    rw [enumL_get l (k + 1) i, Nat.add_assoc, Nat.add_comm 1 i]
theorem enumL_len : ∀ (l : List D) (k : Nat), (enumL k l).length = l.length
  | [], _ => rfl
  | d :: l, k => by simp [enumL, enumL_len l (k + 1)]
theorem zipL_len : ∀ (l m : List D), (zipL l m).length = min l.length m.length
  | [], m => by simp [zipL]
  | a :: l, [] => by simp [zipL]
  | a :: l, b :: m => by simp [zipL, zipL_len l m]
theorem zipL_get : ∀ (l m : List D) (i : Nat) (d : D), (zipL l m)[i]? = some d → ∃ a b, l[i]? = some a ∧ m[i]? = some b ∧ d = .tup [a, b]
  | [], m, i, d, h => by simp [zipL] at h
  | a :: l, [], i, d, h => by simp [zipL] at h
  | a :: l, b :: m, 0, d, h => by
    simp [zipL] at h
    exact ⟨a, b, rfl, rfl, h.symm⟩
  | a :: l, b :: m, i + 1, d, h => by
    simp only [zipL, List.getElem?_cons_succ] at h
    obtain ⟨x, y, h1, h2, h3⟩ := zipL_get l m i d h
    exact ⟨x, y, by simpa using h1, by simpa using h2, h3⟩
/-- a new pair -/
theorem pair_new {q : Pl} {T : Addr} {o : Obj} {a b : D} {x y : V} (ok : Ok g q) (hT : q.H T = none) (ho : TupO o) (ra : RV g q a x) (rb : RV g q b y) : ∃ q' : Pl, q'.S = q.S ∧ q'.H = upd q.H T (.frz o (.tup [x, y])) ∧ Nx q q' ∧ Ok g q' ∧ RV g q' (.tup [a, b]) (.ref T) := by
  obtain ⟨nx, ok'⟩ := ok.grow (a := T) (u := .frz o (.tup [x, y])) hT
  exact ⟨⟨q.ρ, q.S, upd q.H T (.frz o (.tup [x, y]))⟩, rfl, rfl, nx, ok', T, [x, y], rfl, .inl ⟨o, upd_same, ho⟩, x, [y], rfl, ra.nx nx ok, y, [], rfl, rb.nx nx ok, rfl⟩
theorem wk_enum {a : Addr} {k : Bool} {src : Src} (h : ∀ q, Nx p q → Ok g q → same q.S src.2 = true → ∃ ys, SqK g.K k q.H a ys ∧ RVs g q src.1 ys) : Wk g (IteM g.K k a) p (enumL 0 src.1, src.2) := by
  intro q nx ok hs
  obtain ⟨ys, h1, h2⟩ := h q nx ok hs
  refine ⟨fun i hi => ?_, fun i hi => ⟨ys, h1, ?_⟩, fun i x H' d hd hy => ?_⟩
  · rw [enumL_len] at hi
    obtain ⟨x, hx, _⟩ := h2.get i _ (List.getElem?_eq_getElem hi)
    exact ⟨ys, x, h1, hx⟩
  · rw [enumL_len] at hi
    rw [← h2.len]
    exact hi
  · obtain ⟨T, x', o, e, hT, ho, eH, hx⟩ := hy
    subst e eH
    rw [enumL_get] at hd
    obtain ⟨d', hd', e⟩ := Option.map_eq_some_iff.mp hd
    subst e
    obtain ⟨w, h3, h4⟩ := h2.get i d' hd'
    rw [hx ys h1] at h3
    cases h3
    rw [Nat.zero_add]
    exact pair_new ok hT ho rfl h4
theorem wk_zip {a b : Addr} {k j : Bool} {s1 s2 : Src} (h : ∀ q, Nx p q → Ok g q → same q.S s1.2 = true → ∃ ys, SqK g.K k q.H a ys ∧ RVs g q s1.1 ys) (h' : ∀ q, Nx p q → Ok g q → same q.S s2.2 = true → ∃ ys, SqK g.K j q.H b ys ∧ RVs g q s2.1 ys) : Wk g (ItzM g.K k j a b) p (zipL s1.1 s2.1, s1.2 ++ s2.2) := by
  intro q nx ok hs
  have hs2 : same q.S s1.2 = true ∧ same q.S s2.2 = true := by
    have key : ∀ l m : List (Nat × List D), same q.S (l ++ m) = true → same q.S l = true ∧ same q.S m = true := fun l => by
      induction l with
      | nil => intro m h; exact ⟨rfl, h⟩
      | cons x l ih =>
        intro m h
        obtain ⟨n, y⟩ := x
        simp only [List.cons_append, same, Bool.and_eq_true] at h
        obtain ⟨h1, h2⟩ := ih m h.2
        refine ⟨?_, h2⟩
        simp only [same, Bool.and_eq_true]
        exact ⟨h.1, h1⟩
    exact key _ _ hs
  obtain ⟨ys, h1, h2⟩ := h q nx ok hs2.1
  obtain ⟨zs, h3, h4⟩ := h' q nx ok hs2.2
  refine ⟨fun i hi => ?_, fun i hi => ⟨ys, zs, h1, h3, ?_⟩, fun i x H' d hd hy => ?_⟩
  · have hi : i < (zipL s1.1 s2.1).length := hi
    rw [zipL_len] at hi
    obtain ⟨x, hx, _⟩ := h2.get i _ (List.getElem?_eq_getElem (show i < s1.1.length by omega))
    obtain ⟨y, hy, _⟩ := h4.get i _ (List.getElem?_eq_getElem (show i < s2.1.length by omega))
    exact ⟨ys, zs, x, y, h1, h3, hx, hy⟩
  · have hi : (zipL s1.1 s2.1).length ≤ i := hi
    rw [zipL_len] at hi
    rw [← h2.len, ← h4.len]
    omega
  · obtain ⟨T, x', y', o, e, hT, ho, eH, hx, hz⟩ := hy
    subst e eH
    obtain ⟨a', b', g1, g2, e⟩ := zipL_get _ _ i d hd
    subst e
    obtain ⟨w, e1, e2⟩ := h2.get i a' g1
    rw [hx ys h1] at e1
    cases e1
    obtain ⟨w2, e3, e4⟩ := h4.get i b' g2
    rw [hz zs h3] at e3
    cases e3
    exact pair_new ok hT ho e2 e4
end
section
variable {X : Cx} {g : Gs} {W : WX}
theorem Post.case {α β : Type} {W : Value → Option Addr → Hp → Prop} {p : Pl} {r : R α} {k : α → Store → R β} {Kp : Pl → β → Prop} (h : Post g W p (r.bind k) Kp) : (∃ a S, r = .ok a S ∧ Post g W p (k a S) Kp) ∨ (∃ x S, r = .exc x S ∧ ∀ (Kq : Pl → α → Prop), Post g W p r Kq) := by
  cases r with
  | ok a S => exact .inl ⟨a, S, rfl, h⟩
  | exc x S => exact .inr ⟨x, S, rfl, fun _ => h⟩
  | bad => exact False.elim h
/-- what is written as it is: a list, a tuple, a text -/
theorem pi_valM (hK : X.K = g.K) {tg e : Expr} {m : Env → Store → R D} (he : PE X e (tM g W m)) : PI X tg e (iM g W fun env S => (m env S).bind fun d S => lift (walkD S d) S) := by
  refine ⟨fun pins s σ H Rr I hw => ?_⟩
  obtain ⟨p, env, rfl, ok, re, hp⟩ := hw
  rcases hp.case with ⟨d, S, hm, hp⟩ | ⟨x, S, hm, hp⟩
  · cases hw : walkD S d with
    | none => simp only [hw] at hp; exact False.elim hp
    | some src =>
      simp only [hw] at hp
      have into : ∀ (t : VK), (∀ (q : Pl) (v : V), Nx p q → Ok g q → q.S = S → RV g q d v → (∀ J, Wk g J q src → Rr J q.H) → t v q.H) → tM g W m σ p.H t := fun t ht => ⟨p, env, rfl, ok, re, by
        rw [hm]
        intro q e nx okq v hv
        exact ht q v nx okq e hv (hp q e nx okq)⟩
      cases d with
      | tup l =>
        cases hw
        refine (pi_tup he).run pins s σ p.H Rr I (into _ fun q v nx okq e hv hk => ?_)
        obtain ⟨a, xs, e2, sx, rv⟩ := hv
        exact ⟨a, e2, ⟨xs, by rw [hK]; exact sx.sqT⟩, hk _ (by rw [hK]; exact wk_tup okq sx rv)⟩
      | str z =>
        cases hw
        refine (pi_str he).run pins s σ p.H Rr I (into _ fun q v nx okq e hv hk => ?_)
        exact ⟨strS z, hv.1, hk _ (wk_str hv.2)⟩
      | loc n =>
        refine (pi_list he).run pins s σ p.H Rr I (into _ fun q v nx okq e hv hk => ?_)
        obtain ⟨hn, e2⟩ := hv
        subst e
        have key : ∀ l : List D, (q.S[n]? = some (.lst l) ∨ q.S[n]? = some (.fls l)) → src = (l, [(n, l)]) → ∃ a, v = .ref a ∧ (∃ xs, SqL X.K q.H a xs) ∧ Rr (Itl X.K a) q.H := fun l hl es => by
          subst es
          obtain ⟨xs, h1, h2⟩ := okq.seqAt hl
          exact ⟨_, e2, ⟨xs, by rw [hK]; exact h1⟩, hk _ (by rw [hK]; exact wk_list hn)⟩
        simp only [walkD] at hw
        cases hS : q.S[n]? with
        | none => rw [hS] at hw; cases hw
        | some o =>
          rw [hS] at hw
          cases o with
          | lst l => cases hw; exact key l (.inl hS) rfl
          | fls l => cases hw; exact key l (.inr hS) rfl
          | _ => cases hw
      | _ => cases hw
  · exact (pi_list he).run pins s σ p.H Rr I ⟨p, env, rfl, ok, re, hp _⟩
/-- the arguments of a call, one, two -/
theorem pa1 {e : Expr} {m : Env → Store → R D} (hs : notStar e = true) (he : PE X e (tM g W m)) : PA X [e] (tMA g W fun env S => (m env S).bind fun d S => .ok [d] S) := by
  refine PA.imp (pa_cons he pa_nil (star_cons hs _ _)) fun σ H Q h => ?_
  obtain ⟨p, env, rfl, ok, re, hp⟩ := h
  refine ⟨p, env, rfl, ok, re, hp.bind.mono fun q d nx okq hk v hv => ?_⟩
  exact hk.ok rfl okq _ ⟨v, [], rfl, hv, rfl⟩
theorem pa2 {e f : Expr} {m m' : Env → Store → R D} (hs : notStar e = true) (hs' : notStar f = true) (he : PE X e (tM g W m)) (hf : PE X f (tM g W m')) : PA X [e, f] (tMA g W fun env S => (m env S).bind fun d S => (m' env S).bind fun d' S => .ok [d, d'] S) := by
  refine PA.imp (pa_cons he (pa_cons hf pa_nil (star_cons hs' _ _)) (star_cons hs _ _)) fun σ H Q h => ?_
  obtain ⟨p, env, rfl, ok, re, hp⟩ := h
  refine ⟨p, env, rfl, ok, re, hp.bind.mono fun q d nx okq hk v hv => ?_⟩
  refine ⟨q, env, rfl, okq, re.nx nx ok, hk.bind.mono fun q2 d2 nx2 ok2 hk2 v2 hv2 => ?_⟩
  exact hk2.ok rfl ok2 _ ⟨v, [v2], rfl, hv.nx nx2 okq, v2, [], rfl, hv2, rfl⟩
theorem pi_rng1M {tg a : Expr} {p pos : Pos} {m : Env → Store → R D} (hg : Gl X (PySem.Str.ofString "range")) (hm : X.mg (PySem.Str.ofString "range") = none) (hs : notStar a = true) (ha : PE X a (tM g W m)) :
    PI X tg (.Call (.Name (PySem.Str.ofString "range") p) [a] [] pos) (iM g W fun env S => (m env S).bind fun d S => match d with
      | .int i => if -(2 ^ 61) ≤ i ∧ i < 2 ^ 61 then .ok (rangeL 0 i, []) S else .bad
      | _ => .bad) := by
  refine ⟨fun pins s σ H Rr I hw => (pi_range1 (tg := tg) (p := p) (pos := pos) hg hm (pa1 hs ha) (by rw [star_cons hs]; rfl)).run pins s σ H Rr I ?_⟩
  obtain ⟨p, env, rfl, ok, re, hp⟩ := hw
  refine ⟨p, env, rfl, ok, re, ?_⟩
  rcases hp.case with ⟨d, S, hm, hp⟩ | ⟨x, S, hm, hp⟩
  · show Post g _ p ((m env p.S).bind _) _
    rw [hm]
    intro q e nx okq vs hv
    obtain ⟨v, ev, hv1⟩ := hv.one
    subst ev
    cases d with
    | int i =>
      simp only at hp
      by_cases hz : -(2 ^ 61) ≤ i ∧ i < 2 ^ 61
      · rw [if_pos hz] at hp
        cases hv1
        refine ⟨i, rfl, by omega, by omega, hp q e nx okq _ ?_⟩
        have := wk_rng (g := g) (p := q) 0 i
        rwa [Int.sub_zero] at this
      · rw [if_neg hz] at hp
        exact False.elim hp
    | _ => exact False.elim hp
  · show Post g _ p ((m env p.S).bind _) _
    have := hp (fun _ _ => True)
    rw [hm] at this ⊢
    exact this
theorem pi_rng2M {tg a b : Expr} {p pos : Pos} {m m' : Env → Store → R D} (hg : Gl X (PySem.Str.ofString "range")) (hm : X.mg (PySem.Str.ofString "range") = none) (hs : notStar a = true) (hs' : notStar b = true) (ha : PE X a (tM g W m)) (hb : PE X b (tM g W m')) :
    PI X tg (.Call (.Name (PySem.Str.ofString "range") p) [a, b] [] pos) (iM g W fun env S => (m env S).bind fun d S => (m' env S).bind fun e S => match d, e with
      | .int i, .int j => if -(2 ^ 61) ≤ i ∧ i < 2 ^ 61 ∧ -(2 ^ 61) ≤ j ∧ j < 2 ^ 61 then .ok (rangeL i j, []) S else .bad
      | _, _ => .bad) := by
  refine ⟨fun pins s σ H Rr I hw => (pi_range2 (tg := tg) (p := p) (pos := pos) hg hm (pa2 hs hs' ha hb) (by rw [star_cons hs, star_cons hs']; rfl) (by rw [star_cons hs']; rfl)).run pins s σ H Rr I ?_⟩
  obtain ⟨p, env, rfl, ok, re, hp⟩ := hw
  refine ⟨p, env, rfl, ok, re, ?_⟩
  refine Post.mono (Kp := fun q ds => ∃ d e, ds = [d, e] ∧ Post g (fun c d H => W c d σ H) q (match d, e with
      | .int i, .int j => if -(2 ^ 61) ≤ i ∧ i < 2 ^ 61 ∧ -(2 ^ 61) ≤ j ∧ j < 2 ^ 61 then .ok (rangeL i j, []) q.S else .bad
      | _, _ => .bad) fun q src => ∀ J, Wk g J q src → Rr J q.H) ?_ fun q ds nx okq hk vs hv => ?_
  · show Post g _ p ((m env p.S).bind _) _
    rcases hp.case with ⟨d, S, hm, hp⟩ | ⟨x, S, hm, hp⟩
    · rw [hm]
      show Post g _ p ((m' env S).bind _) _
      rcases hp.case with ⟨e, S2, hm2, hp⟩ | ⟨x, S2, hm2, hp⟩
      · rw [hm2]
        intro q eq nx okq
        refine ⟨d, e, rfl, ?_⟩
        rw [eq]
        exact hp.from nx
      · have := hp (fun _ _ => True)
        rw [hm2] at this ⊢
        exact this
    · have := hp (fun _ _ => True)
      rw [hm] at this ⊢
      exact this
  · obtain ⟨d, e, eds, hk⟩ := hk
    subst eds
    obtain ⟨v, w, ev, hv1, hw1⟩ := hv.two
    subst ev
    cases d with
    | int i =>
      cases e with
      | int j =>
        simp only at hk
        by_cases hz : -(2 ^ 61) ≤ i ∧ i < 2 ^ 61 ∧ -(2 ^ 61) ≤ j ∧ j < 2 ^ 61
        · rw [if_pos hz] at hk
          cases hv1
          cases hw1
          exact ⟨i, j, rfl, ⟨by omega, by omega, by omega, by omega⟩, hk.ok rfl okq _ (wk_rng i j)⟩
        · rw [if_neg hz] at hk
          exact False.elim hk
      | _ => exact False.elim hk
    | _ => exact False.elim hk
theorem pi_enumM (hK : X.K = g.K) {e : Expr} {p pos tpos : Pos} {elts : List Expr} {kk : Nat} {m : Env → Store → R D} (hg : Gl X (PySem.Str.ofString "enumerate")) (hm : X.mg (PySem.Str.ofString "enumerate") = none) (hs : notStar e = true) (he : PE X e (tM g W m)) :
    PI X (.Tuple elts kk tpos) (.Call (.Name (PySem.Str.ofString "enumerate") p) [e] [] pos) (iM g W fun env S => (m env S).bind fun d S => (lift (seqD S d) S).bind fun w S => .ok (enumL 0 w.1, w.2) S) := by
  refine ⟨fun pins s σ H Rr I hw => ?_⟩
  refine Call_ (ld_blt I hg hm boot_enumerate (callWith_type1 (thn ((pa1 hs he).run pos pins s σ H (fun vs H1 => ∃ a k xs, vs = [.ref a] ∧ SqK X.K k H1 a xs ∧ Rr (IteM X.K k a) H1) I ?_) fun us s' hq => ?_) (star_cons hs _ _) rfl)) (by rfl)
  · obtain ⟨p, env, rfl, ok, re, hp⟩ := hw
    refine ⟨p, env, rfl, ok, re, ?_⟩
    show Post g _ p ((m env p.S).bind _) _
    rcases hp.case with ⟨d, S, hm, hp⟩ | ⟨x, S, hm, hp⟩
    · rw [hm]
      intro q e nx okq vs hv
      obtain ⟨v, ev, hv1⟩ := hv.one
      subst ev e
      cases hw : seqD q.S d with
      | none => simp only [hw] at hp; exact False.elim hp
      | some src =>
        simp only [hw] at hp
        obtain ⟨a, k, xs, e, h1, h2⟩ := seqD_ok okq hw hv1
        exact ⟨a, k, xs, by rw [e], by rw [hK]; exact h1, hp q rfl nx okq _ (by rw [hK]; exact wk_enum h2)⟩
    · have := hp (fun _ _ => True)
      rw [hm] at this ⊢
      exact this
  · obtain ⟨vs, H', I', r, a, k, xs, e, h1, h2⟩ := hq
    subst e
    obtain ⟨u, rfl, rx⟩ := vals1 r
    cases rx
    exact enum_pie I' h1 h2
theorem pi_zipM (hK : X.K = g.K) {e f : Expr} {p pos tpos : Pos} {elts : List Expr} {kk : Nat} {m m' : Env → Store → R D} (hg : Gl X (PySem.Str.ofString "zip")) (hm : X.mg (PySem.Str.ofString "zip") = none) (hs : notStar e = true) (hs' : notStar f = true) (he : PE X e (tM g W m)) (hf : PE X f (tM g W m')) :
    PI X (.Tuple elts kk tpos) (.Call (.Name (PySem.Str.ofString "zip") p) [e, f] [] pos) (iM g W fun env S => (m env S).bind fun d S => (m' env S).bind fun e S => (lift (seqD S d) S).bind fun w S => (lift (seqD S e) S).bind fun v S => .ok (zipL w.1 v.1, w.2 ++ v.2) S) := by
  refine ⟨fun pins s σ H Rr I hw => ?_⟩
  refine Call_ (ld_blt I hg hm boot_zip (callWith_type1 (thn ((pa2 hs hs' he hf).run pos pins s σ H (fun vs H1 => ∃ a b k j xs ys, vs = [.ref a, .ref b] ∧ SqK X.K k H1 a xs ∧ SqK X.K j H1 b ys ∧ Rr (ItzM X.K k j a b) H1) I ?_) fun us s' hq => ?_) (star_cons hs _ _) (star_any (by simp [hs'])))) (by rfl)
  · obtain ⟨p, env, rfl, ok, re, hp⟩ := hw
    refine ⟨p, env, rfl, ok, re, ?_⟩
    show Post g _ p ((m env p.S).bind _) _
    rcases hp.case with ⟨d, S, hm, hp⟩ | ⟨x, S, hm, hp⟩
    · rw [hm]
      show Post g _ p ((m' env S).bind _) _
      rcases hp.case with ⟨d2, S2, hm2, hp⟩ | ⟨x, S2, hm2, hp⟩
      · rw [hm2]
        intro q e nx okq vs hv
        obtain ⟨v, w, ev, hv1, hv2⟩ := hv.two
        subst ev e
        cases hw : seqD q.S d with
        | none => simp only [hw] at hp; exact False.elim hp
        | some src =>
          simp only [hw] at hp
          have hp : Post g (fun c d H => W c d σ H) p ((lift (seqD q.S d2) q.S).bind fun v S => .ok (zipL src.1 v.1, src.2 ++ v.2) S) fun q src => ∀ J, Wk g J q src → Rr J q.H := hp
          cases hw2 : seqD q.S d2 with
          | none => simp only [hw2] at hp; exact False.elim hp
          | some src2 =>
            simp only [hw2] at hp
            obtain ⟨a, k, xs, e, h1, h2⟩ := seqD_ok okq hw hv1
            obtain ⟨b, j, ys, e2, h3, h4⟩ := seqD_ok okq hw2 hv2
            exact ⟨a, b, k, j, xs, ys, by rw [e, e2], by rw [hK]; exact h1, by rw [hK]; exact h3, hp q rfl nx okq _ (by rw [hK]; exact wk_zip h2 h4)⟩
      · have := hp (fun _ _ => True)
        rw [hm2] at this ⊢
        exact this
    · have := hp (fun _ _ => True)
      rw [hm] at this ⊢
      exact this
  · obtain ⟨vs, H', I', r, a, b, k, j, xs, ys, e, h1, h2, h3⟩ := hq
    subst e
    obtain ⟨u, v, rfl, rx, ry⟩ := vals2 r
    cases rx
    cases ry
    exact zip_pie I' h1 h2 h3
end
end Mi
set_option maxRecDepth 100000
set_option maxHeartbeats 1000000
/-! S11: expressions. -/
namespace Mi
open PySem PySem.Spec PyProof.Rows L2
theorem tM.out {g : Gs} {W : WX} {m : Env → Store → R D} {σ : L2.St} {H : Hp} {Q : VK} (h : tM g W m σ H Q) : ∃ (p : Pl) (env : Env), p.H = H ∧ Ok g p ∧ RE g p env σ ∧ Post g (fun c d H => W c d σ H) p (m env p.S) fun q d => ∀ v, RV g q d v → Q v q.H := h
theorem into {g : Gs} {W : WX} {m : Env → Store → R D} {α : Type} {k : D → Store → R α} {σ : L2.St} {p : Pl} {env : Env} {Kp : Pl → α → Prop} {Q : VK} (o : Ok g p) (re : RE g p env σ) (h : Post g (fun c d H => W c d σ H) p ((m env p.S).bind k) Kp)
    (hq : ∀ (q : Pl) (d : D) (v : V), Nx p q → Ok g q → RE g q env σ → RV g q d v → Post g (fun c d H => W c d σ H) q (k d q.S) Kp → Q v q.H) : tM g W m σ p.H Q :=
  ⟨p, env, rfl, o, re, h.bind.mono fun q d n oq hp v hv => hq q d v n oq (re.nx n o) hv hp⟩
section
variable {X : Cx} {g : Gs} {W : WX}
theorem truth_ok {p : Pl} (hK : X.K = g.K) (ok : Ok g p) {d : D} {v : V} {k : Bool} (h : truth d p.S = some k) (r : RV g p d v) : TruV X.K v p.H k := by
  cases d with
  | non => cases h; cases r; rfl
  | bl b => cases h; cases r; rfl
  | int i => cases h; cases r; rfl
  | str s =>
    obtain ⟨e, _⟩ := r
    subst e
    simp only [truth] at h
    by_cases hz : s.length ≤ szl
    · rw [if_pos hz] at h
      cases h
      refine ⟨by rw [strS_len, ← szl_eq]; exact hz, ?_⟩
      rw [strS_len]
      cases s <;> simp
      omega
    · rw [if_neg hz] at h
      cases h
  | tup l =>
    cases h
    obtain ⟨a, xs, e, sx, rv⟩ := r
    subst e
    refine .inr (.inl ⟨xs, by rw [hK]; exact sx.sqT, ?_⟩)
    have := rv.len
    cases l <;> cases xs <;> simp_all
  | loc n =>
    obtain ⟨_, e⟩ := r
    subst e
    simp only [truth] at h
    have key : ∀ l : List D, (p.S[n]? = some (.lst l) ∨ p.S[n]? = some (.fls l)) → k = !l.isEmpty → TruV X.K (.ref (p.ρ n)) p.H k := fun l hl ek => by
      obtain ⟨xs, h1, h2⟩ := ok.seqAt hl
      refine .inl ⟨xs, by rw [hK]; exact h1, ?_⟩
      have := h2.len
      rw [ek]
      cases l <;> cases xs <;> simp_all
    cases hn : p.S[n]? with
    | none => rw [hn] at h; cases h
    | some o =>
      rw [hn] at h
      cases o with
      | lst l => cases h; exact key l (.inl hn) rfl
      | fls l => cases h; exact key l (.inr hn) rfl
      | _ => cases h
  | _ => cases h
theorem eM_int {i : Int} {j : Nat} {pos : Pos} : PE X (.Constant (.int i) j pos) (tM g W fun _ S => .ok (.int i) S) := PE.imp pe_int fun σ H Q h => by
  obtain ⟨p, env, rfl, ok, re, hp⟩ := tM.out h
  exact hp.ok rfl ok _ rfl
theorem eM_bl {i : Bool} {j : Nat} {pos : Pos} : PE X (.Constant (.bool i) j pos) (tM g W fun _ S => .ok (.bl i) S) := PE.imp pe_bl fun σ H Q h => by
  obtain ⟨p, env, rfl, ok, re, hp⟩ := tM.out h
  exact hp.ok rfl ok _ rfl
theorem eM_non {j : Nat} {pos : Pos} : PE X (.Constant .none j pos) (tM g W fun _ S => .ok .non S) := PE.imp pe_non fun σ H Q h => by
  obtain ⟨p, env, rfl, ok, re, hp⟩ := tM.out h
  exact hp.ok rfl ok _ rfl
theorem eM_str {s : List Nat} {j : Nat} {pos : Pos} (hs : okS s = true) : PE X (.Constant (.str (strS s)) j pos) (tM g W fun _ S => .ok (.str s) S) := PE.imp pe_str fun σ H Q h => by
  obtain ⟨p, env, rfl, ok, re, hp⟩ := tM.out h
  exact hp.ok rfl ok _ ⟨rfl, hs⟩
theorem eM_var {i : Nat} {x : PySem.Str} {pos : Pos} (hN : X.N[i]? = some x) (hv : Vis X.env.scope x) (h1 : (x == PySem.Str.ofString "__debug__") = false) (h2 : (x == PySem.Str.ofString "__classdict__") = false) :
    PE X (.Name x pos) (tM g W fun env S => match env[i]? with | some (some d) => .ok d S | _ => .bad) := PE.imp (pe_var hN hv h1 h2) fun σ H Q h => by
  obtain ⟨p, env, rfl, ok, re, hp⟩ := tM.out h
  cases he : env[i]? with
  | none => simp only [he] at hp; exact False.elim hp
  | some o =>
    cases o with
    | none => simp only [he] at hp; exact False.elim hp
    | some d =>
      simp only [he] at hp
      obtain ⟨v, h3, h4⟩ := re.2 i d he
      exact ⟨v, h3, hp.ok rfl ok _ h4⟩
/-- a name of the top -/
theorem eM_con {d : D} {x : PySem.Str} {u : Value} {pos : Pos} (hg : Gl X x) (hm : X.mg x = some u) (hc : ∃ v, RelV v u ∧ ∀ p, RV g p d v) (h1 : (x == PySem.Str.ofString "__debug__") = false) :
    PE X (.Name x pos) (tM g W fun _ S => .ok d S) := by
  obtain ⟨v, hr, hv⟩ := hc
  exact PE.imp (pe_glob hg hm hr h1) fun σ H Q h => by
    obtain ⟨p, env, rfl, ok, re, hp⟩ := tM.out h
    exact hp.ok rfl ok _ (hv p)
theorem bop_calm (op : Bop) (x y : D) (S : Store) : ∀ e S', bop op x y S ≠ .exc e S' := by
  intro e S' h
  unfold bop at h
  repeat' (split at h)
  all_goals cases h
theorem eM_bin {a b : Expr} {pos : Pos} {op : Operator} {o : Bop} {m m' : Env → Store → R D} (ho : OpR X (binaryOp op) (rBop g o)) (ha : PE X a (tM g W m)) (hb : PE X b (tM g W m')) :
    PE X (.BinOp a op b pos) (tM g W fun env S => (m env S).bind fun x S => (m' env S).bind fun y S => bop o x y S) := PE.imp (pe_op ho ha hb) fun σ H Q h => by
  obtain ⟨p, env, rfl, ok, re, hp⟩ := tM.out h
  refine into ok re hp fun q x v nx okq re' hv hp => ?_
  refine into okq re' hp fun q2 y w nx2 ok2 re2 hw hp => ?_
  exact ⟨q2, x, y, rfl, ok2, hv.nx nx2 okq, hw, hp.any (bop_calm o x y q2.S)⟩
theorem eM_neg {a : Expr} {pos : Pos} {m : Env → Store → R D} (ha : PE X a (tM g W m)) :
    PE X (.UnaryOp .USub a pos) (tM g W fun env S => (m env S).bind fun x S => match x with | .int i => .ok (.int (-i)) S | _ => .bad) := PE.imp (pe_un un_neg ha) fun σ H Q h => by
  obtain ⟨p, env, rfl, ok, re, hp⟩ := tM.out h
  refine into ok re hp fun q x v nx okq re' hv hp => ?_
  cases x with
  | int i =>
    cases hv
    exact ⟨i, rfl, hp.ok rfl okq _ rfl⟩
  | _ => exact False.elim hp
theorem eM_not {a : Expr} {pos : Pos} {m : Env → Store → R D} (hK : X.K = g.K) (ha : PE X a (tM g W m)) :
    PE X (.UnaryOp .Not a pos) (tM g W fun env S => (m env S).bind fun x S => (lift (truth x S) S).bind fun k S => .ok (.bl (!k)) S) := PE.imp (pe_notT ha) fun σ H Q h => by
  obtain ⟨p, env, rfl, ok, re, hp⟩ := tM.out h
  refine into ok re hp fun q x v nx okq re' hv hp => ?_
  obtain ⟨k, hk, hq⟩ := hp.bind.lift rfl okq
  exact ⟨k, truth_ok hK okq hk hv, hq.ok rfl okq _ rfl⟩
theorem eM_cmp {a b : Expr} {pos : Pos} {op : CmpOp} {o : Cop} {m m' : Env → Store → R D} (ho : OpR X (compareOp op) (rCop g o)) (hb' : behindInMarks op b = false) (ha : PE X a (tM g W m)) (hb : PE X b (tM g W m')) :
    PE X (.Compare a [op] [b] pos) (tM g W fun env S => (m env S).bind fun x S => (m' env S).bind fun y S => cmpD o x y S) := PE.imp (pe_cmpR ho ha hb hb') fun σ H Q h => by
  obtain ⟨p, env, rfl, ok, re, hp⟩ := tM.out h
  refine into ok re hp fun q x v nx okq re' hv hp => ?_
  refine into okq re' hp fun q2 y w nx2 ok2 re2 hw hp => ?_
  obtain ⟨d, hd, hq⟩ := hp.lift rfl ok2
  obtain ⟨k, hk, e⟩ := Option.map_eq_some_iff.mp hd
  subst e
  exact ⟨q2, x, y, rfl, ok2, hv.nx nx2 okq, hw, k, hk, hq _ rfl⟩
theorem eM_cmp2 {a b c : Expr} {pos : Pos} {op op' : CmpOp} {o o' : Cop} {m m' m2 : Env → Store → R D} (ho : OpR X (compareOp op) (rCop g o)) (ho' : OpR X (compareOp op') (rCop g o')) (hl : lastMarks [op, op'] [b, c] = false) (ha : PE X a (tM g W m)) (hb : PE X b (tM g W m')) (hc : PE X c (tM g W m2)) :
    PE X (.Compare a [op, op'] [b, c] pos) (tM g W fun env S => (m env S).bind fun x S => (m' env S).bind fun y S => (lift (cop o x y S) S).bind fun k S => if k then (m2 env S).bind fun z S => lift ((cop o' y z S).map .bl) S else .ok (.bl false) S) := PE.imp (pe_chain ho ho' ha hb hc hl) fun σ H Q h => by
  obtain ⟨p, env, rfl, ok, re, hp⟩ := tM.out h
  refine into ok re hp fun q x v nx okq re' hv hp => ?_
  refine into okq re' hp fun q2 y w nx2 ok2 re2 hw hp => ?_
  obtain ⟨k, hk, hq⟩ := hp.bind.lift rfl ok2
  refine ⟨q2, x, y, rfl, ok2, hv.nx nx2 okq, hw, k, hk, k, rfl, ?_⟩
  cases k with
  | false => exact hq.ok rfl ok2 _ rfl
  | true =>
    rw [if_pos rfl] at hq ⊢
    refine into ok2 re2 hq fun q3 z u nx3 ok3 re3 hu hp => ?_
    obtain ⟨d, hd, hq⟩ := hp.lift rfl ok3
    obtain ⟨k, hk, e⟩ := Option.map_eq_some_iff.mp hd
    subst e
    exact ⟨q3, y, z, rfl, ok3, hw.nx nx3 ok2, hu, k, hk, hq _ rfl⟩
theorem eM_one {a : Expr} {pos : Pos} {op : BoolOp} {t : TE} (ha : PE X a t) : PE X (.BoolOp op [a] pos) t := pe_one ha
theorem eM_and {a b : Expr} {rest : List Expr} {pos : Pos} {m m' : Env → Store → R D} (hK : X.K = g.K) (ha : PE X a (tM g W m)) (hb : PE X (.BoolOp .And (b :: rest) pos) (tM g W m')) :
    PE X (.BoolOp .And (a :: b :: rest) pos) (tM g W fun env S => (m env S).bind fun x S => (lift (truth x S) S).bind fun k S => if k then m' env S else .ok x S) := PE.imp (pe_andT ha hb) fun σ H Q h => by
  obtain ⟨p, env, rfl, ok, re, hp⟩ := tM.out h
  refine into ok re hp fun q x v nx okq re' hv hp => ?_
  obtain ⟨k, hk, hq⟩ := hp.bind.lift rfl okq
  refine ⟨k, truth_ok hK okq hk hv, ?_⟩
  cases k with
  | false => exact hq.ok rfl okq _ hv
  | true => exact ⟨q, env, rfl, okq, re', hq⟩
theorem eM_or {a b : Expr} {rest : List Expr} {pos : Pos} {m m' : Env → Store → R D} (hK : X.K = g.K) (ha : PE X a (tM g W m)) (hb : PE X (.BoolOp .Or (b :: rest) pos) (tM g W m')) :
    PE X (.BoolOp .Or (a :: b :: rest) pos) (tM g W fun env S => (m env S).bind fun x S => (lift (truth x S) S).bind fun k S => if k then .ok x S else m' env S) := PE.imp (pe_orT ha hb) fun σ H Q h => by
  obtain ⟨p, env, rfl, ok, re, hp⟩ := tM.out h
  refine into ok re hp fun q x v nx okq re' hv hp => ?_
  obtain ⟨k, hk, hq⟩ := hp.bind.lift rfl okq
  refine ⟨k, truth_ok hK okq hk hv, ?_⟩
  cases k with
  | true => exact hq.ok rfl okq _ hv
  | false => exact ⟨q, env, rfl, okq, re', hq⟩
/-- a test by what it evaluates to -/
abbrev mT (m : Env → Store → R D) : Env → Store → R Bool := fun env S => (m env S).bind fun x S => lift (truth x S) S
theorem eM_ite {a b c : Expr} {pos : Pos} {m m' m2 : Env → Store → R D} (hc : PT X c (tMT g W (mT m))) (ha : PE X a (tM g W m')) (hb : PE X b (tM g W m2)) :
    PE X (.IfExp c a b pos) (tM g W fun env S => (m env S).bind fun x S => (lift (truth x S) S).bind fun k S => if k then m' env S else m2 env S) := PE.imp (pe_ifExp hc ha hb) fun σ H Q h => by
  obtain ⟨p, env, rfl, ok, re, hp⟩ := tM.out h
  refine ⟨p, env, rfl, ok, re, ?_⟩
  have hp : Post g (fun c d H => W c d σ H) p (((m env p.S).bind fun x S => lift (truth x S) S).bind fun k S => if k then m' env S else m2 env S) fun q d => ∀ v, RV g q d v → Q v q.H := by
    cases hm : m env p.S with
    | ok a S => simp only [hm] at hp ⊢; exact hp
    | exc x S => simp only [hm] at hp ⊢; exact hp
    | bad => simp only [hm] at hp; exact False.elim hp
  refine hp.bind.mono fun q k nx okq hk => ?_
  cases k with
  | true => exact ⟨q, env, rfl, okq, re.nx nx ok, hk⟩
  | false => exact ⟨q, env, rfl, okq, re.nx nx ok, hk⟩
end
end Mi
set_option maxRecDepth 100000
set_option maxHeartbeats 1000000
/-! S12: calls. -/
namespace Mi
open PySem PySem.Spec PyProof.Rows L2
theorem under_make {A : Around} (C : Addr) (vs : List Value) (kw : List (PySem.Str × Value)) (h : A.guards = some []) : (A.under (Code.builtin "type.__call__" { pos := Value.ref C :: vs, kw := kw })).guards = some [] := by
  have e : (Code.builtin "type.__call__" { pos := Value.ref C :: vs, kw := kw }).guards = [] := by
    simp [Code.guards]
    rfl
  unfold Around.under
  simp only []
  rw [e, h]
  rfl
section
variable {X : Cx} {g : Gs} {P : Prg} {k : Nat} {pins : List (Addr × Obj)} {σ : L2.St} {s : Shared} {p : Pl} {Q : VK} {us : List Value} {vs : List V}
/-- a new instance -/
theorem own_make {W : WX} (Z : Sta g P) (hK : X.K = g.K) (Fs : Fns X g P k) (hr : Room (rm k + 1) X.A) (hgd : X.A.guards = some []) (tk : L2N.Takes X W) (ok : Ok g p) (I : Inv X pins σ p.H s) {c n : Nat} {perm : List Nat} {ks : List String} {ws : List Value} {ds : List D} (hi : P.init c = some n) (rv : RVs g p ds vs) (r : Vals vs (us ++ ws)) (hw : ws.length = ks.length)
    (hp : if ks = [] then perm = [] else P.kws n (us.length + 1) ks = some perm) (h : Post g (fun c d H => W c d σ H) p ((callN P k n (permD perm (.loc p.S.length :: ds)) (p.S ++ [.ins c []])).bind fun r S' => match r with | .non => .ok (.loc p.S.length) S' | _ => .bad) (EndV g Q)) :
    wpAny (model X.prog X.w) X.A (call (.ref (g.ad c)) us ((ks.map PySem.Str.ofString).zip ws)) (EP X pins σ Q) X.xe s := by
  have M := Z.init c n hi
  rw [← hK] at M
  have hn1 : p.H s.heap.objs.size = none := I.hok.fresh (Nat.le_refl _)
  have hn2 : p.H (s.heap.objs.size + 1) = none := I.hok.fresh (Nat.le_succ _)
  obtain ⟨nx1, ok1⟩ := ok.grow (a := s.heap.objs.size) (u := .own (s.heap.objs.size + 1)) hn1
  have hn3 : (upd p.H s.heap.objs.size (.own (s.heap.objs.size + 1))) (s.heap.objs.size + 1) = none := by
    rw [upd_ne (Nat.ne_of_gt (Nat.lt_succ_self _))]
    exact hn2
  obtain ⟨q, e1, e2, e3, nx2, okq⟩ := ok1.add (o := .ins c []) (u := .ins (g.ad c) s.heap.objs.size []) hn3 (fun q e1 _ _ _ _ => ⟨s.heap.objs.size, [], by rw [e1]; exact upd_same, rfl⟩)
  have e1 : q.S = p.S ++ [.ins c []] := e1
  have e3 : q.ρ p.S.length = s.heap.objs.size + 1 := e3
  have nx : Nx p q := nx1.trans nx2
  have I2 : Inv X pins σ q.H { heap := (s.heap.push PySem.W.emptyDict).push (PySem.W.instObj (g.ad c) s.heap.objs.size), gens := s.gens, drawn := s.drawn, toks := s.toks, os := s.os } := by
    rw [e2]
    exact I.made
  have h2 : Post g (fun c d H => W c d σ H) q ((callN P k n (permD perm (.loc p.S.length :: ds)) q.S).bind fun r S' => match r with | .non => .ok (.loc p.S.length) S' | _ => .bad) (EndV g Q) := by
    rw [e1]
    exact h.from nx
  have h3 := h2.bind
  have h4 : Post g (fun c d H => W c d σ H) q (callN P k n (permD perm (.loc p.S.length :: ds)) q.S) (EndV g fun v H2 => v = .non ∧ Q (.ref (s.heap.objs.size + 1)) H2) := h3.mono fun q2 a nx3 ok3 hk v hv => by
    cases a with
    | non =>
      cases hv
      refine ⟨rfl, hk.ok rfl ok3 _ ⟨?_, ?_⟩⟩
      · refine Nat.lt_of_lt_of_le ?_ nx3.len
        rw [e1]
        simp
      · rw [nx3.rho _ (by rw [e1]; simp), e3]
    | _ => exact False.elim hk
  have rv2 : RVs g q (.loc p.S.length :: ds) (.ref (s.heap.objs.size + 1) :: vs) := ⟨_, _, rfl, ⟨by rw [e1]; simp, by rw [e3]⟩, rv.nx nx ok⟩
  obtain ⟨f, hf⟩ := callN_fn h4.ne
  obtain ⟨fd, ps, F, hb, hk, _⟩ := Fs n f hf
  have e0 := I2.env0.make (g.ad c) us ((ks.map PySem.Str.ofString).zip ws)
  have bt : BindsTo { heap := (s.heap.push PySem.W.emptyDict).push (PySem.W.instObj (g.ad c) s.heap.objs.size), gens := s.gens, drawn := s.drawn, toks := s.toks, os := s.os } fd ⟨.ref (s.heap.objs.size + 1) :: us, (ks.map PySem.Str.ofString).zip ws⟩ (ps.zip (permV .none perm (.ref (s.heap.objs.size + 1) :: us ++ ws))) ∧ (if ks = [] then True else True) := by
    refine ⟨?_, by split <;> trivial⟩
    by_cases hks : ks = []
    · subst hks
      rw [if_pos rfl] at hp
      subst hp
      have e : ws = [] := List.eq_nil_of_length_eq_zero hw
      subst e
      have hl : vs.length + 1 = ps.length := F.len (.ref (s.heap.objs.size + 1) :: vs) q.H (fun v H2 => v = .non ∧ Q (.ref (s.heap.objs.size + 1)) H2) (fun c d H => W c d σ H) ⟨q, _, rfl, okq, rv2, h4⟩
      have hlu : vs.length = us.length := by have := r.length; simpa using this
      have hl2 : (Value.ref (s.heap.objs.size + 1) :: us ++ []).length = ps.length := by
        rw [List.append_nil, List.length_cons, ← hlu]
        exact hl
      have := hb _ (.ref (s.heap.objs.size + 1) :: us) I2.kIn hl2
      exact this
    · rw [if_neg hks] at hp
      exact hk _ ks perm hp _ (.ref (s.heap.objs.size + 1) :: us) ws I2.kIn rfl hw
  have rV : Vals (.ref (s.heap.objs.size + 1) :: vs) (.ref (s.heap.objs.size + 1) :: us ++ ws) := .cons rfl r
  have run := F.run (X.A.under (.builtin "type.__call__" ⟨.ref (g.ad c) :: us, (ks.map PySem.Str.ofString).zip ws⟩)) X.stack _ q.H _ _ _ (fun v H2 => v = .non ∧ Q (.ref (s.heap.objs.size + 1)) H2) (fun c d H => W c d σ H) (hr.make _ us _) (under_make _ _ _ hgd) e0 bt.1 (vals_perm rV perm) ⟨q, _, rfl, okq, rv2.perm perm, h4⟩
  refine wpAny_call (make_map I.kIn M.makes M.init ?_ (codeAny_mono run fun r s' hq => ?_))
  · have := M.fn
    unfold PySem.W.isFn at this
    simpa using this
  cases r with
  | error e => exact L2N.passAt tk σ pins q.H _ e s' I2 hq
  | ok fl =>
    cases fl with
    | ret u =>
      obtain ⟨v, H', I', rv', ev, hq⟩ := I2.after hq
      subst ev
      exact ⟨rv', .ref (s.heap.objs.size + 1), H', I', rfl, hq⟩
    | next => exact False.elim hq
    | brk => exact False.elim hq
    | cont => exact False.elim hq
end
end Mi
set_option maxRecDepth 100000
set_option maxHeartbeats 1000000
/-! S13: expressions with parts. -/
namespace Mi
open PySem PySem.Spec PyProof.Rows L2
section
variable {X : Cx} {g : Gs} {W : WX} {P : Prg} {k : Nat}
theorem tMA.out {m : Env → Store → R (List D)} {σ : L2.St} {H : Hp} {Q : List V → Hp → Prop} (h : tMA g W m σ H Q) : ∃ (p : Pl) (env : Env), p.H = H ∧ Ok g p ∧ RE g p env σ ∧ Post g (fun c d H => W c d σ H) p (m env p.S) fun q ds => ∀ vs, RVs g q ds vs → Q vs q.H := h
theorem intoA {m : Env → Store → R (List D)} {α : Type} {k : List D → Store → R α} {σ : L2.St} {p : Pl} {env : Env} {Kp : Pl → α → Prop} {Q : List V → Hp → Prop} (o : Ok g p) (re : RE g p env σ) (h : Post g (fun c d H => W c d σ H) p ((m env p.S).bind k) Kp)
    (hq : ∀ (q : Pl) (d : List D) (v : List V), Nx p q → Ok g q → RE g q env σ → RVs g q d v → Post g (fun c d H => W c d σ H) q (k d q.S) Kp → Q v q.H) : tMA g W m σ p.H Q :=
  ⟨p, env, rfl, o, re, h.bind.mono fun q d n oq hp v hv => hq q d v n oq (re.nx n o) hv hp⟩
theorem pa_nilM : PA X [] (tMA g W fun _ S => .ok [] S) := PA.imp pa_nil fun σ H Q h => by
  obtain ⟨p, env, rfl, ok, re, hp⟩ := tMA.out h
  exact hp.ok rfl ok _ rfl
theorem pa_consM {e : Expr} {es : List Expr} {m : Env → Store → R D} {m' : Env → Store → R (List D)} (hs : notStar e = true) (he : PE X e (tM g W m)) (hes : PA X es (tMA g W m')) :
    PA X (e :: es) (tMA g W fun env S => (m env S).bind fun d S => (m' env S).bind fun ds S => .ok (d :: ds) S) := PA.imp (pa_cons he hes (star_cons hs _ _)) fun σ H Q h => by
  obtain ⟨p, env, rfl, ok, re, hp⟩ := tMA.out h
  refine into ok re hp fun q d v nx okq re' hv hp => ?_
  refine intoA okq re' hp fun q2 ds vs nx2 ok2 re2 hvs hp => ?_
  exact hp.ok rfl ok2 _ ⟨v, vs, rfl, hv.nx nx2 okq, hvs⟩
theorem PK.imp {e : List Keyword} {t t' : TA} (h : PK X e t) (hi : ∀ σ H Q, t' σ H Q → t σ H Q) : PK X e t' := ⟨fun pos pins s σ H Q I hw => h.run pos pins s σ H Q I (hi σ H Q hw)⟩
theorem pk_nilM : PK X [] (tMA g W fun _ S => .ok [] S) := PK.imp pk_nil fun σ H Q h => by
  obtain ⟨p, env, rfl, ok, re, hp⟩ := tMA.out h
  exact hp.ok rfl ok _ rfl
theorem pk_consM {nm : Option PySem.Str} {e : Expr} {kpos : Pos} {kws : List Keyword} {m : Env → Store → R D} {m' : Env → Store → R (List D)} (he : PE X e (tM g W m)) (hes : PK X kws (tMA g W m')) :
    PK X ({ arg := nm, value := e, pos := kpos } :: kws) (tMA g W fun env S => (m env S).bind fun d S => (m' env S).bind fun ds S => .ok (d :: ds) S) := PK.imp (pk_cons he hes) fun σ H Q h => by
  obtain ⟨p, env, rfl, ok, re, hp⟩ := tMA.out h
  refine into ok re hp fun q d v nx okq re' hv hp => ?_
  refine intoA okq re' hp fun q2 ds vs nx2 ok2 re2 hvs hp => ?_
  exact hp.ok rfl ok2 _ ⟨v, vs, rfl, hv.nx nx2 okq, hvs⟩
def kwNames (kws : List Keyword) : List PySem.Str := kws.filterMap (·.arg)
def kwNamed (kws : List Keyword) : Bool := kws.all fun k => k.arg.isSome
theorem kw_names {pos : Pos} {env : PySem.Env} : ∀ {kws : List Keyword}, List.filterMap (fun x => x.1) (backToKw pos (keywordEach kws env)) = kwNames kws
  | [] => rfl
  | ⟨a, v, p⟩ :: r => by
    have := kw_names (pos := pos) (env := env) (kws := r)
    cases a with
    | none =>
      show List.filterMap (fun x => x.1) (backToKw pos (keywordEach r env)) = _
      exact this
    | some a =>
      show a :: List.filterMap (fun x => x.1) (backToKw pos (keywordEach r env)) = _
      rw [this]
      rfl
theorem kw_named {pos : Pos} {env : PySem.Env} : ∀ {kws : List Keyword}, kwNamed kws = true → ((backToKw pos (keywordEach kws env)).all fun x => x.1.isSome) = true
  | [], _ => rfl
  | ⟨a, v, p⟩ :: r, h => by
    simp only [kwNamed, List.all_cons, Bool.and_eq_true] at h
    have := kw_named (pos := pos) (env := env) (kws := r) h.2
    show (a.isSome && (backToKw pos (keywordEach r env)).all fun x => x.1.isSome) = true
    rw [this, h.1]
    rfl
theorem kw_any {pos : Pos} {env : PySem.Env} {kws : List Keyword} (h : kwNamed kws = true) : ((backToKw pos (keywordEach kws env)).any fun x => x.1.isNone) = false := by
  have := kw_named (pos := pos) (env := env) h
  rw [List.any_eq_false]
  rw [List.all_eq_true] at this
  intro x hx
  have := this x hx
  cases hx : x.1 <;> simp_all
theorem star_any' {pos : Pos} {env : PySem.Env} {es : List Expr} (h : es.all notStar = true) : ((backTo pos (starEach es env)).any fun x => x.1) = false := star_any h
/-- the arguments of a call, then the call -/
theorem args_M {es : List Expr} {kws : List Keyword} {pos : Pos} {mA mK : Env → Store → R (List D)} {f : Value} {first : List Value} {Q : Value → Shared → Prop} {pins : List (Addr × Obj)} {s : Shared} {σ : L2.St} {p : Pl} {env : Env} {α : Type} {Kp : Pl → α → Prop} {kk : List D → Store → R α}
    (hes : es.all notStar = true) (hkw : kwNamed kws = true) (hA : PA X es (tMA g W mA)) (hKk : PK X kws (tMA g W mK)) (lA : ∀ env S ds S', mA env S = .ok ds S' → ds.length = es.length) (lK : ∀ env S ds S', mK env S = .ok ds S' → ds.length = kws.length)
    (nA : es = [] → mA = fun _ S => .ok [] S) (nK : kws = [] → mK = fun _ S => .ok [] S)
    (hf : PySem.W.keepIn X.K f = true) (ok : Ok g p) (re : RE g p env σ) (I : Inv X pins σ p.H s) (hp : Post g (fun c d H => W c d σ H) p ((mA env p.S).bind fun ds S => (mK env S).bind fun zs S => kk (ds ++ zs) S) Kp)
    (hq : ∀ (q : Pl) (ds : List D) (vs : List V) (us ws : List Value) (s' : Shared), Nx p q → Ok g q → Inv X pins σ q.H s' → RVs g q ds vs → Vals vs (us ++ ws) → us.length = es.length → ws.length = kws.length → Post g (fun c d H => W c d σ H) q (kk ds q.S) Kp →
      wpAny (model X.prog X.w) X.A (call f (first ++ us) ((kwNames kws).zip ws)) Q X.xe s') :
    wpAny (model X.prog X.w) X.A (callWith pos f first (backTo pos (starEach es X.env)) (backToKw pos (keywordEach kws X.env))) Q X.xe s := by
  -- the second half, behind the places
  have half : ∀ (q : Pl) (ds : List D) (vs : List V) (us : List Value) (s' : Shared), Nx p q → Ok g q → RE g q env σ → Inv X pins σ q.H s' → RVs g q ds vs → Vals vs us → us.length = es.length → Post g (fun c d H => W c d σ H) q ((mK env q.S).bind fun zs S => kk (ds ++ zs) S) Kp →
      wpAny (model X.prog X.w) X.A (evalAll (List.map (fun x => x.2) (backToKw pos (keywordEach kws X.env)))) (fun ks s₂ => X.K.In s₂.heap ∧ wpAny (model X.prog X.w) X.A (call f (first ++ us) ((List.filterMap (fun x => x.1) (backToKw pos (keywordEach kws X.env))).zip ks)) Q X.xe s₂) X.xe s' := fun q ds vs us s' nx okq re' I' rv r lu hp => by
    refine thn (hKk.run pos pins s' σ q.H (fun zs H2 => ∃ q2 es2, q2.H = H2 ∧ Nx q q2 ∧ Ok g q2 ∧ RVs g q2 es2 zs ∧ es2.length = kws.length ∧ Post g (fun c d H => W c d σ H) q2 (kk (ds ++ es2) q2.S) Kp) I' ?_) fun ws s2 hx => ?_
    · refine ⟨q, env, rfl, okq, re', ?_⟩
      have hb := hp.bind
      cases hm : mK env q.S with
      | ok zs S2 =>
        rw [hm] at hb
        intro q2 e2 nx2 ok2 vs2 hv2
        exact ⟨q2, zs, rfl, nx2, ok2, hv2, lK env q.S zs S2 hm, hb q2 e2 nx2 ok2⟩
      | exc x S2 => rw [hm] at hb; exact hb
      | bad => rw [hm] at hb; exact hb
    · obtain ⟨zs, H2, I2, rz, q2, es2, eH, nx2, ok2, rv2, le, hk⟩ := hx
      subst eH
      refine ⟨I2.kIn, ?_⟩
      rw [kw_names]
      refine hq q2 (ds ++ es2) (vs ++ zs) us ws s2 (nx.trans nx2) ok2 I2 ((rv.nx nx2 okq).append rv2) (r.append rz) lu ?_ hk
      rw [← rz.length, ← rv2.len]
      exact le
  cases es with
  | nil =>
    have e := nA rfl
    subst e
    have hp0 : Post g (fun c d H => W c d σ H) p ((mK env p.S).bind fun zs S => kk ([] ++ zs) S) Kp := hp
    refine PySem.W.callWith_KW0 I.kIn hf (kw_named hkw) (half p [] [] [] s (Nx.refl p) ok re I rfl .nil rfl hp0) ?_
    rw [star_any rfl, kw_any hkw]
    rfl
  | cons e es =>
    have he : notStar e = true := by simp at hes; exact hes.1
    have hes2 : es.all notStar = true := by simp at hes ⊢; exact hes.2
    refine PySem.W.callWith_KW I.kIn hf (kw_named hkw) ?_ (by rw [star_any hes, kw_any hkw]; rfl) (star_cons he _ _)
    refine thn (hA.run pos pins s σ p.H (fun vs H1 => ∃ q ds, q.H = H1 ∧ Nx p q ∧ Ok g q ∧ RVs g q ds vs ∧ ds.length = (e :: es).length ∧ Post g (fun c d H => W c d σ H) q ((mK env q.S).bind fun zs S => kk (ds ++ zs) S) Kp) I ?_) fun us s1 hx => ?_
    · refine ⟨p, env, rfl, ok, re, ?_⟩
      have hb := hp.bind
      cases hm : mA env p.S with
      | ok ds S2 =>
        rw [hm] at hb
        intro q2 e2 nx2 ok2 vs2 hv2
        exact ⟨q2, ds, rfl, nx2, ok2, hv2, lA env p.S ds S2 hm, hb q2 e2 nx2 ok2⟩
      | exc x S2 => rw [hm] at hb; exact hb
      | bad => rw [hm] at hb; exact hb
    · obtain ⟨vs, H1, I1, r, q, ds, eH, nx, okq, rv, ld, hk⟩ := hx
      subst eH
      refine half q ds vs us s1 nx okq (re.nx nx ok) I1 rv r ?_ hk
      rw [← r.length, ← rv.len]
      exact ld
/-- what is known of the place where an expression stands -/
structure At (X : Cx) (g : Gs) (P : Prg) (k : Nat) (W : WX) : Prop where
  hK : X.K = g.K
  Z : Sta g P
  Fs : Fns X g P k
  room : Room (rm k + 3) X.A
  gd : X.A.guards = some []
  tk : L2N.Takes X W
  calm : X.calm = true
  nd : X.N.Nodup
theorem At.sub {X : Cx} {g : Gs} {P : Prg} {k : Nat} {W : WX} (h : At X g P k W) {j : Nat} (hj : j ≤ rm k + 3) : SubA X j X.A := ⟨h.room.mono hj, rfl, h.gd⟩
/-- f(..), f a def of the top -/
theorem eM_call (T : At X g P k W) {x : PySem.Str} {xp pos : Pos} {es : List Expr} {kws : List Keyword} {mA mK : Env → Store → R (List D)} {n : Nat} {perm : List Nat} {ks : List String} (hg : Gl X x) (hm : X.mg x = some (.ref (g.ad n))) (hfn : (P.fn n).isSome = true) (hdb : (x == PySem.Str.ofString "__debug__") = false)
    (hes : es.all notStar = true) (hkw : kwNamed kws = true) (hA : PA X es (tMA g W mA)) (hKk : PK X kws (tMA g W mK)) (lA : ∀ env S ds S', mA env S = .ok ds S' → ds.length = es.length) (lK : ∀ env S ds S', mK env S = .ok ds S' → ds.length = kws.length)
    (nA : es = [] → mA = fun _ S => .ok [] S) (nK : kws = [] → mK = fun _ S => .ok [] S) (hks : kwNames kws = ks.map PySem.Str.ofString) (hp : if ks = [] then perm = [] else P.kws n es.length ks = some perm) :
    PE X (.Call (.Name x xp) es kws pos) (tM g W fun env S => (mA env S).bind fun ds S => (mK env S).bind fun zs S => callN P k n (permD perm (ds ++ zs)) S) := by
  refine ⟨fun pins s σ H Q I hw => ?_⟩
  obtain ⟨p, env, rfl, ok, re, hw⟩ := tM.out hw
  obtain ⟨f, hf⟩ := Option.isSome_iff_exists.mp hfn
  obtain ⟨fd, ps, F, hb, hk, kp⟩ := T.Fs n f hf
  have hlk : kws.length = ks.length := by
    have h1 : (kwNames kws).length = kws.length := by
      clear hks hKk lK nK
      induction kws with
      | nil => rfl
      | cons a r ih =>
        simp only [kwNamed, List.all_cons, Bool.and_eq_true] at hkw
        unfold kwNames at ih ⊢
        obtain ⟨z, hz⟩ := Option.isSome_iff_exists.mp hkw.1
        rw [List.filterMap_cons, hz]
        simp only [List.length_cons]
        rw [ih hkw.2]
    rw [← h1, hks, List.length_map]
  refine wpAny_Call_Name_kw (ld_glob I hg hm (args_M (kk := fun ds S => callN P k n (permD perm ds) S) hes hkw hA hKk lA lK nA nK kp ok re I hw fun q ds vs us ws s' nx okq I' rv r lu lw hk => ?_) hdb)
  rw [hks, List.nil_append]
  exact own_runK T.Fs (T.sub (by omega)) T.tk rfl okq I' rv r (by rw [lw, hlk]) (by rw [lu]; exact hp) hk
end
end Mi
set_option maxRecDepth 100000
set_option maxHeartbeats 1000000
/-! S14: fields, makers, methods, built-ins as expressions. -/
namespace Mi
open PySem PySem.Spec PyProof.Rows L2
theorem ofString_inj {a b : String} (h : PySem.Str.ofString a = PySem.Str.ofString b) : a = b := by
  rw [ofString_eq, ofString_eq] at h
  have h := strS_inj h
  have : a.toList = b.toList := by
    have inj : ∀ c d : Char, c.toNat = d.toNat → c = d := fun c d e => Char.toNat_inj.mp e
    revert h
    generalize a.toList = l
    generalize b.toList = m
    induction l generalizing m with
    | nil => intro h; cases m <;> simp_all
    | cons c l ih =>
      intro h
      cases m with
      | nil => simp at h
      | cons d m =>
        simp only [List.map_cons, List.cons.injEq] at h
        rw [inj c d h.1, ih m h.2]
  exact String.toList_inj.mp this
theorem RF.look {g : Gs} {p : Pl} {f : String} {d : D} : ∀ {fs : List (String × D)} {gs : List (PySem.Str × V)}, RF g p fs gs → look f fs = some d → ∃ v, gs.lookup (PySem.Str.ofString f) = some v ∧ RV g p d v
  | [], gs, r, h => by cases h
  | (f', d') :: l, gs, r, h => by
    obtain ⟨v, w, e, hv, t⟩ := r
    subst e
    simp only [Mi.look] at h
    by_cases hf : f' = f
    · subst hf
      rw [if_pos rfl] at h
      cases h
      exact ⟨v, by simp [List.lookup], hv⟩
    · rw [if_neg hf] at h
      obtain ⟨v', h1, h2⟩ := RF.look t h
      refine ⟨v', ?_, h2⟩
      have : (PySem.Str.ofString f == PySem.Str.ofString f') = false := by
        rw [beq_eq_false_iff_ne]
        exact fun e => hf (ofString_inj e).symm
      rw [List.lookup_cons, this]
      exact h1
theorem RF.none {g : Gs} {p : Pl} {f : String} : ∀ {fs : List (String × D)} {gs : List (PySem.Str × V)}, RF g p fs gs → (Mi.look f fs).isNone = true → gs.lookup (PySem.Str.ofString f) = .none
  | [], gs, r, h => by
    have e : gs = [] := r
    subst e
    rfl
  | (f', d') :: l, gs, r, h => by
    obtain ⟨v, w, e, hv, t⟩ := r
    subst e
    simp only [Mi.look] at h
    by_cases hf : f' = f
    · subst hf
      rw [if_pos rfl] at h
      cases h
    · rw [if_neg hf] at h
      have : (PySem.Str.ofString f == PySem.Str.ofString f') = false := by
        rw [beq_eq_false_iff_ne]
        exact fun e => hf (ofString_inj e).symm
      rw [List.lookup_cons, this]
      exact RF.none t h
section
variable {X : Cx} {g : Gs} {W : WX} {P : Prg} {k : Nat}
/-- a property -/
theorem own_prop (T : At X g P k W) {pins : List (Addr × Obj)} {σ : L2.St} {s : Shared} {p : Pl} {Q : VK} {a C pr dx : Addr} {n : Nat} {fs : List (PySem.Str × V)} {f : PySem.Str} {b : Bool} {E' : Value → Shared → Prop} {d : D} (ok : Ok g p) (I : Inv X pins σ p.H s) (ea : p.H a = some (.ins C dx fs)) (c : Cls X.K C) (hp : PropOf X.K C f pr (g.ad n)) (rd : RV g p d (.ref a)) (h : Post g NoX p (callN P k n [d] p.S) (EndV g Q)) :
    wpAny (model X.prog X.w) X.A (getAttr (.ref a) f b) (EP X pins σ Q) E' s := by
  obtain ⟨mA, O, _⟩ := ins_get I.hok ea
  obtain ⟨od, J, _⟩ := O.look
  obtain ⟨rest, hrec⟩ := hp.rec_
  have I1 := I.tok (s.toks + 1)
  have hc : (PySem.W.clsIn X.K C).isSome = true := by
    obtain ⟨cd, hc, _⟩ := PySem.W.any_some c.hd
    rw [hc]
    rfl
  obtain ⟨fn, hf⟩ := callN_fn h.ne
  obtain ⟨fd, ps, F, hb, _, _⟩ := T.Fs n fn hf
  have sp0 : spM g (callN P k n) [.ref a] p.H Q NoX := ⟨p, [d], rfl, ok, ⟨_, _, rfl, rd, rfl⟩, h⟩
  have hl : ([Value.ref a] ++ []).length = ps.length := by
    have := F.len _ _ _ _ sp0
    simpa using this
  have hroom : Room (rm k) X.A.in1 := (T.room.mono (by omega : rm k + 1 ≤ rm k + 3)).in1
  refine PySem.W.get_bind I.kIn J (PySem.W.plainGet_of (c.get f)).1 (PySem.W.findObj_data hc hp.at_ hp.get hp.tak) (PySem.W.plainGet_of (c.get f)).2
    (wpAny_call (PySem.W.prop_get I.kIn hrec (codeAny_mono (F.run X.A.in1 X.stack { heap := s.heap, gens := s.gens, drawn := s.drawn, toks := s.toks + 1, os := s.os } p.H { pos := [.ref a] } [.ref a] [.ref a] Q NoX hroom T.gd I1.env0.in1 (hb _ [.ref a] I1.kIn hl) (.cons rfl .nil) sp0) fun r s' hq => ?_)))
  cases r with
  | error er =>
    obtain ⟨_, _, _, _, _, _, _, _, _, _, _, _, w⟩ := hq
    exact w.elim
  | ok fl =>
    cases fl with
    | next => exact False.elim hq
    | brk => exact False.elim hq
    | cont => exact False.elim hq
    | ret u =>
      obtain ⟨v, H', I3, rv, q3⟩ := I1.after hq
      show wpAny _ _ (handedOut u) _ _ _
      rw [PySem.W.handedOut_of (handed_of rv)]
      exact wpAny_pure ⟨v, H', I3, rv, q3⟩
def plainBase : Expr → Bool
  | .Call (.Name ..) [] [] _ => false
  | _ => true
theorem base_of {e : Expr} (h : plainBase e = true) (f : PySem.Str) (env : PySem.Env) (w : Sem Value) : attributeBase e f env w = w := by
  unfold attributeBase
  split
  · cases h
  · rfl
/-- o.f -/
theorem eM_fld (T : At X g P k W) {e : Expr} {f : String} {pos : Pos} {m : Env → Store → R D} (hb : plainBase e = true) (he : PE X e (tM g W m)) :
    PE X (.Attribute e (PySem.Str.ofString f) pos) (tM g W fun env S => (m env S).bind fun x S => match x with
      | .loc n => match S[n]? with
        | some (.ins c fs) => match P.prop c f with
          | some g => (callN P k g [x] S).calm
          | none => if P.fld c f then lift (look f fs) S else .bad
        | _ => .bad
      | _ => .bad) := by
  refine ⟨fun pins s σ H Q I hw => attr_of (base_of hb _ _ _) (thn (he.run pins s σ H (fun v H1 => ∃ q n c fs, q.H = H1 ∧ Ok g q ∧ RV g q (.loc n) v ∧ q.S[n]? = some (.ins c fs) ∧ Post g (fun c d H => W c d σ H) q (match P.prop c f with
          | some g => (callN P k g [.loc n] q.S).calm
          | none => if P.fld c f then lift (look f fs) q.S else .bad) fun q d => ∀ v, RV g q d v → Q v q.H) I ?_) fun v s' hx => ?_)⟩
  · obtain ⟨p, env, rfl, ok, re, hp⟩ := tM.out hw
    refine into ok re hp fun q x v nx okq re' hv hp => ?_
    cases x with
    | loc n =>
      simp only at hp
      cases hn : q.S[n]? with
      | none => rw [hn] at hp; exact False.elim hp
      | some o =>
        rw [hn] at hp
        cases o with
        | ins c fs => exact ⟨q, n, c, fs, rfl, okq, hv, hn, hp⟩
        | _ => exact False.elim hp
    | _ => exact False.elim hp
  · obtain ⟨v', H1, I1, rv, q, n, c, fs, eH, okq, hv, hn, hp⟩ := hx
    subst eH
    obtain ⟨dx, gs, h1, h2⟩ := okq.insAt hn
    have hv0 := hv
    obtain ⟨hlt, ev⟩ := hv
    subst ev
    cases rv
    cases hpr : P.prop c f with
    | some m =>
      rw [hpr] at hp
      obtain ⟨c1, pr, c2⟩ := T.Z.prop c f m hpr
      rw [← T.hK] at c1 c2
      exact own_prop T okq I1 h1 c1 c2 hv0 hp.calm
    | none =>
      rw [hpr] at hp
      simp only at hp
      by_cases hf : P.fld c f = true
      · rw [if_pos hf] at hp
        obtain ⟨d, hd, hq⟩ := hp.lift rfl okq
        obtain ⟨w, h3, h4⟩ := h2.look hd
        obtain ⟨c1, c2⟩ := T.Z.fld c f hf
        rw [← T.hK] at c1 c2
        exact getattr_ok I1 h1 c1 c2 h3 fun u s2 I2 ru => ⟨w, q.H, I2, ru, hq w h4⟩
      · rw [if_neg hf] at hp
        exact False.elim hp
theorem eM_tup {es : List Expr} {pos : Pos} {x1 : Nat} {m : Env → Store → R (List D)} (he : PA X es (tMA g W m)) :
    PE X (.Tuple es x1 pos) (tM g W fun env S => (m env S).bind fun ds S => if ds.length ≤ szl then .ok (.tup ds) S else .bad) := PE.imp (pe_tupX he) fun σ H Q h => by
  obtain ⟨p, env, rfl, ok, re, hp⟩ := tM.out h
  refine intoA ok re hp fun q ds vs nx okq re' hv hp => ?_
  by_cases hz : ds.length ≤ szl
  · rw [if_pos hz] at hp
    refine ⟨by rw [← hv.len, ← szl_eq]; exact hz, end_tup (S := q.S) (hp.any fun _ _ => by simp) rfl okq hv⟩
  · rw [if_neg hz] at hp
    exact False.elim hp
theorem eM_lst {es : List Expr} {pos : Pos} {m : Env → Store → R (List D)} (he : PA X es (tMA g W m)) :
    PE X (.List es pos) (tM g W fun env S => (m env S).bind fun ds S => if ds.length ≤ szl then alloc (.lst ds) S else .bad) := PE.imp (pe_lst he) fun σ H Q h => by
  obtain ⟨p, env, rfl, ok, re, hp⟩ := tM.out h
  refine intoA ok re hp fun q ds vs nx okq re' hv hp => ?_
  by_cases hz : ds.length ≤ szl
  · rw [if_pos hz] at hp
    have hp2 : Post g NoX q (alloc (.lst ds) q.S) (EndV g Q) := hp.any fun _ _ => by simp [alloc]
    exact ⟨by rw [← hv.len, ← szl_eq]; exact hz, fun c hc => end_lst hp2 okq hv c hc⟩
  · rw [if_neg hz] at hp
    exact False.elim hp
theorem lift_calm {α : Type} (o : Option α) (S : Store) : ∀ e S', lift o S ≠ .exc e S' := by
  intro e S' h
  cases o <;> cases h
theorem idx_calm (x i : D) (S : Store) : ∀ e S', idxD x i S ≠ .exc e S' := by
  intro e S' h
  unfold idxD at h
  repeat' (split at h)
  all_goals first | cases h; done | exact lift_calm _ _ _ _ h
theorem eM_idx (hu : X.A.units + 1 < cLine) (hK : X.K = g.K) {a b : Expr} {pos : Pos} {m m' : Env → Store → R D} (hi : PlainIx b) (ha : PE X a (tM g W m)) (hb : PE X b (tM g W m')) :
    PE X (.Subscript a b pos) (tM g W fun env S => (m env S).bind fun x S => (m' env S).bind fun y S => idxD x y S) := PE.imp (pe_ix (ix_M hK hu) ha hb hi) fun σ H Q h => by
  obtain ⟨p, env, rfl, ok, re, hp⟩ := tM.out h
  refine into ok re hp fun q x v nx okq re' hv hp => ?_
  refine into okq re' hp fun q2 y w nx2 ok2 re2 hw hp => ?_
  exact ⟨q2, x, y, rfl, ok2, hv.nx nx2 okq, hw, hp.any (idx_calm x y q2.S)⟩
def tMO (g : Gs) (W : WX) (m : Env → Store → R (Option Int)) : TO := fun σ H Q => ∃ (p : Pl) (env : Env), p.H = H ∧ Ok g p ∧ RE g p env σ ∧ Post g (fun c d H => W c d σ H) p (m env p.S) fun q o => Q o q.H
theorem PO.imp {e : Option Expr} {t t' : TO} (h : PO X e t) (hi : ∀ σ H Q, t' σ H Q → t σ H Q) : PO X e t' := ⟨fun pins s σ H Q I hw => h.run pins s σ H Q I (hi σ H Q hw)⟩
theorem sli_calm (x : D) (l h : Option Int) (S : Store) : ∀ e S', sliD x l h none S ≠ .exc e S' := by
  intro e S' h
  unfold sliD at h
  repeat' (split at h)
  all_goals first | cases h; done | exact lift_calm _ _ _ _ h
end
end Mi
set_option maxRecDepth 100000
set_option maxHeartbeats 1000000
/-! S15: slices, built-ins, methods as expressions. -/
namespace Mi
open PySem PySem.Spec PyProof.Rows L2
def NE {α : Type} (r : R α) : Prop := ∀ x S, r ≠ .exc x S
theorem NE.ok {α : Type} (a : α) (S : Store) : NE (.ok a S) := fun _ _ h => by cases h
theorem NE.bad {α : Type} : NE (.bad : R α) := fun _ _ h => by cases h
theorem NE.lift {α : Type} (o : Option α) (S : Store) : NE (Mi.lift o S) := lift_calm o S
theorem NE.calm {α : Type} (r : R α) : NE r.calm := fun _ _ h => by cases r <;> cases h
theorem NE.alloc (o : MO) (S : Store) : NE (Mi.alloc o S) := fun _ _ h => by cases h
theorem NE.bind {α β : Type} {r : R α} {k : α → Store → R β} (h : NE r) (hk : ∀ a S, NE (k a S)) : NE (r.bind k) := fun x S e => by
  cases r with
  | ok a S' => exact hk a S' x S e
  | exc y S' => exact h y S' rfl
  | bad => cases e
theorem bi_ne (P : Prg) (cl : Cl) (b : Bi) (ds : List D) (S : Store) : NE (biE P cl b ds S) := by
  have own : ∀ (r : R D) (k : D → Store → R D), (∀ a S, NE (k a S)) → NE (r.calm.bind k) := fun r k hk => (NE.calm r).bind hk
  have h1 : ∀ d, NE (bi1 P cl b d S) := fun d => by
    cases b <;> simp only [bi1]
    case len =>
      unfold biLen
      (repeat' split) <;> first | exact NE.ok _ _ | exact NE.bad | exact own _ _ (fun a S => by ((repeat' split) <;> first | exact NE.ok _ _ | exact NE.bad | exact NE.lift _ _ | exact NE.calm _ | exact NE.alloc _ _))
    case str1 =>
      unfold biStr
      (repeat' split) <;> first | exact NE.ok _ _ | exact NE.bad | exact own _ _ (fun a S => by ((repeat' split) <;> first | exact NE.ok _ _ | exact NE.bad | exact NE.lift _ _ | exact NE.calm _ | exact NE.alloc _ _))
    case bool1 =>
      unfold biBool
      (repeat' split) <;> first | exact NE.lift _ _ | exact NE.bad | exact own _ _ (fun a S => by ((repeat' split) <;> first | exact NE.ok _ _ | exact NE.bad | exact NE.lift _ _ | exact NE.calm _ | exact NE.alloc _ _))
    case abs => unfold biAbs; ((repeat' split) <;> first | exact NE.ok _ _ | exact NE.bad | exact NE.lift _ _ | exact NE.calm _ | exact NE.alloc _ _)
    case int1 => unfold biInt; ((repeat' split) <;> first | exact NE.ok _ _ | exact NE.bad | exact NE.lift _ _ | exact NE.calm _ | exact NE.alloc _ _)
    case repr1 => unfold biRepr; ((repeat' split) <;> first | exact NE.ok _ _ | exact NE.bad | exact NE.lift _ _ | exact NE.calm _ | exact NE.alloc _ _)
    case list1 => unfold biList; ((repeat' split) <;> first | exact NE.ok _ _ | exact NE.bad | exact NE.lift _ _ | exact NE.calm _ | exact NE.alloc _ _)
    case tuple1 => unfold biTuple; ((repeat' split) <;> first | exact NE.ok _ _ | exact NE.bad | exact NE.lift _ _ | exact NE.calm _ | exact NE.alloc _ _)
    case sorted1 => unfold biSorted; ((repeat' split) <;> first | exact NE.bad | exact NE.alloc _ _)
    case dict1 => unfold biDict; ((repeat' split) <;> first | exact NE.ok _ _ | exact NE.bad | exact NE.lift _ _ | exact NE.calm _ | exact NE.alloc _ _)
    all_goals ((repeat' split) <;> first | exact NE.ok _ _ | exact NE.bad | exact NE.lift _ _ | exact NE.calm _ | exact NE.alloc _ _)
  have h2 : ∀ d e, NE (bi2 b d e S) := fun d e => by
    cases b <;> simp only [bi2]
    case min2 => unfold biMin2; ((repeat' split) <;> first | exact NE.ok _ _ | exact NE.bad | exact NE.lift _ _ | exact NE.calm _ | exact NE.alloc _ _)
    case max2 => unfold biMax2; ((repeat' split) <;> first | exact NE.ok _ _ | exact NE.bad | exact NE.lift _ _ | exact NE.calm _ | exact NE.alloc _ _)
    case divmod => unfold biDivmod; ((repeat' split) <;> first | exact NE.ok _ _ | exact NE.bad | exact NE.lift _ _ | exact NE.calm _ | exact NE.alloc _ _)
    all_goals ((repeat' split) <;> first | exact NE.ok _ _ | exact NE.bad | exact NE.lift _ _ | exact NE.calm _ | exact NE.alloc _ _)
  unfold biE
  split
  · unfold bi0; ((repeat' split) <;> first | exact NE.ok _ _ | exact NE.bad | exact NE.lift _ _ | exact NE.calm _ | exact NE.alloc _ _)
  · exact h1 _
  · exact h2 _ _
  · exact NE.bad
theorem mb_ne (m : Mb) (o : D) (ds : List D) (S : Store) : NE (mbE m o ds S) := by
  unfold mbE
  split
  · cases m <;> simp only <;> first | exact NE.bad | (unfold mbPop0; ((repeat' split) <;> first | exact NE.ok _ _ | exact NE.bad | exact NE.lift _ _ | exact NE.calm _ | exact NE.alloc _ _))
  · cases m <;> simp only [mb1] <;> first | exact NE.bad | (unfold mbAppend; ((repeat' split) <;> first | exact NE.ok _ _ | exact NE.bad | exact NE.lift _ _ | exact NE.calm _ | exact NE.alloc _ _); done) | (unfold mbPop1; ((repeat' split) <;> first | exact NE.ok _ _ | exact NE.bad | exact NE.lift _ _ | exact NE.calm _ | exact NE.alloc _ _); done) | (unfold mbIndex; ((repeat' split) <;> first | exact NE.ok _ _ | exact NE.bad | exact NE.lift _ _ | exact NE.calm _ | exact NE.alloc _ _); done) | (unfold mbCount; ((repeat' split) <;> first | exact NE.ok _ _ | exact NE.bad | exact NE.lift _ _ | exact NE.calm _ | exact NE.alloc _ _); done) | (unfold mbJoin; ((repeat' split) <;> first | exact NE.ok _ _ | exact NE.bad | exact NE.lift _ _ | exact NE.calm _ | exact NE.alloc _ _); done) | (unfold mbSplit; ((repeat' split) <;> first | exact NE.ok _ _ | exact NE.bad | exact NE.lift _ _ | exact NE.calm _ | exact NE.alloc _ _); done) | (unfold mbGet; ((repeat' split) <;> first | exact NE.ok _ _ | exact NE.bad | exact NE.lift _ _ | exact NE.calm _ | exact NE.alloc _ _); done)
  · cases m <;> simp only <;> first | exact NE.bad | (unfold mbGet; ((repeat' split) <;> first | exact NE.ok _ _ | exact NE.bad | exact NE.lift _ _ | exact NE.calm _ | exact NE.alloc _ _))
  · exact NE.bad
section
variable {X : Cx} {g : Gs} {W : WX} {P : Prg} {k : Nat}
theorem po_noneM : PO X none (tMO g W fun _ S => .ok none S) := PO.imp po_none fun σ H Q h => by
  obtain ⟨p, env, rfl, ok, re, hp⟩ := h
  exact hp.ok rfl ok
theorem po_someM {e : Expr} {m : Env → Store → R D} (he : PE X e (tM g W m)) : PO X (some e) (tMO g W fun env S => (m env S).bind fun d S => match d with | .int i => .ok (some i) S | _ => .bad) := PO.imp (po_some he) fun σ H Q h => by
  obtain ⟨p, env, rfl, ok, re, hp⟩ := h
  refine into (α := Option Int) (k := fun d S => match d with | .int i => .ok (some i) S | _ => .bad) ok re hp fun q x v nx okq re' hv hp => ?_
  cases x with
  | int i =>
    cases hv
    exact ⟨i, rfl, hp.ok rfl okq⟩
  | _ => exact False.elim hp
theorem intoO {m : Env → Store → R (Option Int)} {α : Type} {k : Option Int → Store → R α} {σ : L2.St} {p : Pl} {env : Env} {Kp : Pl → α → Prop} {Q : Option Int → Hp → Prop} (o : Ok g p) (re : RE g p env σ) (h : Post g (fun c d H => W c d σ H) p ((m env p.S).bind k) Kp)
    (hq : ∀ (q : Pl) (d : Option Int), Nx p q → Ok g q → RE g q env σ → Post g (fun c d H => W c d σ H) q (k d q.S) Kp → Q d q.H) : tMO g W m σ p.H Q :=
  ⟨p, env, rfl, o, re, h.bind.mono fun q d n oq hp => hq q d n oq (re.nx n o) hp⟩
theorem eM_sli (hK : X.K = g.K) {a : Expr} {lo hi : Option Expr} {pos p2 : Pos} {m : Env → Store → R D} {ml mh : Env → Store → R (Option Int)} (ha : PE X a (tM g W m)) (hl : PO X lo (tMO g W ml)) (hh : PO X hi (tMO g W mh)) :
    PE X (.Subscript a (.Slice lo hi none p2) pos) (tM g W fun env S => (m env S).bind fun x S => (ml env S).bind fun l S => (mh env S).bind fun h S => sliD x l h none S) := PE.imp (pe_slice (sl_M hK) ha hl hh) fun σ H Q h => by
  obtain ⟨p, env, rfl, ok, re, hp⟩ := tM.out h
  refine into ok re hp fun q x v nx okq re' hv hp => ?_
  refine intoO okq re' hp fun q2 l nx2 ok2 re2 hp => ?_
  refine intoO ok2 re2 hp fun q3 h nx3 ok3 re3 hp => ?_
  exact ⟨q3, x, rfl, ok3, (hv.nx nx2 okq).nx nx3 ok2, hp.any (sli_calm x l h q3.S)⟩
/-- a built-in, called with values -/
theorem eM_bi {x : PySem.Str} {xp pos : Pos} {e : Expr} {es : List Expr} {mA : Env → Store → R (List D)} {id : String} {b : Bi} {cl : Cl} (hc : CallR X (.builtin id) (rBi g P cl b)) (hg : Gl X x) (hm : X.mg x = none) (hv : bootBuiltins x = some (.builtin id)) (hn : x ≠ PySem.Str.ofString "__name__") (hdb : (x == PySem.Str.ofString "__debug__") = false)
    (hes : (e :: es).all notStar = true) (hA : PA X (e :: es) (tMA g W mA)) : PE X (.Call (.Name x xp) (e :: es) [] pos) (tM g W fun env S => (mA env S).bind fun ds S => biE P cl b ds S) := by
  have he : notStar e = true := by simp at hes; exact hes.1
  have hes2 : es.all notStar = true := by simp at hes ⊢; exact hes.2
  exact PE.imp (pe_callB hc hg hm hv hA hn hdb (star_cons he _ _) (star_any hes2)) fun σ H Q h => by
    obtain ⟨p, env, rfl, ok, re, hp⟩ := tM.out h
    refine intoA ok re hp fun q ds vs nx okq re' hv hp => ?_
    exact ⟨q, ds, rfl, okq, hv, hp.any (bi_ne P cl b ds q.S)⟩
theorem eM_biT {x : PySem.Str} {xp pos : Pos} {e : Expr} {es : List Expr} {mA : Env → Store → R (List D)} {Ty : String} {b : Bi} {cl : Cl} (hc : CallR X (.type Ty) (rBi g P cl b)) (hg : Gl X x) (hm : X.mg x = none) (hv : bootBuiltins x = some (.type Ty)) (hn : x ≠ PySem.Str.ofString "__name__") (hdb : (x == PySem.Str.ofString "__debug__") = false)
    (hes : (e :: es).all notStar = true) (hA : PA X (e :: es) (tMA g W mA)) : PE X (.Call (.Name x xp) (e :: es) [] pos) (tM g W fun env S => (mA env S).bind fun ds S => biE P cl b ds S) := by
  have he : notStar e = true := by simp at hes; exact hes.1
  have hes2 : es.all notStar = true := by simp at hes ⊢; exact hes.2
  exact PE.imp (pe_callTy hc hg hm hv hA hn hdb (star_cons he _ _) (star_any hes2)) fun σ H Q h => by
    obtain ⟨p, env, rfl, ok, re, hp⟩ := tM.out h
    refine intoA ok re hp fun q ds vs nx okq re' hv hp => ?_
    exact ⟨q, ds, rfl, okq, hv, hp.any (bi_ne P cl b ds q.S)⟩
/-- isinstance(x, T) -/
theorem eM_is1 (T : At X g P k W) {x : PySem.Str} {xp pos : Pos} {e c : Expr} {m : Env → Store → R D} {t : Ty} (hx : x = PySem.Str.ofString "isinstance") (hg : Gl X x) (hm : X.mg x = none) (hes : notStar e = true) (hcs : notStar c = true) (he : PE X e (tM g W m)) (hc : PE X c (tC (t.v g))) :
    PE X (.Call (.Name x xp) [e, c] [] pos) (tM g W fun env S => (m env S).bind fun d S => lift ((isTy P S d t).map .bl) S) := by
  subst hx
  exact PE.imp (pe_callB (bi_is1 T.hK T.Z t) hg hm boot_isinstance (pa_cons he (pa_cons hc pa_nil (star_cons hcs _ _)) (star_cons hes _ _)) (by decide) (by decide) (star_cons hes _ _) (star_any (by simp [hcs]))) fun σ H Q h => by
    obtain ⟨p, env, rfl, ok, re, hp⟩ := tM.out h
    refine into ok re hp fun q d v nx okq re' hv hp => ?_
    obtain ⟨a, ha, hq⟩ := hp.lift rfl okq
    obtain ⟨b, hb, e⟩ := Option.map_eq_some_iff.mp ha
    subst e
    exact ⟨v, q, d, b, rfl, rfl, okq, hv, hb, hq _ rfl⟩
/-- a method of a list -/
theorem eM_mbL (hK : X.K = g.K) {o e : Expr} {es : List Expr} {m : Env → Store → R D} {mA : Env → Store → R (List D)} {name : PySem.Str} {apos cpos : Pos} {id : String} {b : Mb} (hb : b.ty = "list") (slot : Slot "list" name id) (hty : typeOf (.builtin id) = pure (.type "method_descriptor")) (hm : MtR X id (rMb g b)) (hpb : plainBase o = true) (hpos : (apos.endLine == cpos.line) = true)
    (hes : (e :: es).all notStar = true) (hlen : (e :: es).length < 30) (ho : PE X o (tM g W m)) (hA : PA X (e :: es) (tMA g W mA)) :
    PE X (.Call (.Attribute o name apos) (e :: es) [] cpos) (tM g W fun env S => (m env S).bind fun x S => if mbOk b x S then (mA env S).bind fun ds S => mbE b x ds S else .bad) := by
  have he : notStar e = true := by simp at hes; exact hes.1
  have hes2 : es.all notStar = true := by simp at hes ⊢; exact hes.2
  have hall : (((backTo cpos (starEach (e :: es) X.env)).all fun x => !x.1) && (backToKw cpos (keywordEach [] X.env)).all (fun x => x.1.isSome) && decide (((e :: es).length + ([] : List Keyword).length + if ([] : List Keyword).isEmpty = true then 0 else 1) < 30)) = true := by
    have h1 := star_any (pos := cpos) (env := X.env) hes
    have h2 : ((backTo cpos (starEach (e :: es) X.env)).all fun x => !x.1) = true := by
      rw [List.all_eq_true]
      rw [List.any_eq_false] at h1
      intro x hx
      have := h1 x hx
      simpa using this
    rw [h2]
    simp only [Bool.true_and, Bool.and_eq_true, decide_eq_true_eq]
    exact ⟨rfl, by simpa using hlen⟩
  exact PE.imp (pe_bm PySem.F.plainAttrs_list slot hty hm ho hA (base_of hpb _ _ _) hall hpos (star_cons he _ _) (star_any hes2)) fun σ H Q h => by
    obtain ⟨p, env, rfl, ok, re, hp⟩ := tM.out h
    refine into ok re hp fun q x v nx okq re' hv hp => ?_
    by_cases hok : mbOk b x q.S = true
    · rw [if_pos hok] at hp
      refine ⟨mbOk_list hK okq hb hok hv, intoA okq re' hp fun q2 ds vs nx2 ok2 re2 hvs hp => ?_⟩
      exact ⟨q2, x, ds, rfl, ok2, hv.nx nx2 okq, hvs, hp.any (mb_ne b x ds q2.S)⟩
    · rw [if_neg hok] at hp
      exact False.elim hp
theorem eM_mbL0 (hK : X.K = g.K) {o : Expr} {m : Env → Store → R D} {name : PySem.Str} {apos cpos : Pos} {id : String} {b : Mb} (hb : b.ty = "list") (slot : Slot "list" name id) (hty : typeOf (.builtin id) = pure (.type "method_descriptor")) (hm : MtR X id (rMb g b)) (hpb : plainBase o = true) (hpos : (apos.endLine == cpos.line) = true) (ho : PE X o (tM g W m)) :
    PE X (.Call (.Attribute o name apos) [] [] cpos) (tM g W fun env S => (m env S).bind fun x S => if mbOk b x S then mbE b x [] S else .bad) :=
  PE.imp (pe_bm0 PySem.F.plainAttrs_list slot hty hm ho (base_of hpb _ _ _) hpos) fun σ H Q h => by
    obtain ⟨p, env, rfl, ok, re, hp⟩ := tM.out h
    refine into ok re hp fun q x v nx okq re' hv hp => ?_
    by_cases hok : mbOk b x q.S = true
    · rw [if_pos hok] at hp
      exact ⟨mbOk_list hK okq hb hok hv, q, x, [], rfl, okq, hv, rfl, hp.any (mb_ne b x [] q.S)⟩
    · rw [if_neg hok] at hp
      exact False.elim hp
end
end Mi
set_option maxRecDepth 100000
set_option maxHeartbeats 1000000
/-! N1: own methods called, stars in displays. -/
namespace Mi
open PySem PySem.Spec PyProof.Rows L2
/-- o.m(..), whatever m is -/
theorem wpAny_mcall {M : Model} {A : Around} {E : Value → Shared → Prop} {s : Shared} {env : PySem.Env} {o : Expr} {name : PySem.Str} {apos pos : Pos} {args : List Expr} {kws : List Keyword} {Q : Value → Shared → Prop}
    (hbase : attributeBase o name env (eval o env) = eval o env) (hform : methodCallForm (args.length + kws.length) (backTo pos (starEach args env)) (backToKw pos (keywordEach kws env)) = true) (hline : (apos.endLine == pos.line) = true)
    (h : wpAny M A (eval o env) (fun ov s₁ => wpAny M A (getMethod ov name (do return (← importBound o env).getD true)) (fun fx s₂ => wpAny M A (callWith pos fx.1 fx.2 (backTo pos (starEach args env)) (backToKw pos (keywordEach kws env))) Q E s₂) E s₁) E s) :
    wpAny M A (eval (.Call (.Attribute o name apos) args kws pos) env) Q E s := by
  rw [arm_eval_Call, hbase]
  refine wpAny_bind (wpAny_mono h (fun ov s₁ h₁ => wpAny_bind (wpAny_standAt ?_)) fun _ _ e => e)
  have hpos : methodCallPos true o env apos pos = pure pos := by unfold methodCallPos; simp [hline]
  unfold methodCall
  rw [hform]
  refine wpAny_bind (wpAny_holding (wpAny_mono h₁ (fun fx s₂ h₂ => ?_) fun _ _ e => e))
  exact wpAny_bind (wpAny_of_eq hpos h₂)
theorem form_ok {args : List Expr} {kws : List Keyword} {pos : Pos} {env : PySem.Env} (hes : args.all notStar = true) (hkw : kwNamed kws = true) (hlen : args.length + kws.length < 29) : methodCallForm (args.length + kws.length) (backTo pos (starEach args env)) (backToKw pos (keywordEach kws env)) = true := by
  unfold methodCallForm
  have h1 := star_any (pos := pos) (env := env) hes
  have h2 : ((backTo pos (starEach args env)).all fun x => !x.1) = true := by
    rw [List.all_eq_true]
    rw [List.any_eq_false] at h1
    intro x hx
    have := h1 x hx
    simpa using this
  rw [h2, kw_named hkw]
  simp only [Bool.true_and, decide_eq_true_eq]
  split <;> omega
section
variable {X : Cx} {g : Gs} {W : WX} {P : Prg} {k : Nat}
/-- o.m(..), m a method of o's own class -/
theorem eM_mth (T : At X g P k W) {o : Expr} {m : String} {apos pos : Pos} {es : List Expr} {kws : List Keyword} {mo : Env → Store → R D} {mA mK : Env → Store → R (List D)} {perm : List Nat} {ks : List String} (hpb : plainBase o = true) (hpos : (apos.endLine == pos.line) = true) (hlen : es.length + kws.length < 29)
    (ho : PE X o (tM g W mo)) (hes : es.all notStar = true) (hkw : kwNamed kws = true) (hA : PA X es (tMA g W mA)) (hKk : PK X kws (tMA g W mK)) (lA : ∀ env S ds S', mA env S = .ok ds S' → ds.length = es.length) (lK : ∀ env S ds S', mK env S = .ok ds S' → ds.length = kws.length)
    (nA : es = [] → mA = fun _ S => .ok [] S) (nK : kws = [] → mK = fun _ S => .ok [] S) (hks : kwNames kws = ks.map PySem.Str.ofString) (hpm : if ks = [] then perm = [] else ∀ c n, P.meth c m = some n → P.kws n (es.length + 1) ks = some perm) :
    PE X (.Call (.Attribute o (PySem.Str.ofString m) apos) es kws pos) (tM g W fun env S => (mo env S).bind fun x S => match x with
      | .loc n => match S[n]? with
        | some (.ins c fs) => match P.meth c m with
          | some g => if (look m fs).isNone then (mA env S).bind fun ds S => (mK env S).bind fun zs S => callN P k g (permD perm (x :: (ds ++ zs))) S else .bad
          | none => .bad
        | _ => .bad
      | _ => .bad) := by
  refine ⟨fun pins s σ H Q I hw => ?_⟩
  have hlk : kws.length = ks.length := by
    have h1 : (kwNames kws).length = kws.length := by
      clear hks hKk lK nK hlen
      induction kws with
      | nil => rfl
      | cons a r ih =>
        simp only [kwNamed, List.all_cons, Bool.and_eq_true] at hkw
        unfold kwNames at ih ⊢
        obtain ⟨z, hz⟩ := Option.isSome_iff_exists.mp hkw.1
        rw [List.filterMap_cons, hz]
        simp only [List.length_cons]
        rw [ih hkw.2]
    rw [← h1, hks, List.length_map]
  refine wpAny_mcall (base_of hpb _ _ _) (form_ok hes hkw hlen) hpos (thn (ho.run pins s σ H (fun v H1 => ∃ q env n c fs g', q.H = H1 ∧ Ok g q ∧ RE g q env σ ∧ RV g q (.loc n) v ∧ q.S[n]? = some (.ins c fs) ∧ P.meth c m = some g' ∧ (look m fs).isNone = true ∧
      Post g (fun c d H => W c d σ H) q ((mA env q.S).bind fun ds S => (mK env S).bind fun zs S => callN P k g' (permD perm (.loc n :: (ds ++ zs))) S) fun q d => ∀ v, RV g q d v → Q v q.H) I ?_) fun u s1 hx => ?_)
  · obtain ⟨p, env, rfl, ok, re, hp⟩ := tM.out hw
    refine into ok re hp fun q x v nx okq re' hv hp => ?_
    cases x with
    | loc n =>
      simp only at hp
      cases hn : q.S[n]? with
      | none => rw [hn] at hp; exact False.elim hp
      | some ob =>
        rw [hn] at hp
        cases ob with
        | ins c fs =>
          simp only at hp
          cases hm : P.meth c m with
          | none => rw [hm] at hp; exact False.elim hp
          | some g' =>
            rw [hm] at hp
            simp only at hp
            by_cases hl : (look m fs).isNone = true
            · rw [if_pos hl] at hp
              exact ⟨q, env, n, c, fs, g', rfl, okq, re', hv, hn, hm, hl, hp⟩
            · rw [if_neg hl] at hp
              exact False.elim hp
        | _ => exact False.elim hp
    | _ => exact False.elim hp
  · obtain ⟨v, H1, I1, rx, q, env, n, c, fs, g', rfl, okq, re', hv, hn, hm, hl, hp⟩ := hx
    obtain ⟨dx, gs, ea, rf⟩ := okq.insAt hn
    obtain ⟨hlt, rfl⟩ : n < q.S.length ∧ v = .ref (q.ρ n) := by
      simp only [RV] at hv
      exact hv
    obtain rfl : u = Value.ref (q.ρ n) := rx
    obtain ⟨hc, hme⟩ := T.Z.meth c m g' hm
    rw [← T.hK] at hc hme
    refine getmeth_ok I1 ea hc hme (RF.none rf hl) ?_
    have kp : PySem.W.keepIn X.K (.ref (g.ad g')) = true := hme.kp
    refine args_M (first := [.ref (q.ρ n)]) (kk := fun ds S => callN P k g' (permD perm (.loc n :: ds)) S) hes hkw hA hKk lA lK nA nK kp okq re' I1 hp fun q2 ds vs us ws s' nx ok2 I' rv r lu lw hk => ?_
    rw [hks]
    have hv2 : RV g q2 (.loc n) (.ref (q.ρ n)) := RV.nx nx okq _ _ hv
    have r2 : Vals (V.ref (q.ρ n) :: vs) (([Value.ref (q.ρ n)] ++ us) ++ ws) := Paired.cons (F := RelV) rfl r
    refine own_runK (us := [.ref (q.ρ n)] ++ us) T.Fs (T.sub (by omega)) T.tk rfl ok2 I' (RVs.cons hv2 rv) r2 (by rw [lw, hlk]) ?_ hk
    by_cases e : ks = []
    · rw [if_pos e] at hpm ⊢
      exact hpm
    · rw [if_neg e] at hpm ⊢
      have := hpm c g' hm
      simpa [lu, Nat.add_comm] using this
/-- elements with stars -/
def esS (f : Expr → E) : List Expr → Es
  | [] => .nil
  | .Starred e _ :: r => .star (f e) (esS f r)
  | e :: r => .cons (f e) (esS f r)
theorem pa_stars (hK : X.K = g.K) (cl : Cl) (f : Expr → E) (hf : ∀ e, PE X e (tM g W (evE P cl (f e)))) : ∀ l : List Expr, PA X l (tMA g W (evEs P cl (esS f l)))
  | [] => pa_nilM
  | e :: l => by
    by_cases h : notStar e = true
    · have : esS f (e :: l) = .cons (f e) (esS f l) := by cases e <;> first | rfl | cases h
      rw [this]
      have e2 : evEs P cl (.cons (f e) (esS f l)) = fun env S => (evE P cl (f e) env S).bind fun d S => (evEs P cl (esS f l) env S).bind fun ds S => .ok (d :: ds) S := by
        funext env S
        simp only [evEs]
      rw [e2]
      exact pa_consM h (hf e) (pa_stars hK cl f hf l)
    · cases e <;> first | exact absurd rfl h | skip
      rename_i e sp
      have e2 : evEs P cl (esS f (.Starred e sp :: l)) = fun env S => (evE P cl (f e) env S).bind fun d S => match itemsOf S d with
          | some xs => (evEs P cl (esS f l) env S).bind fun ds S => .ok (xs ++ ds) S
          | none => .bad := by
        funext env S
        simp only [esS, evEs] <;> rfl
      rw [e2]
      refine PA.imp (StX.pa_star (hf e) (pa_stars hK cl f hf l)) fun σ H Q h => ?_
      obtain ⟨p, env, rfl, ok, re, hp⟩ := tMA.out h
      refine into ok re hp fun q d v nx okq re' hv hp => ?_
      cases hi : itemsOf q.S d with
      | none => rw [hi] at hp; exact False.elim hp
      | some xs =>
        rw [hi] at hp
        obtain ⟨a, ys, rfl, hs, rv, _⟩ := itemsOf_ok okq hi hv
        refine ⟨a, ys, rfl, ?_, ?_⟩
        · rw [hK]
          exact hs.symm
        · refine intoA okq re' hp fun q2 ds vs nx2 ok2 re2 hvs hp2 => ?_
          exact hp2.ok rfl ok2 _ ((rv.nx nx2 okq).append hvs)
end
end Mi
set_option maxRecDepth 100000
set_option maxHeartbeats 1000000
/-! N2: methods of texts and tuples. -/
namespace Mi
open PySem PySem.Spec PyProof.Rows L2
theorem splitC_spl (c : Nat) : ∀ (l acc : List Nat), TL.spl [c] 0 acc l = splitC c acc l
  | [], acc => rfl
  | x :: r, acc => by
    by_cases h : x = c
    · have hp : TL.pre [c] (x :: r) = true := by simp [TL.pre, h]
      rw [TL.spl_hit hp]
      simp only [splitC, if_pos h, List.length_cons, List.length_nil]
      exact congrArg _ (splitC_spl c r [])
    · have hp : TL.pre [c] (x :: r) = false := by simp [TL.pre, h]
      show (if TL.pre [c] (x :: r) = true then _ else TL.spl [c] 0 (acc ++ [x]) r) = _
      rw [hp]
      simp only [Bool.false_eq_true, if_false, splitC, if_neg h]
      exact splitC_spl c r (acc ++ [x])
theorem splitC_ok {c : Nat} : ∀ {l acc : List Nat}, okS l = true → okS acc = true → ∀ t ∈ splitC c acc l, okS t = true
  | [], acc, _, h, t, ht => by
    simp only [splitC, List.mem_singleton] at ht
    subst ht; exact h
  | x :: r, acc, hl, h, t, ht => by
    rw [okS_cons] at hl
    simp only [Bool.and_eq_true] at hl
    simp only [splitC] at ht
    split at ht
    · rcases List.mem_cons.mp ht with e | ht
      · subst e; exact h
      · exact splitC_ok hl.2 rfl t ht
    · exact splitC_ok hl.2 (okS_append h (by rw [okS_cons]; simp only [Bool.and_eq_true]; exact ⟨hl.1, rfl⟩)) t ht
theorem strs_rv {g : Gs} {p : Pl} : ∀ {l : List D} {ts : List (List Nat)} {xs : List V}, strsOf l = some ts → RVs g p l xs → xs = (ts.map strS).map V.str ∧ ∀ t ∈ ts, okS t = true
  | [], ts, xs, h, r => by
    simp only [strsOf, Option.some.injEq] at h
    subst h
    simp only [RVs] at r
    subst r
    exact ⟨rfl, by simp⟩
  | d :: l, ts, xs, h, r => by
    simp only [RVs] at r
    obtain ⟨v, vs, rfl, hv, r⟩ := r
    cases d <;> simp only [strsOf] at h <;> try (cases h; done)
    rename_i s
    split at h
    · rename_i l2 hl2
      cases h
      obtain ⟨e, h2⟩ := strs_rv hl2 r
      simp only [RV] at hv
      obtain ⟨rfl, ho⟩ := hv
      subst e
      refine ⟨by simp, fun t ht => ?_⟩
      rcases List.mem_cons.mp ht with e | ht
      · subst e; exact ho
      · exact h2 t ht
    · cases h
theorem RVs.ofStrs {g : Gs} {p : Pl} : ∀ {ts : List (List Nat)}, (∀ t ∈ ts, okS t = true) → RVs g p (ts.map .str) ((ts.map strS).map V.str)
  | [], _ => RVs.nil
  | t :: r, h => RVs.cons (by simp only [RV]; exact ⟨trivial, h t List.mem_cons_self⟩) (RVs.ofStrs fun u hu => h u (List.mem_cons_of_mem _ hu))
theorem TxtJ (sep : List Nat) (ts : List (List Nat)) : Txt.join (strS sep) (ts.map strS) = PySem.Str.join (strS sep) (ts.map strS) := TL.join_eq _ _
section
variable {X : Cx} {g : Gs}
theorem mt_joinM (hK : X.K = g.K) : MtR X "str.join" (rMb g .join) := by
  intro pins s σ H x xs v us Q I rx rs h
  obtain ⟨p, o, d, y, rfl, rfl, ok, ho, hd, hp⟩ := rMb_one (by decide) (by decide) h
  cases o <;> try exact False.elim hp
  rename_i sep
  simp only [RV] at ho
  obtain ⟨rfl, hs⟩ := ho
  simp only [mb1, mbJoin] at hp
  cases hi : (itemsOf p.S d).bind strsOf with
  | none => rw [hi] at hp; exact False.elim hp
  | some ts =>
    rw [hi] at hp
    obtain ⟨l, hl, hts⟩ := Option.bind_eq_some_iff.mp hi
    obtain ⟨a, ys, rfl, hsq, rv, _⟩ := itemsOf_ok ok hl hd
    obtain ⟨rfl, hok⟩ := strs_rv hts rv
    simp only at hp
    split at hp
    · rename_i hlen
      refine mt_join pins s σ p.H (.str (strS sep)) [.ref a] v us Q I rx rs ⟨strS sep, a, ts.map strS, rfl, rfl, ?_, ?_, ?_⟩
      · rw [hK]; exact hsq
      · have h1 : ∀ ts : List (List Nat), ((ts.map strS).map (·.length)).sum ≤ (joinS sep ts).length := fun ts => by
          induction ts with
          | nil => simp
          | cons t r ih =>
            cases r with
            | nil => simp [joinS, strS_len]
            | cons u r =>
              simp only [List.map_cons, List.sum_cons, joinS, List.length_append, strS_len] at ih ⊢
              omega
        have h2 := h1 ts
        rw [List.length_map, strS_len]
        omega
      · have e : Txt.join (strS sep) (ts.map strS) = strS (joinS sep ts) := by
          rw [← join_text]
          exact TxtJ sep ts
        rw [e]
        have ho := joinS_ok hs hok
        exact hp.ok rfl ok (.str (strS (joinS sep ts))) (by simp only [RV]; exact ⟨trivial, ho⟩)
    · exact False.elim hp
theorem end_new {p : Pl} {Q : VK} {l : List D} {xs : List V} (h : Post g NoX p (alloc (.lst l) p.S) (EndV g Q)) (ok : Ok g p) (r : RVs g p l xs) (a : Addr) (hn : p.H a = none) : Q (.ref a) (upd p.H a (.lst xs)) := end_lst h ok r a hn
theorem mt_splitM : MtR X "str.split" (rMb g .split) := by
  intro pins s σ H x xs v us Q I rx rs h
  obtain ⟨p, o, d, y, rfl, rfl, ok, ho, hd, hp⟩ := rMb_one (by decide) (by decide) h
  cases o <;> try exact False.elim hp
  rename_i t
  simp only [RV] at ho
  obtain ⟨rfl, hs⟩ := ho
  cases d <;> try exact False.elim hp
  rename_i z
  match z, hd, hp with
  | [], hd, hp => exact False.elim hp
  | _ :: _ :: _, hd, hp => exact False.elim hp
  | [c], hd, hp =>
    simp only [RV] at hd
    obtain ⟨rfl, hc⟩ := hd
    simp only [mb1, mbSplit] at hp
    split at hp
    · rename_i hz
      have hok := splitC_ok (c := c) hs (show okS [] = true from rfl)
      have hb := hz.2
      · have e : Txt.split (strS t) (strS [c]) = (splitC c [] t).map strS := by
          rw [← splitC_spl]
          exact SX.split_S (by simp) (by simp [hb])
        refine mt_split pins s σ p.H (.str (strS t)) [.str (strS [c])] v us Q I rx rs ⟨strS t, strS [c], rfl, rfl, rfl, ?_, ?_⟩
        · rw [strS_len, ← szl_eq]; exact hz.1
        · rw [e]
          intro a hn
          exact end_new hp ok (RVs.ofStrs hok) a hn
    · exact False.elim hp
theorem strS_bne (a b : List Nat) : (strS a = strS b) ↔ a = b := ⟨strS_inj, fun h => by rw [h]⟩
theorem mt_tupIdxM (hK : X.K = g.K) : MtR X "tuple.index" (rMb g .index) := by
  intro pins s σ H x xs v us Q I rx rs h
  obtain ⟨p, o, d, y, rfl, rfl, ok, ho, hd, hp⟩ := rMb_one (by decide) (by decide) h
  cases o <;> try exact False.elim hp
  rename_i l
  cases d <;> try exact False.elim hp
  rename_i z
  simp only [RV] at hd
  obtain ⟨rfl, hz⟩ := hd
  simp only [mb1, mbIndex] at hp
  cases hi : strsOf l with
  | none => rw [hi] at hp; exact False.elim hp
  | some ts =>
    rw [hi] at hp
    simp only at hp
    cases hk : ts.findIdx? (fun w => w == z) with
    | none => rw [hk] at hp; exact False.elim hp
    | some j =>
      rw [hk] at hp
      simp only at hp
      simp only [RV] at ho
      obtain ⟨a, ws, rfl, hs, rv⟩ := ho
      obtain ⟨rfl, hok⟩ := strs_rv hi rv
      rw [List.findIdx?_eq_some_iff_getElem] at hk
      obtain ⟨hj, h1, h2⟩ := hk
      refine mt_tup_index pins s σ p.H (.ref a) [.str (strS z)] v us Q I rx rs ⟨a, ts.map strS, strS z, j, rfl, rfl, ?_, ?_, fun m hm e => ?_, ?_⟩
      · rw [hK]; exact hs.sqT
      · rw [List.getElem?_map, List.getElem?_eq_getElem hj]
        simp only [Option.map_some, Option.some.injEq]
        rw [beq_iff_eq.mp h1]
      · rw [List.getElem?_map, List.getElem?_eq_getElem (by omega)] at e
        simp only [Option.map_some, Option.some.injEq] at e
        have := h2 m hm
        rw [strS_inj e] at this
        simp at this
      · exact hp.ok rfl ok (.int j) (by simp only [RV])
theorem sortI_ins (i : Int) : ∀ l : List Int, (insSortI i l).Perm (i :: l)
  | [] => .refl _
  | j :: r => by
    simp only [insSortI]
    split
    · exact .refl _
    · exact ((sortI_ins i r).cons j).trans (.swap _ _ _)
theorem sortI_perm : ∀ l : List Int, (sortI l).Perm l
  | [] => .refl _
  | i :: r => (sortI_ins i (sortI r)).trans ((sortI_perm r).cons i)
theorem ins_pw (i : Int) : ∀ l : List Int, l.Pairwise (· ≤ ·) → (insSortI i l).Pairwise (· ≤ ·)
  | [], _ => by simp [insSortI]
  | j :: r, h => by
    simp only [insSortI]
    rw [List.pairwise_cons] at h
    split
    · rename_i c
      rw [List.pairwise_cons]
      refine ⟨fun x hx => ?_, List.pairwise_cons.mpr h⟩
      rcases List.mem_cons.mp hx with e | hx
      · omega
      · have := h.1 x hx; omega
    · rename_i c
      rw [List.pairwise_cons]
      refine ⟨fun x hx => ?_, ins_pw i r h.2⟩
      rcases List.mem_cons.mp ((sortI_ins i r).subset hx) with e | hx
      · omega
      · exact h.1 x hx
theorem sortI_pw : ∀ l : List Int, (sortI l).Pairwise (· ≤ ·)
  | [] => .nil
  | i :: r => ins_pw i _ (sortI_pw r)
theorem sort_uniq : ∀ {a b : List Int}, a.Perm b → a.Pairwise (· ≤ ·) → b.Pairwise (· ≤ ·) → a = b := fun h h1 h2 => List.Perm.eq_of_pairwise (fun x y _ _ h3 h4 => Int.le_antisymm h3 h4) h1 h2 h
theorem bi_sorted {P : Prg} {cl : Cl} (hK : X.K = g.K) : CallR X (.builtin "sorted") (rBi g P cl .sorted1) := by
  intro pins s σ H xs us Q I r h
  obtain ⟨x, rfl, p, d, rfl, ok, hd, hp⟩ := rBi_one (by intro; rfl) (by intros; rfl) h
  simp only [bi1, biSorted] at hp
  cases hi : (lstOf p.S d).bind intsOf with
  | none => rw [hi] at hp; exact False.elim hp
  | some ns =>
    rw [hi] at hp
    simp only at hp
    split at hp
    · rename_i hlt
      obtain ⟨a, rfl, hs⟩ := ints_of hK ok hi hd
      refine cr_sorted pins s σ p.H _ us Q I r ⟨a, ns, rfl, hs, hlt, fun ns' b h1 h2 hn => ?_⟩
      have e : ns' = sortI ns := sort_uniq (h1.trans (sortI_perm ns).symm) h2 (sortI_pw ns)
      subst e
      refine end_new hp ok ?_ b hn
      generalize sortI ns = js
      induction js with
      | nil => exact RVs.nil
      | cons a r ih => exact RVs.cons (by simp only [RV]) ih
    · exact False.elim hp
end
end Mi
set_option maxRecDepth 100000
set_option maxHeartbeats 1000000
/-! N3: methods of texts and tuples, as expressions. -/
namespace Mi
open PySem PySem.Spec PyProof.Rows L2
/-- what getMethod wants of a built-in's own value -/
def TyAt (X : Cx) (T : String) (x : V) (H : Hp) : Prop := ∀ (pins : List (Addr × Obj)) (s : Shared) (σ : L2.St) (v : Value), Inv X pins σ H s → RelV x v → s.TypeIs v T ∧ ∀ a, v = .ref a → ∃ ob, s.heap.get? a = some ob ∧ ob.dict = none
def tBMX (X : Cx) (T : String) (r : V → List V → Hp → VK → Prop) (to : TE) (t : TA) : TE := fun σ H Q => to σ H fun x H1 => TyAt X T x H1 ∧ t σ H1 fun xs H2 => r x xs H2 Q
def tBMX0 (X : Cx) (T : String) (r : V → List V → Hp → VK → Prop) (to : TE) : TE := fun σ H Q => to σ H fun x H1 => TyAt X T x H1 ∧ r x [] H1 Q
section
variable {X : Cx} {o e : Expr} {es : List Expr} {to : TE} {t : TA} {name : PySem.Str} {apos cpos : Pos} {T id : String} {r : V → List V → Hp → VK → Prop}
theorem pe_bmX0 (pa : PlainAttrs T) (slot : Slot T name id) (hty : typeOf (.builtin id) = pure (.type "method_descriptor")) (hm : MtR X id r) (ho : PE X o to)
    (hbase : attributeBase o name X.env (eval o X.env) = eval o X.env) (hline : (apos.endLine == cpos.line) = true) : PE X (.Call (.Attribute o name apos) [] [] cpos) (tBMX0 X T r to) := by
  refine ⟨fun pins s σ H Q I h => ?_⟩
  refine wpAny_Call_method0_late hbase hline (thn (ho.run pins s σ H _ I h) fun v s1 ⟨x, H1, I1, r1, ty, q1⟩ => ?_)
  obtain ⟨h1, h2⟩ := ty pins s1 σ v I1 r1
  exact ⟨T, id, pa, slot, hty, h1, h2, Calls.callWith_builtin rfl (PySem.evalArgs_none (hm pins s1 σ H1 x [] v [] Q I1 r1 .nil q1))⟩
theorem pe_bmX (pa : PlainAttrs T) (slot : Slot T name id) (hty : typeOf (.builtin id) = pure (.type "method_descriptor")) (hm : MtR X id r) (ho : PE X o to) (ha : PA X (e :: es) t)
    (hbase : attributeBase o name X.env (eval o X.env) = eval o X.env)
    (hfew : ((backTo cpos (starEach (e :: es) X.env)).all (fun x => !x.1) && (backToKw cpos (keywordEach [] X.env)).all (fun x => x.1.isSome)
      && decide ((e :: es).length + ([] : List Keyword).length + (if ([] : List Keyword).isEmpty then 0 else 1) < 30)) = true)
    (hline : (apos.endLine == cpos.line) = true) (hs : starEach (e :: es) X.env = (false, eval e X.env) :: starEach es X.env) (hplain : (backTo cpos (starEach es X.env)).any (·.1) = false) :
    PE X (.Call (.Attribute o name apos) (e :: es) [] cpos) (tBMX X T r to t) := by
  refine ⟨fun pins s σ H Q I h => ?_⟩
  refine wpAny_Call_method_late hbase hfew hline rfl (thn (ho.run pins s σ H _ I h) fun v s1 ⟨x, H1, I1, r1, ty, q1⟩ => ?_)
  obtain ⟨h1, h2⟩ := ty pins s1 σ v I1 r1
  refine ⟨T, id, pa, slot, hty, h1, h2, ?_⟩
  have hA := ha.run cpos pins s1 σ H1 _ I1 q1
  rw [hs] at hA ⊢
  refine Calls.callWith_builtin (by show (false || (backTo cpos (starEach es X.env)).any (·.1)) = false; rw [hplain] <;> rfl) (Calls.evalArgs_plain ?_)
  exact thn hA fun us s2 ⟨vs, H2, I2, r2, q2⟩ => hm pins s2 σ H2 x vs v us Q I2 r1 r2 q2
end
section
variable {X : Cx} {g : Gs} {W : WX} {P : Prg} {k : Nat}
theorem mbOk_str {p : Pl} {b : Mb} {d : D} {v : V} (hb : b.ty = "str") (h : mbOk b d p.S = true) (r : RV g p d v) : TyAt X "str" v p.H := by
  unfold mbOk at h
  rw [hb] at h
  intro pins s σ u I ru
  cases d with
  | str t =>
    simp only [RV] at r
    obtain ⟨rfl, _⟩ := r
    obtain ⟨tk, rfl⟩ := ru
    exact ⟨typeIs_str s _ tk, fun _ e => nomatch e⟩
  | loc n =>
    simp only [tyOf] at h
    cases hn : p.S[n]? with
    | none => rw [hn] at h; cases h
    | some ob => rw [hn] at h; cases ob <;> simp at h
  | _ => simp [tyOf] at h
theorem mbOk_tuple {p : Pl} {b : Mb} {d : D} {v : V} (hK : X.K = g.K) (hb : b.ty = "tuple") (h : mbOk b d p.S = true) (r : RV g p d v) : TyAt X "tuple" v p.H := by
  unfold mbOk at h
  rw [hb] at h
  intro pins s σ u I ru
  cases d with
  | tup l =>
    simp only [RV] at r
    obtain ⟨a, xs, rfl, hs, _⟩ := r
    rw [← hK] at hs
    obtain ⟨o, its, n, h1, h2, _⟩ := sqX_at I hs
    cases ru
    refine ⟨⟨o, h1, h2.1⟩, fun a e => ?_⟩
    cases e
    exact ⟨o, h1, h2.2⟩
  | loc n =>
    simp only [tyOf] at h
    cases hn : p.S[n]? with
    | none => rw [hn] at h; cases h
    | some ob => rw [hn] at h; cases ob <;> simp at h
  | _ => simp [tyOf] at h
/-- a method of a text or of a tuple -/
theorem eM_mbX {o e : Expr} {es : List Expr} {m : Env → Store → R D} {mA : Env → Store → R (List D)} {name : PySem.Str} {apos cpos : Pos} {T id : String} {b : Mb} (pa : PlainAttrs T) (slot : Slot T name id) (hty : typeOf (.builtin id) = pure (.type "method_descriptor")) (hm : MtR X id (rMb g b))
    (hT : ∀ {p : Pl} {d : D} {v : V}, Ok g p → mbOk b d p.S = true → RV g p d v → TyAt X T v p.H) (hpb : plainBase o = true) (hpos : (apos.endLine == cpos.line) = true)
    (hes : (e :: es).all notStar = true) (hlen : (e :: es).length < 30) (ho : PE X o (tM g W m)) (hA : PA X (e :: es) (tMA g W mA)) :
    PE X (.Call (.Attribute o name apos) (e :: es) [] cpos) (tM g W fun env S => (m env S).bind fun x S => if mbOk b x S then (mA env S).bind fun ds S => mbE b x ds S else .bad) := by
  have he : notStar e = true := by simp at hes; exact hes.1
  have hes2 : es.all notStar = true := by simp at hes ⊢; exact hes.2
  have hall : (((backTo cpos (starEach (e :: es) X.env)).all fun x => !x.1) && (backToKw cpos (keywordEach [] X.env)).all (fun x => x.1.isSome) && decide (((e :: es).length + ([] : List Keyword).length + if ([] : List Keyword).isEmpty = true then 0 else 1) < 30)) = true := by
    have h1 := star_any (pos := cpos) (env := X.env) hes
    have h2 : ((backTo cpos (starEach (e :: es) X.env)).all fun x => !x.1) = true := by
      rw [List.all_eq_true]
      rw [List.any_eq_false] at h1
      intro x hx
      have := h1 x hx
      simpa using this
    rw [h2]
    simp only [Bool.true_and, Bool.and_eq_true, decide_eq_true_eq]
    exact ⟨rfl, by simpa using hlen⟩
  exact PE.imp (pe_bmX pa slot hty hm ho hA (base_of hpb _ _ _) hall hpos (star_cons he _ _) (star_any hes2)) fun σ H Q h => by
    obtain ⟨p, env, rfl, ok, re, hp⟩ := tM.out h
    refine into ok re hp fun q x v nx okq re' hv hp => ?_
    by_cases hok : mbOk b x q.S = true
    · rw [if_pos hok] at hp
      refine ⟨hT okq hok hv, intoA okq re' hp fun q2 ds vs nx2 ok2 re2 hvs hp => ?_⟩
      exact ⟨q2, x, ds, rfl, ok2, hv.nx nx2 okq, hvs, hp.any (mb_ne b x ds q2.S)⟩
    · rw [if_neg hok] at hp
      exact False.elim hp
end
end Mi
set_option maxRecDepth 100000
set_option maxHeartbeats 1000000
/-! S16: tests, targets. -/
namespace Mi
open PySem PySem.Spec PyProof.Rows L2
section
variable {X : Cx} {g : Gs} {W : WX} {P : Prg} {k : Nat}
theorem tMT.out {m : Env → Store → R Bool} {σ : L2.St} {H : Hp} {Q : Bool → Hp → Prop} (h : tMT g W m σ H Q) : ∃ (p : Pl) (env : Env), p.H = H ∧ Ok g p ∧ RE g p env σ ∧ Post g (fun c d H => W c d σ H) p (m env p.S) fun q k => Q k q.H := h
theorem intoT {m : Env → Store → R Bool} {α : Type} {k : Bool → Store → R α} {σ : L2.St} {p : Pl} {env : Env} {Kp : Pl → α → Prop} {Q : Bool → Hp → Prop} (o : Ok g p) (re : RE g p env σ) (h : Post g (fun c d H => W c d σ H) p ((m env p.S).bind k) Kp)
    (hq : ∀ (q : Pl) (d : Bool), Nx p q → Ok g q → RE g q env σ → Post g (fun c d H => W c d σ H) q (k d q.S) Kp → Q d q.H) : tMT g W m σ p.H Q :=
  ⟨p, env, rfl, o, re, h.bind.mono fun q d n oq hp => hq q d n oq (re.nx n o) hp⟩
theorem Post.assoc {α β γ : Type} {W : Value → Option Addr → Hp → Prop} {p : Pl} {r : R α} {k : α → Store → R β} {l : β → Store → R γ} {Kp : Pl → γ → Prop} (h : Post g W p ((r.bind k).bind l) Kp) : Post g W p (r.bind fun a S => (k a S).bind l) Kp := by
  cases r <;> exact h
theorem Post.assoc' {α β γ : Type} {W : Value → Option Addr → Hp → Prop} {p : Pl} {r : R α} {k : α → Store → R β} {l : β → Store → R γ} {Kp : Pl → γ → Prop} (h : Post g W p (r.bind fun a S => (k a S).bind l) Kp) : Post g W p ((r.bind k).bind l) Kp := by
  cases r <;> exact h
def plainTest : Expr → Bool
  | .UnaryOp .Not _ _ => false
  | .BoolOp .. => false
  | .IfExp .. => false
  | .Compare .. => false
  | _ => true
theorem test_of {e : Expr} (h : plainTest e = true) (env : PySem.Env) (whole : Sem Value) : PySem.isTrue e env whole = (do let v ← whole; standAt e.pos; holding [v] (truthy v)) := by
  rw [PySem.isTrue.eq_def]
  split
  · cases h
  · cases h
  · cases h
  · cases h
  · rfl
theorem pT_val (hK : X.K = g.K) {e : Expr} {m : Env → Store → R D} (hp : plainTest e = true) (he : PE X e (tM g W m)) : PT X e (tMT g W (mT m)) := PT.imp (pt_truth he (test_of hp _)) fun σ H Q h => by
  obtain ⟨p, env, rfl, ok, re, hp⟩ := tMT.out h
  refine into ok re hp fun q x v nx okq re' hv hp => ?_
  obtain ⟨k, hk, hq⟩ := hp.lift rfl okq
  exact ⟨k, truth_ok hK okq hk hv, hq⟩
theorem mT_not (m : Env → Store → R D) : (mT fun env S => (m env S).bind fun x S => (lift (truth x S) S).bind fun k S => .ok (.bl (!k)) S) = fun env S => (mT m env S).bind fun k S => .ok (!k) S := by
  funext env S
  show R.bind (R.bind (m env S) _) _ = R.bind (R.bind (m env S) _) _
  cases m env S with
  | ok a S =>
    show R.bind (R.bind (lift (truth a S) S) _) _ = R.bind (lift (truth a S) S) _
    cases truth a S <;> rfl
  | exc x S => rfl
  | bad => rfl
theorem mT_and (m m' : Env → Store → R D) : (mT fun env S => (m env S).bind fun x S => (lift (truth x S) S).bind fun k S => if k then m' env S else .ok x S) = fun env S => (mT m env S).bind fun k S => if k then mT m' env S else .ok false S := by
  funext env S
  show R.bind (R.bind (m env S) _) _ = R.bind (R.bind (m env S) _) _
  cases m env S with
  | ok a S =>
    show R.bind (R.bind (lift (truth a S) S) _) _ = R.bind (lift (truth a S) S) _
    cases h : truth a S with
    | none => rfl
    | some k =>
      cases k with
      | true => rfl
      | false =>
        show lift (truth a S) S = .ok false S
        rw [h]
        rfl
  | exc x S => rfl
  | bad => rfl
theorem mT_or (m m' : Env → Store → R D) : (mT fun env S => (m env S).bind fun x S => (lift (truth x S) S).bind fun k S => if k then .ok x S else m' env S) = fun env S => (mT m env S).bind fun k S => if k then .ok true S else mT m' env S := by
  funext env S
  show R.bind (R.bind (m env S) _) _ = R.bind (R.bind (m env S) _) _
  cases m env S with
  | ok a S =>
    show R.bind (R.bind (lift (truth a S) S) _) _ = R.bind (lift (truth a S) S) _
    cases h : truth a S with
    | none => rfl
    | some k =>
      cases k with
      | false => rfl
      | true =>
        show lift (truth a S) S = .ok true S
        rw [h]
        rfl
  | exc x S => rfl
  | bad => rfl
theorem mT_ite (m m' m2 : Env → Store → R D) : (mT fun env S => (m env S).bind fun x S => (lift (truth x S) S).bind fun k S => if k then m' env S else m2 env S) = fun env S => (mT m env S).bind fun k S => if k then mT m' env S else mT m2 env S := by
  funext env S
  show R.bind (R.bind (m env S) _) _ = R.bind (R.bind (m env S) _) _
  cases m env S with
  | ok a S =>
    show R.bind (R.bind (lift (truth a S) S) _) _ = R.bind (lift (truth a S) S) _
    cases h : truth a S with
    | none => rfl
    | some k => cases k <;> rfl
  | exc x S => rfl
  | bad => rfl
theorem pT_not {a : Expr} {pos : Pos} {m : Env → Store → R D} (ha : PT X a (tMT g W (mT m))) : PT X (.UnaryOp .Not a pos) (tMT g W (mT fun env S => (m env S).bind fun x S => (lift (truth x S) S).bind fun k S => .ok (.bl (!k)) S)) := by
  rw [mT_not]
  exact PT.imp (pt_not ha) fun σ H Q h => by
    obtain ⟨p, env, rfl, ok, re, hp⟩ := tMT.out h
    exact intoT ok re hp fun q k nx okq re' hp => hp.ok rfl okq
theorem pT_and {a b : Expr} {rest : List Expr} {pos : Pos} {m m' : Env → Store → R D} (ha : PT X a (tMT g W (mT m))) (hb : PW X (.BoolOp .And (b :: rest) pos) (tMT g W (mT m'))) : PW X (.BoolOp .And (a :: b :: rest) pos) (tMT g W (mT fun env S => (m env S).bind fun x S => (lift (truth x S) S).bind fun k S => if k then m' env S else .ok x S)) := by
  rw [mT_and]
  have r := pw_and ha hb
  refine ⟨fun whole pins s σ H Q I h => r.run whole pins s σ H Q I ?_⟩
  obtain ⟨p, env, rfl, ok, re, hp⟩ := tMT.out h
  refine intoT ok re hp fun q k nx okq re' hp => ?_
  cases k with
  | true => exact ⟨q, env, rfl, okq, re', hp⟩
  | false => exact hp.ok rfl okq
theorem pT_or {a b : Expr} {rest : List Expr} {pos : Pos} {m m' : Env → Store → R D} (ha : PT X a (tMT g W (mT m))) (hb : PW X (.BoolOp .Or (b :: rest) pos) (tMT g W (mT m'))) : PW X (.BoolOp .Or (a :: b :: rest) pos) (tMT g W (mT fun env S => (m env S).bind fun x S => (lift (truth x S) S).bind fun k S => if k then .ok x S else m' env S)) := by
  rw [mT_or]
  have r := pw_or ha hb
  refine ⟨fun whole pins s σ H Q I h => r.run whole pins s σ H Q I ?_⟩
  obtain ⟨p, env, rfl, ok, re, hp⟩ := tMT.out h
  refine intoT ok re hp fun q k nx okq re' hp => ?_
  cases k with
  | false => exact ⟨q, env, rfl, okq, re', hp⟩
  | true => exact hp.ok rfl okq
theorem pT_ite {a b c : Expr} {pos : Pos} {m m' m2 : Env → Store → R D} (hc : PT X c (tMT g W (mT m))) (ha : PT X a (tMT g W (mT m'))) (hb : PT X b (tMT g W (mT m2))) : PT X (.IfExp c a b pos) (tMT g W (mT fun env S => (m env S).bind fun x S => (lift (truth x S) S).bind fun k S => if k then m' env S else m2 env S)) := by
  rw [mT_ite]
  refine ⟨fun pins s σ H Q I h => ?_⟩
  have e : PySem.isTrue (.IfExp c a b pos) X.env (eval (.IfExp c a b pos) X.env) = (do
      let x ← PySem.isTrue c X.env (eval c X.env)
      if x = true then PySem.isTrue a X.env (eval a X.env) else PySem.isTrue b X.env (eval b X.env)) := by
    rw [PySem.isTrue.eq_def]
  rw [e]
  obtain ⟨p, env, rfl, ok, re, hp⟩ := tMT.out h
  refine wpAny_bind (thn (hc.run pins s σ p.H (fun k H1 => if k = true then tMT g W (mT m') σ H1 Q else tMT g W (mT m2) σ H1 Q) I (intoT ok re hp fun q k nx okq re' hp => ?_)) fun k s' hx => ?_)
  · cases k with
    | true => exact ⟨q, env, rfl, okq, re', hp⟩
    | false => exact ⟨q, env, rfl, okq, re', hp⟩
  · obtain ⟨H', I', hx⟩ := hx
    cases k with
    | true => exact ha.run pins s' σ H' Q I' hx
    | false => exact hb.run pins s' σ H' Q I' hx
/-- a comparison as a test -/
theorem mT_bl {m : Env → Store → R D} (hb : ∀ env S d S', m env S = .ok d S' → ∃ k, d = .bl k) {σ : L2.St} {H : Hp} {Q : Bool → Hp → Prop} (h : tMT g W (mT m) σ H Q) : tM g W m σ H fun x H' => ∃ k, x = .bl k ∧ Q k H' := by
  obtain ⟨p, env, rfl, ok, re, hp⟩ := tMT.out h
  refine ⟨p, env, rfl, ok, re, ?_⟩
  have hp2 := hp.bind
  cases hm : m env p.S with
  | ok d S =>
    rw [hm] at hp2
    obtain ⟨k, rfl⟩ := hb env p.S d S hm
    intro q e nx okq v hv
    cases hv
    exact ⟨k, rfl, (hp2 q e nx okq).ok rfl okq⟩
  | exc x S => rw [hm] at hp2; exact hp2
  | bad => rw [hm] at hp2; exact hp2
theorem cmp_bl {m m' : Env → Store → R D} {o : Cop} (env : Env) (S : Store) (d : D) (S' : Store) (h : ((m env S).bind fun x S => (m' env S).bind fun y S => cmpD o x y S) = .ok d S') : ∃ k, d = .bl k := by
  cases h1 : m env S with
  | ok x S1 =>
    rw [h1] at h
    have h : ((m' env S1).bind fun y S => cmpD o x y S) = .ok d S' := h
    cases h2 : m' env S1 with
    | ok y S2 =>
      rw [h2] at h
      have h : lift ((cop o x y S2).map .bl) S2 = .ok d S' := h
      cases h3 : cop o x y S2 with
      | none => rw [h3] at h; cases h
      | some k => rw [h3] at h; cases h; exact ⟨k, rfl⟩
    | exc x S => rw [h2] at h; cases h
    | bad => rw [h2] at h; cases h
  | exc x S => rw [h1] at h; cases h
  | bad => rw [h1] at h; cases h
theorem pT_cmp {a b : Expr} {pos : Pos} {op : CmpOp} {o : Cop} {m m' : Env → Store → R D} (ho : OpR X (compareOp op) (rCop g o)) (hb' : behindInMarks op b = false) (ha : PE X a (tM g W m)) (hb : PE X b (tM g W m')) :
    PT X (.Compare a [op] [b] pos) (tMT g W (mT fun env S => (m env S).bind fun x S => (m' env S).bind fun y S => cmpD o x y S)) := PT.imp (pt_cmpR ho ha hb hb') fun σ H Q h => by
  obtain ⟨p, env, rfl, ok, re, hp⟩ := tM.out (mT_bl (cmp_bl) h)
  unfold tTest tOp
  refine into ok re hp fun q x v nx okq re' hv hp => ?_
  refine into okq re' hp fun q2 y w nx2 ok2 re2 hw hp => ?_
  obtain ⟨d, hd, hq⟩ := hp.lift rfl ok2
  obtain ⟨k, hk, e⟩ := Option.map_eq_some_iff.mp hd
  subst e
  exact ⟨q2, x, y, rfl, ok2, hv.nx nx2 okq, hw, k, hk, hq _ rfl⟩
theorem cmp2_bl {m m' m2 : Env → Store → R D} {o o' : Cop} (env : Env) (S : Store) (d : D) (S' : Store) (h : ((m env S).bind fun x S => (m' env S).bind fun y S => (lift (cop o x y S) S).bind fun k S => if k then (m2 env S).bind fun z S => lift ((cop o' y z S).map .bl) S else .ok (.bl false) S) = .ok d S') : ∃ k, d = .bl k := by
  cases h1 : m env S with
  | ok x S1 =>
    rw [h1] at h
    have h : ((m' env S1).bind fun y S => (lift (cop o x y S) S).bind fun k S => if k then (m2 env S).bind fun z S => lift ((cop o' y z S).map .bl) S else .ok (.bl false) S) = .ok d S' := h
    cases h2 : m' env S1 with
    | ok y S2 =>
      rw [h2] at h
      have h : ((lift (cop o x y S2) S2).bind fun k S => if k then (m2 env S).bind fun z S => lift ((cop o' y z S).map .bl) S else .ok (.bl false) S) = .ok d S' := h
      cases h3 : cop o x y S2 with
      | none => rw [h3] at h; cases h
      | some k =>
        rw [h3] at h
        cases k with
        | false => cases h; exact ⟨false, rfl⟩
        | true =>
          have h : ((m2 env S2).bind fun z S => lift ((cop o' y z S).map .bl) S) = .ok d S' := h
          cases h4 : m2 env S2 with
          | ok z S3 =>
            rw [h4] at h
            have h : lift ((cop o' y z S3).map .bl) S3 = .ok d S' := h
            cases h5 : cop o' y z S3 with
            | none => rw [h5] at h; cases h
            | some k => rw [h5] at h; cases h; exact ⟨k, rfl⟩
          | exc x S => rw [h4] at h; cases h
          | bad => rw [h4] at h; cases h
    | exc x S => rw [h2] at h; cases h
    | bad => rw [h2] at h; cases h
  | exc x S => rw [h1] at h; cases h
  | bad => rw [h1] at h; cases h
theorem pT_cmp2 {a b c : Expr} {pos : Pos} {op op' : CmpOp} {o o' : Cop} {m m' m2 : Env → Store → R D} (ho : OpR X (compareOp op) (rCop g o)) (ho' : OpR X (compareOp op') (rCop g o')) (hl : lastMarks [op, op'] [b, c] = false) (ha : PE X a (tM g W m)) (hb : PE X b (tM g W m')) (hc : PE X c (tM g W m2)) :
    PT X (.Compare a [op, op'] [b, c] pos) (tMT g W (mT fun env S => (m env S).bind fun x S => (m' env S).bind fun y S => (lift (cop o x y S) S).bind fun k S => if k then (m2 env S).bind fun z S => lift ((cop o' y z S).map .bl) S else .ok (.bl false) S)) := PT.imp (pt_chain ho ho' ha hb hc hl) fun σ H Q h => by
  obtain ⟨p, env, rfl, ok, re, hp⟩ := tM.out (mT_bl (cmp2_bl) h)
  unfold tTest tChain
  refine into ok re hp fun q x v nx okq re' hv hp => ?_
  refine into okq re' hp fun q2 y w nx2 ok2 re2 hw hp => ?_
  obtain ⟨k, hk, hq⟩ := hp.bind.lift rfl ok2
  refine ⟨q2, x, y, rfl, ok2, hv.nx nx2 okq, hw, k, hk, k, rfl, ?_⟩
  cases k with
  | false => exact hq.ok rfl ok2 _ rfl
  | true =>
    rw [if_pos rfl] at hq ⊢
    refine into ok2 re2 hq fun q3 z u nx3 ok3 re3 hu hp => ?_
    obtain ⟨d, hd, hq⟩ := hp.lift rfl ok3
    obtain ⟨k, hk, e⟩ := Option.map_eq_some_iff.mp hd
    subst e
    exact ⟨q3, y, z, rfl, ok3, hw.nx nx3 ok2, hu, k, hk, hq _ rfl⟩
theorem pT_one {a : Expr} {pos : Pos} {op : BoolOp} {t : TT} (ha : PT X a t) : PT X (.BoolOp op [a] pos) t := by
  cases op
  · exact (pw_and1 ha).pt
  · exact (pw_or1 ha).pt
end
end Mi
set_option maxRecDepth 100000
set_option maxHeartbeats 1000000
/-! S17: targets. -/
namespace Mi
open PySem PySem.Spec PyProof.Rows L2
/-- names alone are changed -/
def Fr (σ σ' : L2.St) (sl : List Nat) : Prop := σ'.length = σ.length ∧ ∀ i, i ∉ sl → σ'[i]? = σ[i]?
theorem Fr.refl (σ : L2.St) (sl : List Nat) : Fr σ σ sl := ⟨rfl, fun _ _ => rfl⟩
theorem Fr.trans {σ σ1 σ2 : L2.St} {sl sl2 : List Nat} (a : Fr σ σ1 sl) (b : Fr σ1 σ2 sl2) : Fr σ σ2 (sl ++ sl2) := ⟨b.1.trans a.1, fun i hi => by
  rw [List.mem_append, not_or] at hi
  rw [b.2 i hi.2, a.2 i hi.1]⟩
def gM (g : Gs) (sl : List Nat) (m : D → Env → Store → R Env) : TG := fun v σ H Q => ∃ (p : Pl) (env : Env) (d : D), p.H = H ∧ Ok g p ∧ RE g p env σ ∧ RV g p d v ∧ Post g NoX p (m d env p.S) fun q env' => ∀ σ', RE g q env' σ' → Fr σ σ' sl → Q σ' q.H
def gMs (g : Gs) (sl : List Nat) (m : List D → Env → Store → R Env) : TGs := fun vs σ H Q => ∃ (p : Pl) (env : Env) (ds : List D), p.H = H ∧ Ok g p ∧ RE g p env σ ∧ RVs g p ds vs ∧ Post g NoX p (m ds env p.S) fun q env' => ∀ σ', RE g q env' σ' → Fr σ σ' sl → Q σ' q.H
theorem PG.imp {X : Cx} {tg : Expr} {t t' : TG} (h : PG X tg t) (hi : ∀ v σ H Q, t' v σ H Q → t v σ H Q) : PG X tg t' := ⟨fun pins s σ H v u Q I r hw => h.run pins s σ H v u Q I r (hi v σ H Q hw)⟩
theorem PGs.imp {X : Cx} {tg : List Expr} {t t' : TGs} (h : PGs X tg t) (hi : ∀ v σ H Q, t' v σ H Q → t v σ H Q) : PGs X tg t' := ⟨fun pins s σ H v u Q I r hw => h.run pins s σ H v u Q I r (hi v σ H Q hw)⟩
theorem RE.set {g : Gs} {p : Pl} {env : Env} {σ : L2.St} (r : RE g p env σ) {i : Nat} {d : D} {v : V} (h : RV g p d v) (hi : i < env.length) : RE g p (env.set i (some d)) (σ.set i (some v)) := by
  refine ⟨by rw [List.length_set, List.length_set]; exact r.1, fun j e hj => ?_⟩
  by_cases hij : i = j
  · subst hij
    rw [List.getElem?_set_self hi] at hj
    cases hj
    exact ⟨v, by rw [List.getElem?_set_self (by rw [← r.1]; exact hi)], h⟩
  · rw [List.getElem?_set_ne hij] at hj ⊢
    exact r.2 j e hj
theorem Fr.set (σ : L2.St) (i : Nat) (v : Option V) : Fr σ (σ.set i v) [i] := ⟨List.length_set, fun j hj => List.getElem?_set_ne fun e => hj (by rw [e]; exact List.mem_singleton_self j)⟩
theorem Post.calmAny {α : Type} {g : Gs} {W : Value → Option Addr → Hp → Prop} {p : Pl} {r : R α} {Kp : Pl → α → Prop} (h : Post g NoX p r.calm Kp) : Post g W p r Kp := by
  cases r with
  | ok a S => exact h
  | exc x S => exact False.elim h
  | bad => exact h
theorem asg_cons {e : Expr} (h : notStar e = true) (es : List Expr) (env : PySem.Env) : assignEach (e :: es) env = (false, assign e env) :: assignEach es env := by
  cases e <;> first | rfl | cases h
theorem asg_len {env : PySem.Env} : ∀ {es : List Expr}, es.all notStar = true → (assignEach es env).length = es.length ∧ List.findIdx? (fun x => x.1) (assignEach es env) = none
  | [], _ => ⟨rfl, rfl⟩
  | e :: es, h => by
    simp only [List.all_cons, Bool.and_eq_true] at h
    obtain ⟨h1, h2⟩ := asg_len (env := env) h.2
    rw [asg_cons h.1]
    exact ⟨by simp [h1], by simp [List.findIdx?_cons, h2]⟩
section
variable {X : Cx} {g : Gs} {W : WX} {P : Prg} {k : Nat}
theorem gM_name {i : Nat} {x : PySem.Str} {pos : Pos} (nd : X.N.Nodup) (hN : X.N[i]? = some x) (hl : L2.Loc X.env.scope x) (hf : X.fn x = true ∨ X.env.scope.names.lookup x = some .local) :
    PG X (.Name x pos) (gM g [i] fun d env S => if i < env.length then .ok (env.set i (some d)) S else .bad) := PG.imp (pg_name nd hN hl hf) fun v σ H Q h => by
  obtain ⟨p, env, d, rfl, ok, re, hv, hp⟩ := h
  by_cases hi : i < env.length
  · simp only [if_pos hi] at hp
    exact hp.ok rfl ok _ (re.set hv hi) (Fr.set σ i _)
  · simp only [if_neg hi] at hp
    exact False.elim hp
theorem gMs_nil : PGs X [] (gMs g [] fun ds env S => match ds with | [] => .ok env S | _ => .bad) := PGs.imp pgs_nil fun vs σ H Q h => by
  obtain ⟨p, env, ds, rfl, ok, re, hv, hp⟩ := h
  cases ds with
  | nil =>
    have e : vs = [] := hv
    subst e
    exact ⟨rfl, hp.ok rfl ok _ re (Fr.refl _ _)⟩
  | cons a b => exact False.elim hp
theorem gMs_cons {e : Expr} {es : List Expr} {sl sl2 : List Nat} {m : D → Env → Store → R Env} {m' : List D → Env → Store → R Env} (he : notStar e = true) (h1 : PG X e (gM g sl m)) (h2 : PGs X es (gMs g sl2 m')) :
    PGs X (e :: es) (gMs g (sl ++ sl2) fun ds env S => match ds with | d :: r => (m d env S).bind fun env S => m' r env S | _ => .bad) := PGs.imp (pgs_cons h1 h2 (by rw [asg_cons he]; rfl)) fun vs σ H Q h => by
  obtain ⟨p, env, ds, rfl, ok, re, hv, hp⟩ := h
  cases ds with
  | nil => exact False.elim hp
  | cons d r =>
    obtain ⟨v, w, ev, hd, hr⟩ := hv
    subst ev
    refine ⟨v, w, rfl, p, env, d, rfl, ok, re, hd, ?_⟩
    have hp : Post g NoX p ((m d env p.S).bind fun env S => m' r env S) fun q env' => ∀ σ', RE g q env' σ' → Fr σ σ' (sl ++ sl2) → Q σ' q.H := hp
    refine hp.bind.mono fun q env' nx okq hk σ' re' fr => ?_
    exact ⟨q, env', r, rfl, okq, re', hr.nx nx ok, hk.mono fun q2 env2 nx2 ok2 hk σ2 re2 fr2 => hk σ2 re2 (fr.trans fr2)⟩
theorem gM_tup (hc : X.calm = true) (hK : X.K = g.K) {es : List Expr} {kk : Nat} {pos : Pos} {sl : List Nat} {m : List D → Env → Store → R Env} (hes : es.all notStar = true) (h : PGs X es (gMs g sl m)) :
    PG X (.Tuple es kk pos) (gM g sl fun d env S => match d with | .tup l => if l.length = es.length then m l env S else .bad | _ => .bad) := PG.imp (pg_tup hc h (asg_len hes).1 (asg_len hes).2) fun v σ H Q h => by
  obtain ⟨p, env, d, rfl, ok, re, hv, hp⟩ := h
  cases d with
  | tup l =>
    obtain ⟨a, xs, ev, sx, rv⟩ := hv
    subst ev
    simp only at hp
    by_cases hl : l.length = es.length
    · rw [if_pos hl] at hp
      exact ⟨a, xs, rfl, by rw [hK]; exact sx.sqT, by rw [← rv.len]; exact hl, p, env, l, rfl, ok, re, rv, hp⟩
    · rw [if_neg hl] at hp
      exact False.elim hp
  | _ => exact False.elim hp
/-- an item stored -/
def rSetM (g : Gs) : TSet := fun o i v H Q => ∃ p d k e, p.H = H ∧ Ok g p ∧ RV g p d o ∧ RV g p k i ∧ RV g p e v ∧ Post g NoX p (setIdx d k e p.S) fun q _ => Q q.H
theorem RVs.set {p : Pl} {l : List D} {xs : List V} {d : D} {v : V} (r : RVs g p l xs) (h : RV g p d v) (i : Nat) : RVs g p (l.set i d) (xs.set i v) := by
  refine RVs.of_get (by rw [List.length_set, List.length_set]; exact r.len) fun j a b h1 h2 => ?_
  by_cases hij : i = j
  · subst hij
    have hl : i < l.length := by
      have := (List.getElem?_eq_some_iff.mp h1).1
      simpa using this
    rw [List.getElem?_set_self hl] at h1
    rw [List.getElem?_set_self (by rw [← r.len]; exact hl)] at h2
    cases h1
    cases h2
    exact h
  · rw [List.getElem?_set_ne hij] at h1 h2
    obtain ⟨w, h3, h4⟩ := r.get j a h1
    rw [h2] at h3
    cases h3
    exact h4
theorem set_M (hu : X.A.units + 1 < cLine) : PSet X (rSetM g) := by
  intro pins s σ H o i v ov iv u Q I ro ri rv h
  obtain ⟨p, d, k, e, rfl, ok, hd, hk, he, hp⟩ := h
  cases d with
  | loc n =>
    obtain ⟨hlt, ev⟩ := hd
    subst ev
    simp only [setIdx] at hp
    cases hn : p.S[n]? with
    | none => rw [hn] at hp; exact False.elim hp
    | some ob =>
      rw [hn] at hp
      cases ob with
      | lst l =>
        cases k with
        | int j =>
          cases hk
          simp only at hp
          by_cases hz : 0 ≤ j ∧ j.toNat < l.length
          · rw [if_pos hz] at hp
            obtain ⟨xs, h1, h2⟩ := ok.lstAt hn
            have hl := h2.len
            refine set_list pins s σ p.H _ _ v ov iv u Q I ro ri rv ⟨_, xs, j, j.toNat, rfl, rfl, h1, ?_, ?_⟩
            · unfold ixN
              rw [if_pos hz.1, if_pos (by omega)]
            · obtain ⟨q, e1, e2, e3, nx, okq⟩ := ok.put (o' := .lst (l.set j.toNat e)) (u := .lst (xs.set j.toNat v)) hn rfl rfl (fun q e1 e2 e3 nx => ⟨_, by rw [e1]; exact upd_same, (h2.set he _).nx nx ok⟩) (fun q e1 e2 e3 => Nx.put ok hn rfl rfl e1 e2 e3)
              rw [← e2]
              exact hp q e1 nx okq
          · rw [if_neg hz] at hp
            exact False.elim hp
        | _ => exact False.elim hp
      | dic kvs =>
        simp only at hp
        by_cases hz : k.isKey = true ∧ kvs.length < szl
        · rw [if_pos hz] at hp
          obtain ⟨q, hq⟩ := keyOf_of hz.1
          obtain ⟨ks, h1, h2, h3⟩ := ok.ob n _ hn
          have ek := key_rv hq hk
          subst ek
          refine set_dict hu pins s σ p.H _ _ v ov iv u Q I ro ri rv ⟨_, _, rfl, DPut.k h1 (by rw [← h2.len, ← szl_eq]; exact hz.2), ?_⟩
          obtain ⟨q', e1, e2, e3, nx, okq⟩ := ok.put (o' := .dic (dicPut k e kvs)) (u := .dK (putK ks q v)) hn rfl rfl (fun q' e1 e2 e3 nx => ⟨_, by rw [e1]; exact upd_same, (RK.put hq he h2 h3).nx nx ok, (putK_keys h3).1⟩) (fun q e1 e2 e3 => Nx.put ok hn rfl rfl e1 e2 e3)
          rw [← e2]
          exact hp q' e1 nx okq
        · rw [if_neg hz] at hp
          exact False.elim hp
      | _ => exact False.elim hp
  | _ => exact False.elim hp
def plainIx : Expr → Bool
  | .Slice .. => false
  | _ => true
theorem gM_sub (hu : X.A.units + 1 < cLine) {o i : Expr} {pos : Pos} {m m' : Env → Store → R D} (hi : plainIx i = true) (ho : PE X o (tM g W m)) (hii : PE X i (tM g W m')) :
    PG X (.Subscript o i pos) (gM g [] fun d env S => ((m env S).bind fun x S => (m' env S).bind fun k S => setIdx x k d S).calm.bind fun _ S => .ok env S) := by
  refine PG.imp (pg_sub ho hii (set_M (g := g) hu) (by intro v; cases i <;> first | rfl | cases hi)) fun v σ H Q h => ?_
  obtain ⟨p, env, d, rfl, ok, re, hv, hp⟩ := h
  have hp2 := Post.calmAny (W := fun c d H => W c d σ H) (hp.bind)
  refine into ok re hp2 fun q x o nx okq re' ho hp => ?_
  refine into okq re' hp fun q2 y i nx2 ok2 re2 hi hp => ?_
  refine ⟨q2, x, y, d, rfl, ok2, ho.nx nx2 okq, hi, (hv.nx nx ok).nx nx2 okq, ?_⟩
  have hne : NE (setIdx x y d q2.S) := by
    unfold setIdx
    repeat' split
    all_goals first | exact NE.ok _ _ | exact NE.bad
  refine (hp.any hne).mono fun q3 _ nx3 ok3 hk => ?_
  exact (hk.ok rfl ok3) σ (((re2.nx nx3 ok2))) (Fr.refl _ _)
end
end Mi
set_option maxRecDepth 100000
set_option maxHeartbeats 1000000
/-! S18: comprehensions. -/
namespace Mi
open PySem PySem.Spec PyProof.Rows L2
theorem bind_ok {α β : Type} {r : R α} {k : α → Store → R β} {b : β} {S : Store} (h : r.bind k = .ok b S) : ∃ a S1, r = .ok a S1 ∧ k a S1 = .ok b S := by
  cases r with
  | ok a S1 => exact ⟨a, S1, rfl, h⟩
  | exc x S => cases h
  | bad => cases h
theorem wipe_cons (σ : L2.St) (v : Nat) (vs : List Nat) : wipe σ (v :: vs) = (wipe σ vs).set v none := rfl
theorem wipe_len (σ : L2.St) : ∀ vs : List Nat, (wipe σ vs).length = σ.length
  | [] => rfl
  | v :: vs => by rw [wipe_cons, List.length_set, wipe_len σ vs]
theorem wipe_get (σ : L2.St) : ∀ (vs : List Nat) (i : Nat), (wipe σ vs)[i]? = if i ∈ vs then (if i < σ.length then some none else none) else σ[i]?
  | [], i => by simp; rfl
  | v :: vs, i => by
    rw [wipe_cons]
    by_cases h : v = i
    · subst h
      simp only [List.mem_cons, true_or, if_true]
      by_cases hl : v < σ.length
      · rw [List.getElem?_set_self (by rw [wipe_len]; exact hl), if_pos hl]
      · rw [if_neg hl]
        exact List.getElem?_eq_none_iff.mpr (by rw [List.length_set, wipe_len]; omega)
    · rw [List.getElem?_set_ne h, wipe_get σ vs i]
      have : (i ∈ v :: vs) ↔ i ∈ vs := by
        rw [List.mem_cons]
        exact ⟨fun z => z.elim (fun e => absurd e.symm h) id, .inr⟩
      by_cases hm : i ∈ vs
      · rw [if_pos hm, if_pos (this.mpr hm)]
      · rw [if_neg hm, if_neg fun z => hm (this.mp z)]
theorem wipe_fr {σ σ2 : L2.St} {sl vs : List Nat} (h : Fr (wipe σ vs) σ2 sl) (hs : ∀ i ∈ sl, i ∈ vs) : wipe σ2 vs = wipe σ vs := by
  have hl : σ2.length = σ.length := by rw [h.1, wipe_len]
  refine List.ext_getElem? fun i => ?_
  rw [wipe_get, wipe_get, hl]
  by_cases hi : i ∈ vs
  · rw [if_pos hi, if_pos hi]
  · rw [if_neg hi, if_neg hi, h.2 i fun z => hi (hs i z), wipe_get, if_neg hi]
theorem setAll_get {α : Type} (v : α) : ∀ (is : List Nat) (xs : List α) (i : Nat), i ∉ is → (setAll xs is v)[i]? = xs[i]?
  | [], xs, i, _ => rfl
  | j :: is, xs, i, h => by
    rw [List.mem_cons, not_or] at h
    show (setAll (xs.set j v) is v)[i]? = _
    rw [setAll_get v is _ i h.2, List.getElem?_set_ne (Ne.symm h.1)]
theorem setAll_len {α : Type} (v : α) : ∀ (is : List Nat) (xs : List α), (setAll xs is v).length = xs.length
  | [], xs => rfl
  | j :: is, xs => by
    show (setAll (xs.set j v) is v).length = _
    rw [setAll_len v is, List.length_set]
theorem setAll_in {α : Type} (v : α) : ∀ (is : List Nat) (xs : List α) (i : Nat), i ∈ is → ∀ a, (setAll xs is v)[i]? = some a → a = v
  | [], xs, i, h, a, _ => by cases h
  | j :: is, xs, i, h, a, ha => by
    have ha : (setAll (xs.set j v) is v)[i]? = some a := ha
    by_cases hi : i ∈ is
    · exact setAll_in v is _ i hi a ha
    · have e : i = j := by
        rcases List.mem_cons.mp h with e | e
        · exact e
        · exact absurd e hi
      subst e
      rw [setAll_get v is _ i hi] at ha
      have hl : i < xs.length := by
        have := (List.getElem?_eq_some_iff.mp ha).1
        simpa using this
      rw [List.getElem?_set_self hl] at ha
      exact (Option.some.inj ha).symm
theorem RE.wipe {g : Gs} {p : Pl} {env : Env} {σ : L2.St} (r : RE g p env σ) (vs : List Nat) : RE g p (setAll env vs none) (wipe σ vs) := by
  refine ⟨by rw [setAll_len, wipe_len]; exact r.1, fun i d h => ?_⟩
  by_cases hi : i ∈ vs
  · have := setAll_in none vs env i hi _ h
    cases this
  · rw [setAll_get none vs env i hi] at h
    rw [wipe_get, if_neg hi]
    exact r.2 i d h
/-! a list that is being made beside the store -/
section
variable {g : Gs} {p q : Pl}
structure Mv (p q : Pl) : Prop where
  frz : ∀ a o u, p.H a = some (.frz o u) → q.H a = some (.frz o u)
  len : p.S.length ≤ q.S.length
  rho : ∀ n, n < p.S.length → q.ρ n = p.ρ n
theorem Mv.sqX (m : Mv p q) {a : Addr} {xs : List V} (h : SqX g.K p.H a xs) : SqX g.K q.H a xs := by
  rcases h with ⟨o, h, t⟩ | h
  · exact .inl ⟨o, m.frz a _ _ h, t⟩
  · exact .inr h
mutual
theorem RV.mv (m : Mv p q) : ∀ (d : D) (v : V), RV g p d v → RV g q d v
  | .non, v, r => r
  | .bl b, v, r => r
  | .int i, v, r => r
  | .str s, v, r => r
  | .tup l, v, r => by
    obtain ⟨a, xs, e, s, t⟩ := r
    exact ⟨a, xs, e, m.sqX s, RVs.mv m l xs t⟩
  | .loc k, v, r => ⟨Nat.lt_of_lt_of_le r.1 m.len, by rw [m.rho k r.1]; exact r.2⟩
  | .glo k, v, r => r
  | .ty k, v, r => r
theorem RVs.mv (m : Mv p q) : ∀ (d : List D) (v : List V), RVs g p d v → RVs g q d v
  | [], v, r => r
  | d :: l, v, r => by
    obtain ⟨x, w, e, s, t⟩ := r
    exact ⟨x, w, e, RV.mv m d x s, RVs.mv m l w t⟩
end
theorem RF.mv (m : Mv p q) : ∀ {fs : List (String × D)} {gs : List (PySem.Str × V)}, RF g p fs gs → RF g q fs gs
  | [], _, r => r
  | (f, d) :: l, _, r => by
    obtain ⟨v, w, e, s, t⟩ := r
    exact ⟨v, w, e, s.mv m, RF.mv m t⟩
theorem RK.mv (m : Mv p q) : ∀ {fs : List (D × D)} {gs : List (Key × V)}, RK g p fs gs → RK g q fs gs
  | [], _, r => r
  | (f, d) :: l, _, r => by
    obtain ⟨k, v, w, e, ek, s, t⟩ := r
    exact ⟨k, v, w, e, ek, s.mv m, RK.mv m t⟩
/-- an object's description goes over where its own place and all frozen and closed things stand -/
theorem RO.mv (m : Mv p q) {a : Addr} {o : MO} (hx : ∀ b fs, p.H b = some (.xd fs) → q.H b = some (.xd fs)) (ha : o.wr = true → q.H a = p.H a) (r : RO g p a o) : RO g q a o := by
  cases o with
  | lst l =>
    obtain ⟨xs, h1, h2⟩ := r
    exact ⟨xs, by rw [ha rfl]; exact h1, h2.mv m⟩
  | fls l =>
    obtain ⟨xs, h1, h2⟩ := r
    exact ⟨xs, h1.imp (fun ⟨o, h⟩ => ⟨o, m.frz _ _ _ h⟩) id, h2.mv m⟩
  | ins c fs =>
    obtain ⟨dx, gs, h1, h2⟩ := r
    exact ⟨dx, gs, by rw [ha rfl]; exact h1, h2.mv m⟩
  | dic kvs =>
    obtain ⟨ks, h1, h2, h3⟩ := r
    exact ⟨ks, by rw [ha rfl]; exact h1, h2.mv m, h3⟩
  | exn c fs =>
    obtain ⟨dd, h2⟩ := r
    refine ⟨dd, ?_⟩
    match fs, h2 with
    | [], r => exact r
    | [(f, d)], r =>
      obtain ⟨a, v, e, ha, hv⟩ := r
      exact ⟨a, v, e, hx _ _ ha, hv.mv m⟩
/-- the list at D changes -/
theorem Ok.side {D : Addr} {vs : List V} (ok : Ok g q) (hD : q.H D = some (.lst vs)) (hn : ∀ n, wrAt q.S n = true → q.ρ n ≠ D) (us : List V) :
    Ok g ⟨q.ρ, q.S, upd q.H D (.lst us)⟩ ∧ Mv q ⟨q.ρ, q.S, upd q.H D (.lst us)⟩ := by
  have ne : ∀ a u, q.H a = some u → (∀ ws, u ≠ .lst ws) → upd q.H D (.lst us) a = some u := fun a u h hu => by
    rw [upd_ne]
    · exact h
    · intro e
      rw [e, hD] at h
      cases h
      exact hu vs rfl
  have mv : Mv q ⟨q.ρ, q.S, upd q.H D (.lst us)⟩ := ⟨fun a o u h => ne a _ h (fun ws z => by cases z), Nat.le_refl _, fun _ _ => rfl⟩
  refine ⟨⟨fun n o e => ?_, ok.inj⟩, mv⟩
  refine (ok.ob n o e).mv mv (fun b fs h => ne b _ h (fun ws z => by cases z)) fun hw => ?_
  show upd q.H D (.lst us) (q.ρ n) = _
  rw [upd_ne (hn n ((wrAt_of e).trans hw))]
/-- the list at D comes into the store -/
theorem Ok.adopt {D : Addr} {l : List Mi.D} {vs : List V} (ok : Ok g q) (hD : q.H D = some (.lst vs)) (hn : ∀ n, wrAt q.S n = true → q.ρ n ≠ D) (r : RVs g q l vs) (nx : Nx p q) (hp : p.H D = none) :
    ∃ q' : Pl, q'.S = q.S ++ [MO.lst l] ∧ q'.H = q.H ∧ q'.ρ q.S.length = D ∧ Nx p q' ∧ Ok g q' := by
  let q' : Pl := ⟨fun n => if n < q.S.length then q.ρ n else D, q.S ++ [MO.lst l], q.H⟩
  have e1 : ∀ n, n < q.S.length → q'.ρ n = q.ρ n := fun n hn => if_pos hn
  have e2 : q'.ρ q.S.length = D := if_neg (Nat.lt_irrefl _)
  have hlen : q'.S.length = q.S.length + 1 := by show (q.S ++ [MO.lst l]).length = _; simp
  have mv : Mv q q' := ⟨fun a o u h => h, by rw [hlen]; exact Nat.le_succ _, e1⟩
  have get : ∀ n o, q'.S[n]? = some o → (n < q.S.length ∧ q.S[n]? = some o) ∨ (n = q.S.length ∧ o = MO.lst l) := fun n o h => by
    have h : (q.S ++ [MO.lst l])[n]? = some o := h
    by_cases hl : n < q.S.length
    · rw [List.getElem?_append_left hl] at h
      exact .inl ⟨hl, h⟩
    · have hle : q.S.length ≤ n := Nat.le_of_not_lt hl
      rw [List.getElem?_append_right hle] at h
      have h0 : n - q.S.length = 0 := by
        by_cases z : n - q.S.length = 0
        · exact z
        · rw [List.getElem?_eq_none_iff.mpr (by simp; omega)] at h
          cases h
      rw [h0] at h
      refine .inr ⟨by omega, ?_⟩
      simpa using h.symm
  have wr : ∀ n, wrAt q'.S n = true → (n < q.S.length ∧ wrAt q.S n = true) ∨ n = q.S.length := fun n h => by
    unfold wrAt at h
    cases e : q'.S[n]? with
    | none => rw [e] at h; cases h
    | some o =>
      rw [e] at h
      rcases get n o e with ⟨h1, h2⟩ | ⟨h1, _⟩
      · exact .inl ⟨h1, (wrAt_of h2).trans h⟩
      · exact .inr h1
  refine ⟨q', rfl, rfl, e2, ⟨?_, fun n hn => ?_, fun n h1 h2 => ?_, fun n hn => ?_, nx.trk, nx.kep⟩, ⟨fun n o e => ?_, fun n m h1 h2 e => ?_⟩⟩
  · rw [hlen]; exact Nat.le_succ_of_le nx.len
  · rw [e1 n (Nat.lt_of_lt_of_le hn nx.len)]
    exact nx.rho n hn
  · rw [hlen] at h2
    by_cases hl : n < q.S.length
    · rw [e1 n hl]
      exact nx.new n h1 hl
    · have : n = q.S.length := by omega
      rw [this, e2]
      exact hp
  · have hl := Nat.lt_of_lt_of_le hn nx.len
    rw [← nx.kd n hn]
    unfold wrAt
    show (match (q.S ++ [MO.lst l])[n]? with | some o => o.wr | none => false) = _
    rw [List.getElem?_append_left hl]
    all_goals rfl
  · rcases get n o e with ⟨h1, h2⟩ | ⟨h1, h2⟩
    · rw [e1 n h1]
      exact (ok.ob n o h2).mv mv (fun b fs h => h) fun _ => rfl
    · subst h1 h2
      rw [e2]
      exact ⟨vs, hD, r.mv mv⟩
  · rcases wr n h1 with ⟨l1, w1⟩ | z1
    · rcases wr m h2 with ⟨l2, w2⟩ | z2
      · rw [e1 n l1, e1 m l2] at e
        exact ok.inj n m w1 w2 e
      · rw [z2, e2, e1 n l1] at e
        exact absurd e (hn n w1)
    · rcases wr m h2 with ⟨l2, w2⟩ | z2
      · rw [z1, e2, e1 m l2] at e
        exact absurd e.symm (hn m w2)
      · rw [z1, z2]
/-- D stays beside the store -/
theorem Nx.beside {D : Addr} {u : HO} (nx : Nx p q) (hD : p.H D = some u) (hn : ∀ n, wrAt p.S n = true → p.ρ n ≠ D) : q.H D = some u ∧ ∀ n, wrAt q.S n = true → q.ρ n ≠ D := by
  refine ⟨nx.kep D u hD hn, fun n hw e => ?_⟩
  by_cases hl : n < p.S.length
  · rw [nx.rho n hl] at e
    rw [nx.kd n hl] at hw
    exact hn n hw e
  · have := nx.new n (Nat.le_of_not_lt hl) (wrAt_lt hw)
    rw [e, hD] at this
    cases this
end
end Mi
set_option maxRecDepth 100000
set_option maxHeartbeats 1000000
/-! S19: comprehensions: the rule. -/
namespace Mi
open PySem PySem.Spec PyProof.Rows L2
abbrev NoW : WX := fun _ _ _ _ => False
theorem Post.okW {α : Type} {g : Gs} {W : Value → Option Addr → Hp → Prop} {p : Pl} {r : R α} {a : α} {S : Store} {Kp : Pl → α → Prop} (e : r = .ok a S) (h : ∀ q : Pl, q.S = S → Nx p q → Ok g q → Kp q a) : Post g W p r Kp := by
  subst e
  exact h
def notSet : Expr → Bool
  | .Set .. => false
  | _ => true
theorem fold_of {e : Expr} (h : notSet e = true) (env : PySem.Env) (x : Value) : foldedSetIterable e env x = pure x := by
  unfold foldedSetIterable
  split
  · cases h
  · rfl
section
variable {X : Cx} {g : Gs} {W : WX} {P : Prg} {k : Nat}
/-- the reading of a comprehension -/
theorem lc_read {own : List (PySem.Str × Nat)} {sl : List Nat} {mI : Env → Store → R Src} {mG : D → Env → Store → R Env} {mC : Env → Store → R Bool} {mE : Env → Store → R D} (hsl : ∀ i ∈ sl, i ∈ own.map (·.2)) {σ : L2.St} {H : Hp} {Q : VK}
    (h : tM g W (fun env S => (mI env S).bind fun src S =>
      (lcL (fun d S => (mG d (setAll env (own.map (·.2)) none) S).bind fun env S => (mC env S).bind fun k S => if k then (mE env S).bind fun e S => .ok (some e) S else .ok none S) (fun S => same S src.2) [] src.1 S).bind fun l S => alloc (.lst l) S) σ H Q) :
    tLc (iM g W mI) (gM g sl mG) (tMT g NoW mC) (tM g NoW mE) (own.map (·.2)) σ H Q := by
  obtain ⟨p, env, rfl, ok, re, hp⟩ := tM.out h
  refine ⟨p, env, rfl, ok, re, hp.bind.mono fun q src nxq okq hk J hJ D hD => ?_⟩
  have req := re.nx nxq ok
  have ⟨l, Sf, hlc, hend⟩ : ∃ l Sf, lcL (fun d S => (mG d (setAll env (own.map (·.2)) none) S).bind fun env S => (mC env S).bind fun k S => if k then (mE env S).bind fun e S => .ok (some e) S else .ok none S) (fun S => same S src.2) [] src.1 q.S = .ok l Sf ∧ Post g (fun c d H => W c d σ H) q (alloc (.lst l) Sf) fun q d => ∀ v, RV g q d v → Q v q.H := by
    cases hm : lcL (fun d S => (mG d (setAll env (own.map (·.2)) none) S).bind fun env S => (mC env S).bind fun k S => if k then (mE env S).bind fun e S => .ok (some e) S else .ok none S) (fun S => same S src.2) [] src.1 q.S with
    | ok l Sf =>
      rw [hm] at hk
      exact ⟨l, Sf, rfl, hk⟩
    | exc x S =>
      exfalso
      clear hk hp hJ
      revert hm
      generalize ([] : List Mi.D) = acc
      generalize q.S = S0
      revert acc S0
      generalize src.1 = items
      induction items with
      | nil =>
        intro acc S0 hm
        simp only [lcL] at hm
        split at hm <;> cases hm
      | cons d r ih =>
        intro acc S0 hm
        simp only [lcL] at hm
        split at hm
        · split at hm
          · split at hm
            · exact ih _ _ hm
            · cases hm
          · exact ih _ _ hm
          · cases hm
        · cases hm
    | bad => rw [hm] at hk; exact False.elim hk
  clear hk
  -- the walk's invariant
  let Inv0 : Nat → Nat → Hp → Prop := fun i m H => ∃ (q' : Pl) (acc : List Mi.D) (vs : List V), q'.H = H ∧ Ok g q' ∧ Nx q q' ∧ q'.H D = some (.lst vs) ∧ (∀ n, wrAt q'.S n = true → q'.ρ n ≠ D) ∧ RVs g q' acc vs ∧ m = src.1.length - i ∧
    lcL (fun d S => (mG d (setAll env (own.map (·.2)) none) S).bind fun env S => (mC env S).bind fun k S => if k then (mE env S).bind fun e S => .ok (some e) S else .ok none S) (fun S => same S src.2) acc (src.1.drop i) q'.S = .ok l Sf
  refine ⟨Inv0, ⟨src.1.length, ?_⟩, fun i m H hI => ?_⟩
  · -- the start
    obtain ⟨nx1, ok1⟩ := okq.grow (a := D) (u := .lst []) hD
    refine ⟨⟨q.ρ, q.S, upd q.H D (.lst [])⟩, [], [], rfl, ok1, nx1, upd_same, fun n hw e => ?_, rfl, by simp, by simpa using hlc⟩
    obtain ⟨o, ho, _⟩ := okq.at_ hw
    rw [show q.ρ n = D from e, hD] at ho
    cases ho
  obtain ⟨q', acc, vs, rfl, ok', nx', hD', hn', ra, rfl, hl⟩ := hI
  by_cases hlen : src.1.length ≤ i
  · -- the end
    left
    rw [List.drop_eq_nil_of_le hlen] at hl
    simp only [lcL] at hl
    by_cases hs : same q'.S src.2 = true
    · rw [if_pos hs] at hl
      cases hl
      refine ⟨(hJ q' nx' ok' hs).2.1 i hlen, ?_⟩
      obtain ⟨qf, f1, f2, f3, nxf, okf⟩ := ok'.adopt hD' hn' ra nx' hD
      rw [← f2]
      exact hend qf f1 nxf okf _ ⟨by rw [f1]; simp, by rw [f3]⟩
    · rw [if_neg hs] at hl
      cases hl
  · -- a turn
    right
    have hlt : i < src.1.length := Nat.lt_of_not_le hlen
    rw [List.drop_eq_getElem_cons hlt] at hl
    simp only [lcL] at hl
    by_cases hs : same q'.S src.2 = true
    · rw [if_pos hs] at hl
      obtain ⟨g1, _, g3⟩ := hJ q' nx' ok' hs
      refine ⟨g1 i hlt, fun H' => Inv0 (i + 1) (src.1.length - (i + 1)) H', fun H' hN => ⟨_, by omega, hN⟩, fun x H' hy => ?_⟩
      obtain ⟨q1, s1, rfl, nx1, ok1, rx⟩ := g3 i x H' src.1[i] (List.getElem?_eq_getElem hlt) hy
      obtain ⟨hD1, hn1⟩ := nx1.beside hD' hn'
      have ra1 := ra.nx nx1 ok'
      have nq1 := nx'.trans nx1
      have re1 : RE g q1 (setAll env (own.map (·.2)) none) (wipe σ (own.map (·.2))) := (req.nx nq1 okq).wipe _
      -- what the turn gives
      have turn : ∃ (o : Option Mi.D) (S2 : Store) (env1 : Env) (S1 : Store) (b : Bool) (Sb : Store), mG src.1[i] (setAll env (own.map (·.2)) none) q1.S = .ok env1 S1 ∧ mC env1 S1 = .ok b Sb ∧
          (if b = true then (∃ e, o = some e ∧ mE env1 Sb = .ok e S2 ∧ acc.length < szl ∧ lcL (fun d S => (mG d (setAll env (own.map (·.2)) none) S).bind fun env S => (mC env S).bind fun k S => if k then (mE env S).bind fun e S => .ok (some e) S else .ok none S) (fun S => same S src.2) (acc ++ [e]) (src.1.drop (i + 1)) S2 = .ok l Sf)
          else (S2 = Sb ∧ lcL (fun d S => (mG d (setAll env (own.map (·.2)) none) S).bind fun env S => (mC env S).bind fun k S => if k then (mE env S).bind fun e S => .ok (some e) S else .ok none S) (fun S => same S src.2) acc (src.1.drop (i + 1)) Sb = .ok l Sf)) := by
        rw [← s1] at hl
        cases hm : (mG src.1[i] (setAll env (own.map (·.2)) none) q1.S).bind fun env S => (mC env S).bind fun k S => if k then (mE env S).bind fun e S => R.ok (some e) S else R.ok none S with
        | exc x S => rw [hm] at hl; cases hl
        | bad => rw [hm] at hl; cases hl
        | ok o S2 =>
          rw [hm] at hl
          obtain ⟨env1, S1, h1, h2⟩ := bind_ok hm
          obtain ⟨b, Sb, h3, h4⟩ := bind_ok h2
          refine ⟨o, S2, env1, S1, b, Sb, h1, h3, ?_⟩
          cases b with
          | true =>
            rw [if_pos rfl] at h4 ⊢
            obtain ⟨e, S3, h5, h6⟩ := bind_ok h4
            cases h6
            simp only at hl
            by_cases hz : acc.length < szl
            · rw [if_pos hz] at hl
              exact ⟨e, rfl, h5, hz, hl⟩
            · rw [if_neg hz] at hl
              cases hl
          | false =>
            rw [if_neg Bool.false_ne_true] at h4 ⊢
            cases h4
            exact ⟨rfl, hl⟩
      obtain ⟨o, S2, env1, S1, b, Sb, t1, t2, t3⟩ := turn
      refine ⟨q1, _, src.1[i], rfl, ok1, re1, rx, Post.okW t1 fun q2 e2 nx2 ok2 σ2 re2 fr2 => ⟨wipe_fr fr2 hsl, ?_⟩⟩
      obtain ⟨hD2, hn2⟩ := nx2.beside hD1 hn1
      refine ⟨q2, env1, rfl, ok2, re2, Post.okW (by rw [e2]; exact t2) fun q3 e3 nx3 ok3 => ?_⟩
      obtain ⟨hD3, hn3⟩ := nx3.beside hD2 hn2
      have ra3 := (ra1.nx nx2 ok1).nx nx3 ok2
      have nq3 := (nq1.trans nx2).trans nx3
      cases b with
      | false =>
        rw [if_neg Bool.false_ne_true] at t3 ⊢
        exact ⟨q3, acc, vs, rfl, ok3, nq3, hD3, hn3, ra3, rfl, by rw [e3]; exact t3.2⟩
      | true =>
        rw [if_pos rfl] at t3 ⊢
        obtain ⟨e, _, h5, hz, h6⟩ := t3
        refine ⟨q3, env1, rfl, ok3, re2.nx nx3 ok2, Post.okW (by rw [e3]; exact h5) fun q4 e4 nx4 ok4 y hy => ?_⟩
        obtain ⟨hD4, hn4⟩ := nx4.beside hD3 hn3
        have ra4 := ra3.nx nx4 ok3
        refine ⟨vs, hD4, by rw [← ra4.len, ← szl_eq]; exact hz, ?_⟩
        obtain ⟨okS, mv⟩ := ok4.side hD4 hn4 (vs ++ [y])
        have nq4 := nq3.trans nx4
        refine ⟨⟨q4.ρ, q4.S, upd q4.H D (.lst (vs ++ [y]))⟩, acc ++ [e], vs ++ [y], rfl, okS, ⟨nq4.len, nq4.rho, nq4.new, nq4.kd, fun a ha => ?_, fun a ob ha hne => ?_⟩, upd_same, hn4, (ra4.mv mv).append ⟨_, _, rfl, hy.mv mv, rfl⟩, rfl, by rw [show (Pl.mk q4.ρ q4.S (upd q4.H D (.lst (vs ++ [y])))).S = S2 from e4]; exact h6⟩
        · refine nq4.trk a ?_
          have ha : upd q4.H D (.lst (vs ++ [y])) a = none := ha
          by_cases z : a = D
          · rw [z, upd_same] at ha; cases ha
          · rw [upd_ne z] at ha; exact ha
        · show upd q4.H D (.lst (vs ++ [y])) a = some ob
          rw [upd_ne]
          · exact nq4.kep a ob ha hne
          · intro z
            rw [z, hD] at ha
            cases ha
    · rw [if_neg hs] at hl
      cases hl
theorem eM_lc (T : At X g P k W) {elt tg iter : Expr} {ifs : List Expr} {scope : Scope} {own : List (PySem.Str × Nat)} {pos : Pos} {sl : List Nat} {mI : Env → Store → R Src} {mG : D → Env → Store → R Env} {mC : Env → Store → R Bool} {mE : Env → Store → R D}
    (hi : PI X tg iter (iM g W mI)) (hb : BlkOk X.N X.env.scope scope own)
    (hg : ∀ (s : Shared) (H : Hp) (C : Addr) (cl : List (PySem.Str × Addr)) (fp : List Addr), PG (X.blk s H scope (compEnvC scope cl C X.env) fp) tg (gM g sl mG))
    (ht : ∀ (s : Shared) (H : Hp) (C : Addr) (cl : List (PySem.Str × Addr)) (fp : List Addr), PTs (X.blk s H scope (compEnvC scope cl C X.env) fp) ifs (tMT g NoW mC))
    (he : ∀ (s : Shared) (H : Hp) (C : Addr) (cl : List (PySem.Str × Addr)) (fp : List Addr), PE (X.blk s H scope (compEnvC scope cl C X.env) fp) elt (tM g NoW mE))
    (hsl : ∀ i ∈ sl, i ∈ own.map (·.2)) (hf : notSet iter = true) :
    PE X (.ListComp elt [{ target := tg, iter := iter, ifs := ifs, is_async := 0 }] scope pos) (tM g W fun env S => (mI env S).bind fun src S =>
      (lcL (fun d S => (mG d (setAll env (own.map (·.2)) none) S).bind fun env S => (mC env S).bind fun k S => if k then (mE env S).bind fun e S => .ok (some e) S else .ok none S) (fun S => same S src.2) [] src.1 S).bind fun l S => alloc (.lst l) S) := by
  exact PE.imp (pe_lc T.calm T.nd hi hb hg ht he (fold_of hf _)) fun σ H Q h => lc_read hsl h
end
end Mi
set_option maxRecDepth 100000
set_option maxHeartbeats 1000000
/-! S20: statements. -/
namespace Mi
open PySem PySem.Spec PyProof.Rows L2
/-- what the interpreter ends in, as the wishes of a block -/
def PostS (g : Gs) (W : WX) (p : Pl) (r : R O) (D : Ends) : Prop :=
  match r with
  | .ok (.next env) S => ∀ q : Pl, q.S = S → Nx p q → Ok g q → ∀ σ, RE g q env σ → D.nx σ q.H
  | .ok (.ret d) S => ∀ q : Pl, q.S = S → Nx p q → Ok g q → ∀ v, RV g q d v → D.rt v q.H
  | .ok (.brk env) S => ∀ q : Pl, q.S = S → Nx p q → Ok g q → ∀ σ, RE g q env σ → D.bk σ q.H
  | .ok (.cont env) S => ∀ q : Pl, q.S = S → Nx p q → Ok g q → ∀ σ, RE g q env σ → D.ct σ q.H
  | .ok (.exn x env) S => ∀ q : Pl, q.S = S → Nx p q → Ok g q → ∀ σ, RE g q env σ → ∀ cls dd, RX g q x cls dd → W cls dd σ q.H
  | .exc _ _ => False
  | .bad => False
def tS (g : Gs) (W : WX) (m : Env → Store → R O) : TS := fun D σ H => ∃ (p : Pl) (env : Env), p.H = H ∧ Ok g p ∧ RE g p env σ ∧ PostS g W p (m env p.S) D
theorem tS.out {g : Gs} {W : WX} {m : Env → Store → R O} {D : Ends} {σ : L2.St} {H : Hp} (h : tS g W m D σ H) : ∃ (p : Pl) (env : Env), p.H = H ∧ Ok g p ∧ RE g p env σ ∧ PostS g W p (m env p.S) D := h
theorem PostS.from {g : Gs} {W : WX} {p q : Pl} {r : R O} {D : Ends} (n : Nx p q) (h : PostS g W p r D) : PostS g W q r D := by
  cases r with
  | ok o S => cases o <;> exact fun u e m o => h u e (n.trans m) o
  | exc x S => exact h
  | bad => exact h
theorem PostS.mono {g : Gs} {W : WX} {p : Pl} {r : R O} {D D' : Ends} (h : PostS g W p r D) (h1 : ∀ σ H, D.nx σ H → D'.nx σ H) (h2 : ∀ v H, D.rt v H → D'.rt v H) (h3 : ∀ σ H, D.bk σ H → D'.bk σ H) (h4 : ∀ σ H, D.ct σ H → D'.ct σ H) : PostS g W p r D' := by
  cases r with
  | ok o S =>
    cases o with
    | next env => exact fun q e n o σ re => h1 _ _ (h q e n o σ re)
    | ret d => exact fun q e n o v re => h2 _ _ (h q e n o v re)
    | brk env => exact fun q e n o σ re => h3 _ _ (h q e n o σ re)
    | cont env => exact fun q e n o σ re => h4 _ _ (h q e n o σ re)
    | exn x env => exact h
  | exc x S => exact h
  | bad => exact h
/-- into an expression of a statement -/
theorem PostS.bindS {α : Type} {g : Gs} {W : WX} {p : Pl} {env : Env} {σ : L2.St} {r : R α} {k : α → Store → R O} {D : Ends} (ok : Ok g p) (re : RE g p env σ) (h : PostS g W p (r.bindS env k) D) : Post g (fun c d H => W c d σ H) p r fun q a => PostS g W q (k a q.S) D := by
  cases r with
  | ok a S =>
    intro q e n o
    have h1 : PostS g W p (k a S) D := h
    rw [e]
    exact h1.from n
  | exc x S => exact fun q cls dd e n o rx => h q e n o σ (re.nx n ok) cls dd rx
  | bad => exact h
/-- into what raises nothing -/
theorem PostS.bindN {α : Type} {g : Gs} {W : WX} {p : Pl} {env : Env} {r : R α} {k : α → Store → R O} {D : Ends} (hn : NE r) (h : PostS g W p (r.bindS env k) D) : Post g NoX p r fun q a => PostS g W q (k a q.S) D := by
  cases r with
  | ok a S =>
    intro q e n o
    have h1 : PostS g W p (k a S) D := h
    rw [e]
    exact h1.from n
  | exc x S => exact absurd rfl (hn x S)
  | bad => exact h
theorem PS.imp {X : Cx} {s : Stmt} {t t' : TS} (h : PS X s t) (hi : ∀ D σ H, t' D σ H → t D σ H) : PS X s t' := ⟨fun pins s σ H D I hw => h.run pins s σ H D I (hi D σ H hw)⟩
theorem PSs.imp {X : Cx} {s : List Stmt} {t t' : TS} (h : PSs X s t) (hi : ∀ D σ H, t' D σ H → t D σ H) : PSs X s t' := ⟨fun pins s σ H D I hw => h.run pins s σ H D I (hi D σ H hw)⟩
/-- an expression within a statement -/
theorem intoS {g : Gs} {W : WX} {m : Env → Store → R D} {k : D → Store → R O} {σ : L2.St} {p : Pl} {env : Env} {De : Ends} {Q : VK} (o : Ok g p) (re : RE g p env σ) (h : PostS g W p ((m env p.S).bindS env k) De)
    (hq : ∀ (q : Pl) (d : D) (v : V), Nx p q → Ok g q → RE g q env σ → RV g q d v → PostS g W q (k d q.S) De → Q v q.H) : tM g W m σ p.H Q :=
  ⟨p, env, rfl, o, re, (PostS.bindS o re h).mono fun q d n oq hp v hv => hq q d v n oq (re.nx n o) hv hp⟩
def noComp : Expr → Bool
  | .ListComp .. => false
  | .SetComp .. => false
  | .DictComp .. => false
  | _ => true
theorem swaps_of {e : Expr} (h : noComp e = true) (t : Option Expr) (l : Nat) (env : PySem.Env) : swapsWith e t l env = pure false := by
  unfold swapsWith
  cases e <;> first | rfl | cases h
structure AtS (X : Cx) (g : Gs) (P : Prg) (k : Nat) (W : WX) : Prop extends At X g P k W where
  po : PassesOwn (model X.prog X.w) X.A X.env X.xe
section
variable {X : Cx} {g : Gs} {W : WX} {P : Prg} {k : Nat}
theorem sM_expr {e : Expr} {pos : Pos} {m : Env → Store → R D} (hc : noComp e = true) (he : PE X e (tM g W m)) : PS X (.Expr e pos) (tS g W fun env S => (m env S).bindS env fun _ S => .ok (.next env) S) := PS.imp (ps_expr he (swaps_of hc _ _ _)) fun D σ H h => by
  obtain ⟨p, env, rfl, ok, re, hp⟩ := tS.out h
  refine intoS ok re hp fun q d v nx okq re' hv hp => ?_
  exact hp q rfl (Nx.refl q) okq σ re'
theorem sM_pass {pos : Pos} : PS X (.Pass pos) (tS g W fun env S => .ok (.next env) S) := PS.imp ps_pass fun D σ H h => by
  obtain ⟨p, env, rfl, ok, re, hp⟩ := tS.out h
  exact hp p rfl (Nx.refl p) ok σ re
theorem sM_brk {pos : Pos} : PS X (.Break pos) (tS g W fun env S => .ok (.brk env) S) := PS.imp ps_break fun D σ H h => by
  obtain ⟨p, env, rfl, ok, re, hp⟩ := tS.out h
  exact hp p rfl (Nx.refl p) ok σ re
theorem sM_cont {pos : Pos} : PS X (.Continue pos) (tS g W fun env S => .ok (.cont env) S) := PS.imp ps_continue fun D σ H h => by
  obtain ⟨p, env, rfl, ok, re, hp⟩ := tS.out h
  exact hp p rfl (Nx.refl p) ok σ re
theorem sM_never {s : Stmt} : PS X s (tS g W fun _ _ => .bad) := PS.imp ps_never fun D σ H h => by
  obtain ⟨p, env, rfl, ok, re, hp⟩ := tS.out h
  exact hp
theorem sM_ret {e : Expr} {pos : Pos} {m : Env → Store → R D} (he : PE X e (tM g W m)) : PS X (.Return (some e) pos) (tS g W fun env S => (m env S).bindS env fun d S => .ok (.ret d) S) := PS.imp (ps_ret he) fun D σ H h => by
  obtain ⟨p, env, rfl, ok, re, hp⟩ := tS.out h
  refine intoS ok re hp fun q d v nx okq re' hv hp => ?_
  exact hp q rfl (Nx.refl q) okq v hv
theorem sM_retN {pos : Pos} : PS X (.Return none pos) (tS g W fun env S => (R.ok (D.non) S).bindS env fun d S => .ok (.ret d) S) := PS.imp ps_retN fun D σ H h => by
  obtain ⟨p, env, rfl, ok, re, hp⟩ := tS.out h
  exact hp p rfl (Nx.refl p) ok _ rfl
theorem sM_asg {tg e : Expr} {pos : Pos} {sl : List Nat} {m : Env → Store → R D} {mG : D → Env → Store → R Env} (hc : noComp e = true) (hts : notStar tg = true) (hsw : swappedStores [tg] e X.env = pure none) (hn : ∀ d env S, NE (mG d env S)) (he : PE X e (tM g W m)) (hg : PG X tg (gM g sl mG)) :
    PS X (.Assign [tg] e pos) (tS g W fun env S => (m env S).bindS env fun d S => (mG d env S).bindS env fun env S => .ok (.next env) S) := PS.imp (ps_asg he hg (swaps_of hc _ _ _) hsw (by rw [asg_cons hts]; rfl)) fun D σ H h => by
  obtain ⟨p, env, rfl, ok, re, hp⟩ := tS.out h
  refine intoS ok re hp fun q d v nx okq re' hv hp => ?_
  refine ⟨q, env, d, rfl, okq, re', hv, (PostS.bindN (hn d env q.S) hp).mono fun q2 env2 nx2 ok2 hk σ2 re2 _ => ?_⟩
  exact hk q2 rfl (Nx.refl q2) ok2 σ2 re2
/-- a, b = x, y with both names of the def -/
theorem sM_par {i j : Nat} {x y : PySem.Str} {a b : Expr} {px py pt pt2 pos : Pos} {kt k2 : Nat} {mA : Env → Store → R (List D)} (hc : X.calm = true) (nd : X.N.Nodup) (hi : X.N[i]? = some x) (hj : X.N[j]? = some y) (hij : i ≠ j) (hx : X.env.scope.names.lookup x = some .local) (hy : X.env.scope.names.lookup y = some .local)
    (hsw : swappedStores [.Tuple [.Name x px, .Name y py] kt pt] (.Tuple [a, b] k2 pt2) X.env = pure (some [x, y])) (hA : PA X [a, b] (tMA g W mA)) :
    PS X (.Assign [.Tuple [.Name x px, .Name y py] kt pt] (.Tuple [a, b] k2 pt2) pos) (tS g W fun env S => (mA env S).bindS env fun ds S => match ds with
      | [d, e] => if i < env.length ∧ j < env.length then .ok (.next ((env.set i (some d)).set j (some e))) S else .bad
      | _ => .bad) := PS.imp (ps_par hc nd hi hj hij hx hy hA hsw) fun D σ H h => by
  obtain ⟨p, env, rfl, ok, re, hp⟩ := tS.out h
  refine ⟨p, env, rfl, ok, re, (PostS.bindS ok re hp).mono fun q ds nx okq hk vs hv => ?_⟩
  match ds, hv, hk with
  | [d, e], hv, hk =>
    obtain ⟨v, w, rfl, h1, h2⟩ := hv.two
    refine ⟨v, w, rfl, ?_⟩
    have hk : PostS g W q (if i < env.length ∧ j < env.length then .ok (.next ((env.set i (some d)).set j (some e))) q.S else .bad) D := hk
    by_cases hl : i < env.length ∧ j < env.length
    · rw [if_pos hl] at hk
      exact hk q rfl (Nx.refl q) okq _ (((re.nx nx ok).set h1 hl.1).set h2 (by rw [List.length_set]; exact hl.2))
    · rw [if_neg hl] at hk
      exact False.elim hk
  | [], hv, hk => exact False.elim hk
  | [_], hv, hk => exact False.elim hk
  | _ :: _ :: _ :: _, hv, hk => exact False.elim hk
/-- a, b, c = x, y, z with names of the def -/
theorem sM_par3 {i j l : Nat} {x y z : PySem.Str} {a b c : Expr} {px py pz pt pt2 pos : Pos} {kt k2 : Nat} {mA : Env → Store → R (List D)} (hc : X.calm = true) (nd : X.N.Nodup) (hi : X.N[i]? = some x) (hj : X.N[j]? = some y) (hl : X.N[l]? = some z) (hij : i ≠ j) (hil : i ≠ l) (hjl : j ≠ l)
    (hx : X.env.scope.names.lookup x = some .local) (hy : X.env.scope.names.lookup y = some .local) (hz : X.env.scope.names.lookup z = some .local)
    (hsw : swappedStores [.Tuple [.Name x px, .Name y py, .Name z pz] kt pt] (.Tuple [a, b, c] k2 pt2) X.env = pure (some [x, y, z])) (hA : PA X [a, b, c] (tMA g W mA)) :
    PS X (.Assign [.Tuple [.Name x px, .Name y py, .Name z pz] kt pt] (.Tuple [a, b, c] k2 pt2) pos) (tS g W fun env S => (mA env S).bindS env fun ds S => match ds with
      | [d, e, f] => if i < env.length ∧ j < env.length ∧ l < env.length then .ok (.next (((env.set i (some d)).set j (some e)).set l (some f))) S else .bad
      | _ => .bad) := PS.imp (ps_par3 hc nd hi hj hl hij hil hjl hx hy hz hA hsw) fun D σ H h => by
  obtain ⟨p, env, rfl, ok, re, hp⟩ := tS.out h
  refine ⟨p, env, rfl, ok, re, (PostS.bindS ok re hp).mono fun q ds nx okq hk vs hv => ?_⟩
  match ds, hv, hk with
  | [d, e, f], hv, hk =>
    simp only [RVs] at hv
    obtain ⟨v, _, rfl, h1, w, _, rfl, h2, u, _, rfl, h3, rfl⟩ := hv
    refine ⟨v, w, u, rfl, ?_⟩
    have hk : PostS g W q (if i < env.length ∧ j < env.length ∧ l < env.length then .ok (.next (((env.set i (some d)).set j (some e)).set l (some f))) q.S else .bad) D := hk
    by_cases hlt : i < env.length ∧ j < env.length ∧ l < env.length
    · rw [if_pos hlt] at hk
      exact hk q rfl (Nx.refl q) okq _ ((((re.nx nx ok).set h1 hlt.1).set h2 (by rw [List.length_set]; exact hlt.2.1)).set h3 (by rw [List.length_set, List.length_set]; exact hlt.2.2))
    · rw [if_neg hlt] at hk
      exact False.elim hk
  | [], hv, hk => exact False.elim hk
  | [_], hv, hk => exact False.elim hk
  | [_, _], hv, hk => exact False.elim hk
  | _ :: _ :: _ :: _ :: _, hv, hk => exact False.elim hk
theorem ssM_nil : PSs X [] (tS g W fun env S => .ok (.next env) S) := PSs.imp pss_nil fun D σ H h => by
  obtain ⟨p, env, rfl, ok, re, hp⟩ := tS.out h
  exact hp p rfl (Nx.refl p) ok σ re
theorem ssM_cons {s : Stmt} {r : List Stmt} {m m' : Env → Store → R O} (hs : PS X s (tS g W m)) (hr : PSs X r (tS g W m')) : PSs X (s :: r) (tS g W fun env S => (m env S).bind fun o S => match o with | .next env => m' env S | o => .ok o S) := PSs.imp (pss_cons hs hr) fun D σ H h => by
  obtain ⟨p, env, rfl, ok, re, hp⟩ := tS.out h
  refine ⟨p, env, rfl, ok, re, ?_⟩
  cases hm : m env p.S with
  | ok o S =>
    rw [hm] at hp
    cases o with
    | next env' =>
      intro q e n okq σ' re'
      have hp : PostS g W p (m' env' S) D := hp
      rw [← e] at hp
      exact ⟨q, env', rfl, okq, re', hp.from n⟩
    | ret d => exact hp
    | brk env' => exact hp
    | cont env' => exact hp
    | exn x env' => exact hp
  | exc x S => rw [hm] at hp; exact hp
  | bad => rw [hm] at hp; exact hp
theorem sM_if {c : Expr} {a b : List Stmt} {pos : Pos} {m : Env → Store → R D} {m1 m2 : Env → Store → R O} (hc : PT X c (tMT g W (mT m))) (ha : PSs X a (tS g W m1)) (hb : PSs X b (tS g W m2)) :
    PS X (.If c a b pos) (tS g W fun env S => (m env S).bindS env fun x S => (lift (truth x S) S).bindS env fun k S => if k then m1 env S else m2 env S) := PS.imp (ps_if hc ha hb) fun D σ H h => by
  obtain ⟨p, env, rfl, ok, re, hp⟩ := tS.out h
  have hp2 : PostS g W p ((mT m env p.S).bindS env fun k S => if k then m1 env S else m2 env S) D := by
    show PostS g W p ((R.bind (m env p.S) _).bindS env _) D
    cases hm : m env p.S with
    | ok a S =>
      rw [hm] at hp
      show PostS g W p ((lift (truth a S) S).bindS env _) D
      exact hp
    | exc x S => rw [hm] at hp; exact hp
    | bad => rw [hm] at hp; exact hp
  refine ⟨p, env, rfl, ok, re, (PostS.bindS ok re hp2).mono fun q k nx okq hk => ?_⟩
  cases k with
  | true => exact ⟨q, env, rfl, okq, re.nx nx ok, hk⟩
  | false => exact ⟨q, env, rfl, okq, re.nx nx ok, hk⟩
theorem sM_while (T : AtS X g P k W) {c : Expr} {body : List Stmt} {pos : Pos} {m : Env → Store → R D} {mb : Env → Store → R O} (n : Nat) (hc : PT X c (tMT g W (mT m))) (hb : PSs X body (tS g W mb)) :
    PS X (.While c body [] pos) (tS g W fun env S => whileL (fun env S => (m env S).bind fun x S => lift (truth x S) S) mb n env S) := PS.imp (ps_while T.po hc hb) fun D σ H h => by
  obtain ⟨p, env, rfl, ok, re, hp⟩ := tS.out h
  refine ⟨fun m' σ H => ∃ (p : Pl) (env : Env), p.H = H ∧ Ok g p ∧ RE g p env σ ∧ PostS g W p (whileL (mT m) mb m' env p.S) D, ⟨n, p, env, rfl, ok, re, hp⟩, fun m' σ H hI => ?_⟩
  obtain ⟨p, env, rfl, ok, re, hp⟩ := hI
  cases m' with
  | zero => exact False.elim hp
  | succ m' =>
    refine ⟨p, env, rfl, ok, re, (PostS.bindS ok re hp).mono fun q b nx okq hk => ?_⟩
    have re' := re.nx nx ok
    cases b with
    | false => exact hk q rfl (Nx.refl q) okq σ re'
    | true =>
      dsimp only
      rw [if_pos rfl]
      refine ⟨fun σ H => ∃ (p : Pl) (env : Env), p.H = H ∧ Ok g p ∧ RE g p env σ ∧ PostS g W p (whileL (mT m) mb m' env p.S) D, fun σ' H' h => ⟨m', Nat.lt_succ_self _, h⟩, q, env, rfl, okq, re', ?_⟩
      have hk : PostS g W q ((mb env q.S).bind fun o S => (match o with
        | .next env => whileL (mT m) mb m' env S
        | .cont env => whileL (mT m) mb m' env S
        | .brk env => .ok (.next env) S
        | .ret d => .ok (.ret d) S
        | .exn x env => .ok (.exn x env) S)) D := hk
      cases hm : mb env q.S with
      | ok o S =>
        rw [hm] at hk
        cases o with
        | next env' =>
          intro u e nu oku σ' ru
          have hk : PostS g W q (whileL (mT m) mb m' env' S) D := hk
          rw [← e] at hk
          exact ⟨u, env', rfl, oku, ru, hk.from nu⟩
        | cont env' =>
          intro u e nu oku σ' ru
          have hk : PostS g W q (whileL (mT m) mb m' env' S) D := hk
          rw [← e] at hk
          exact ⟨u, env', rfl, oku, ru, hk.from nu⟩
        | brk env' => exact hk
        | ret d => exact hk
        | exn x env' => exact hk
      | exc x S => rw [hm] at hk; exact hk
      | bad => rw [hm] at hk; exact hk
end
end Mi
set_option maxRecDepth 100000
set_option maxHeartbeats 1000000
/-! S21: statements, further. -/
namespace Mi
open PySem PySem.Spec PyProof.Rows L2
theorem putF_nil (f : PySem.Str) (v : V) : putF f v [] = [(f, v)] := rfl
theorem putF_cons (f f' : PySem.Str) (v v' : V) (r : List (PySem.Str × V)) : putF f v ((f', v') :: r) = if f' = f then (f', v) :: r else (f', v') :: putF f v r := rfl
theorem RF.put {g : Gs} {p : Pl} {f : String} {d : D} {v : V} (hv : RV g p d v) : ∀ {fs : List (String × D)} {gs : List (PySem.Str × V)}, RF g p fs gs → RF g p (Mi.put f d fs) (putF (PySem.Str.ofString f) v gs)
  | [], gs, r => by
    have e : gs = [] := r
    subst e
    exact ⟨v, [], rfl, hv, rfl⟩
  | (f', d') :: l, gs, r => by
    obtain ⟨w, t, e, hw, ht⟩ := r
    subst e
    rw [putF_cons]
    simp only [Mi.put]
    by_cases hf : f' = f
    · subst hf
      rw [if_pos rfl, if_pos rfl]
      exact ⟨v, t, rfl, hv, ht⟩
    · rw [if_neg hf, if_neg fun e => hf (ofString_inj e)]
      exact ⟨w, _, rfl, hw, RF.put hv ht⟩
theorem RF.len {g : Gs} {p : Pl} : ∀ {fs : List (String × D)} {gs : List (PySem.Str × V)}, RF g p fs gs → fs.length = gs.length
  | [], gs, r => by
    have e : gs = [] := r
    rw [e]; rfl
  | (f, d) :: l, gs, r => by
    obtain ⟨v, w, e, _, t⟩ := r
    rw [e, List.length_cons, List.length_cons, RF.len t]
section
variable {X : Cx} {g : Gs} {W : WX} {P : Prg} {k : Nat}
theorem sM_for (T : AtS X g P k W) {tg iter : Expr} {body : List Stmt} {pos : Pos} {sl : List Nat} {mI : Env → Store → R Src} {mG : D → Env → Store → R Env} {mb : Env → Store → R O} (hn : ∀ d env S, NE (mG d env S)) (hf : notSet iter = true) (hi : PI X tg iter (iM g W mI)) (hg : PG X tg (gM g sl mG)) (hb : PSs X body (tS g W mb)) :
    PS X (.For tg iter body [] pos) (tS g W fun env S => (mI env S).bindS env fun src S => forL mG mb (fun S => same S src.2) src.1 env S) := PS.imp (ps_for T.po T.calm hi hg hb (fold_of hf _)) fun D σ H h => by
  obtain ⟨p, env, rfl, ok, re, hp⟩ := tS.out h
  refine ⟨p, env, rfl, ok, re, (PostS.bindS ok re hp).mono fun q src nxq okq hk J hJ => ?_⟩
  have req := re.nx nxq ok
  refine ⟨fun i m σ H => ∃ (p' : Pl) (env' : Env), p'.H = H ∧ Ok g p' ∧ RE g p' env' σ ∧ Nx q p' ∧ m = src.1.length - i ∧ PostS g W p' (forL mG mb (fun S => same S src.2) (src.1.drop i) env' p'.S) D, ⟨src.1.length, q, env, rfl, okq, req, Nx.refl q, by simp, by simpa using hk⟩, fun i m σ H hI => ?_⟩
  obtain ⟨p', env', rfl, ok', re', nx', rfl, hl⟩ := hI
  by_cases hlen : src.1.length ≤ i
  · left
    rw [List.drop_eq_nil_of_le hlen] at hl
    simp only [forL] at hl
    by_cases hs : same p'.S src.2 = true
    · rw [if_pos hs] at hl
      exact ⟨(hJ p' nx' ok' hs).2.1 i hlen, hl p' rfl (Nx.refl p') ok' σ re'⟩
    · rw [if_neg hs] at hl
      exact False.elim hl
  · right
    have hlt : i < src.1.length := Nat.lt_of_not_le hlen
    rw [List.drop_eq_getElem_cons hlt] at hl
    simp only [forL] at hl
    by_cases hs : same p'.S src.2 = true
    · rw [if_pos hs] at hl
      obtain ⟨g1, _, g3⟩ := hJ p' nx' ok' hs
      refine ⟨g1 i hlt, fun σ H => ∃ (p' : Pl) (env' : Env), p'.H = H ∧ Ok g p' ∧ RE g p' env' σ ∧ Nx q p' ∧ PostS g W p' (forL mG mb (fun S => same S src.2) (src.1.drop (i + 1)) env' p'.S) D, fun σ' H' hN => ?_, fun x H' hy => ?_⟩
      · obtain ⟨u, eu, e1, e2, e3, e4, e5⟩ := hN
        exact ⟨src.1.length - (i + 1), by omega, u, eu, e1, e2, e3, e4, rfl, e5⟩
      obtain ⟨q1, s1, rfl, nx1, ok1, rx⟩ := g3 i x H' src.1[i] (List.getElem?_eq_getElem hlt) hy
      rw [← s1] at hl
      refine ⟨q1, env', src.1[i], rfl, ok1, re'.nx nx1 ok', rx, (PostS.bindN (hn _ _ _) (hl.from nx1)).mono fun q2 env2 nx2 ok2 hk2 σ2 re2 _ => ?_⟩
      refine ⟨q2, env2, rfl, ok2, re2, ?_⟩
      have nq2 : Nx q q2 := (nx'.trans nx1).trans nx2
      cases hm : mb env2 q2.S with
      | ok o S =>
        rw [hm] at hk2
        cases o with
        | next env3 =>
          intro u e nu oku σ' ru
          have hk2 : PostS g W q2 (forL mG mb (fun S => same S src.2) (src.1.drop (i + 1)) env3 S) D := hk2
          rw [← e] at hk2
          exact ⟨u, env3, rfl, oku, ru, nq2.trans nu, hk2.from nu⟩
        | cont env3 =>
          intro u e nu oku σ' ru
          have hk2 : PostS g W q2 (forL mG mb (fun S => same S src.2) (src.1.drop (i + 1)) env3 S) D := hk2
          rw [← e] at hk2
          exact ⟨u, env3, rfl, oku, ru, nq2.trans nu, hk2.from nu⟩
        | brk env3 => exact hk2
        | ret d => exact hk2
        | exn x env3 => exact hk2
      | exc x S => rw [hm] at hk2; exact hk2
      | bad => rw [hm] at hk2; exact hk2
    · rw [if_neg hs] at hl
      exact False.elim hl
/-- x += e of whole numbers -/
theorem sM_aug (T : At X g P k W) {i : Nat} {x : PySem.Str} {e : Expr} {op : Operator} {f : Int → Int → Int} {pos pos' : Pos} {m : Env → Store → R D} (hN : X.N[i]? = some x) (hl : L2.Loc X.env.scope x) (hf : X.fn x = true ∨ X.env.scope.names.lookup x = some .local) (ho : OpR X (inplaceOp op) (rI0 fun i j => .int (f i j))) (he : PE X e (tM g W m)) :
    PS X (.AugAssign (.Name x pos') op e pos) (tS g W fun env S => (match env[i]? with | some (some d) => R.ok d S | _ => .bad : R D).bindS env fun a S => (m env S).bindS env fun b S => match a with
      | .int x => match b with
        | .int y => if i < env.length then .ok (.next (env.set i (some (.int (f x y))))) S else .bad
        | _ => .bad
      | _ => .bad) := PS.imp (ps_aug T.nd hN hl he ho hf) fun D σ H h => by
  obtain ⟨p, env, rfl, ok, re, hp⟩ := tS.out h
  cases he : env[i]? with
  | none => rw [he] at hp; exact False.elim hp
  | some o =>
    cases o with
    | none => rw [he] at hp; exact False.elim hp
    | some d =>
      rw [he] at hp
      obtain ⟨v, h3, h4⟩ := re.2 i d he
      refine ⟨v, h3, ?_⟩
      cases d with
      | int x =>
        have hp : PostS g W p ((m env p.S).bindS env fun b S => match b with
          | .int y => if i < env.length then .ok (.next (env.set i (some (.int (f x y))))) S else .bad
          | _ => .bad) D := hp
        refine intoS ok re hp fun q b w nx okq re' hw hp => ?_
        cases b with
        | int y =>
          cases h4
          cases hw
          simp only at hp
          by_cases hi : i < env.length
          · rw [if_pos hi] at hp
            exact ⟨x, y, rfl, rfl, hp q rfl (Nx.refl q) okq _ (re'.set (d := .int (f x y)) rfl hi)⟩
          · rw [if_neg hi] at hp
            exact False.elim hp
        | _ => exact False.elim hp
      | _ => exact intoS (k := fun _ _ => .bad) ok re hp fun q b w nx okq re' hw hp => False.elim hp
/-- o.f = e -/
theorem sM_fld (T : At X g P k W) {o e : Expr} {f : String} {pos pos' : Pos} {m mo : Env → Store → R D} (hc : noComp e = true) (ho : PE X o (tM g W mo)) (he : PE X e (tM g W m)) :
    PS X (.Assign [.Attribute o (PySem.Str.ofString f) pos'] e pos) (tS g W fun env S => (m env S).bindS env fun d S => (((mo env S).bind fun x S => setFld P x f d S).calm.bind fun _ S => .ok env S).bindS env fun env S => .ok (.next env) S) := PS.imp (ps_fld ho he (swaps_of hc _ _ _)) fun D σ H h => by
  obtain ⟨p, env, rfl, ok, re, hp⟩ := tS.out h
  refine intoS ok re hp fun q d v nx okq re' hv hp => ?_
  have hcalm : NE (((mo env q.S).bind fun x S => setFld P x f d S).calm.bind fun _ S => R.ok env S) := (NE.calm _).bind fun _ _ => NE.ok _ _
  have hp2 := PostS.bindN hcalm hp
  have hp3 := Post.calmAny (W := fun c d H => W c d σ H) hp2.bind
  refine into okq re' hp3 fun q2 x o nx2 ok2 re2 ho hk => ?_
  cases x with
  | loc n =>
    obtain ⟨hlt, eo⟩ := ho
    subst eo
    simp only [setFld] at hk
    cases hn : q2.S[n]? with
    | none => rw [hn] at hk; exact False.elim hk
    | some ob =>
      rw [hn] at hk
      cases ob with
      | ins c fs =>
        simp only at hk
        by_cases hz : P.fld c f = true ∧ fs.length < 900
        · rw [if_pos hz] at hk
          obtain ⟨dx, gs, h1, h2⟩ := ok2.insAt hn
          obtain ⟨c1, c2⟩ := T.Z.fld c f hz.1
          rw [← T.hK] at c1 c2
          refine ⟨_, _, dx, gs, rfl, h1, c1, c2, by rw [← h2.len]; omega, ?_⟩
          obtain ⟨q3, e1, e2, e3, nx3, ok3⟩ := ok2.put (o' := .ins c (Mi.put f d fs)) (u := .ins (g.ad c) dx (putF (PySem.Str.ofString f) v gs)) hn rfl rfl (fun q3 e1 e2 e3 nx3 => ⟨dx, _, by rw [e1]; exact upd_same, (h2.put (hv.nx nx2 okq)).nx nx3 ok2⟩) (fun q e1 e2 e3 => Nx.put ok2 hn rfl rfl e1 e2 e3)
          rw [← e2]
          have hk2 := hk q3 e1 nx3 ok3
          have hk3 := hk2.ok rfl ok3
          exact hk3 q3 rfl (Nx.refl q3) ok3 σ (re2.nx nx3 ok2)
        · rw [if_neg hz] at hk
          exact False.elim hk
      | _ => exact False.elim hk
  | _ => exact False.elim hk
/-- y = [..] of the def's own name y -/
theorem sM_setLc (T : At X g P k W) {i : Nat} {y : PySem.Str} {py : Pos} {elt tg iter : Expr} {ifs : List Expr} {scope : Scope} {own : List (PySem.Str × Nat)} {pos spos : Pos} {sl : List Nat} {mI : Env → Store → R Src} {mG : D → Env → Store → R Env} {mC : Env → Store → R Bool} {mE : Env → Store → R D}
    (hN : X.N[i]? = some y) (hl : X.env.scope.names.lookup y = some .local) (hsw : swapsWith (.ListComp elt [{ target := tg, iter := iter, ifs := ifs, is_async := 0 }] scope pos) (some (.Name y py)) spos.line X.env = pure true)
    (hi : PI X tg iter (iM g W mI)) (hb : BlkOk X.N X.env.scope scope own)
    (hg : ∀ (s : Shared) (H : Hp) (C : Addr) (cl : List (PySem.Str × Addr)) (fp : List Addr), PG (X.blk s H scope (compEnvC scope cl C X.env) fp) tg (gM g sl mG))
    (ht : ∀ (s : Shared) (H : Hp) (C : Addr) (cl : List (PySem.Str × Addr)) (fp : List Addr), PTs (X.blk s H scope (compEnvC scope cl C X.env) fp) ifs (tMT g NoW mC))
    (he : ∀ (s : Shared) (H : Hp) (C : Addr) (cl : List (PySem.Str × Addr)) (fp : List Addr), PE (X.blk s H scope (compEnvC scope cl C X.env) fp) elt (tM g NoW mE))
    (hsl : ∀ i ∈ sl, i ∈ own.map (·.2)) (hf : notSet iter = true) :
    PS X (.Assign [.Name y py] (.ListComp elt [{ target := tg, iter := iter, ifs := ifs, is_async := 0 }] scope pos) spos) (tS g W fun env S => ((mI env S).bind fun src S =>
      (lcL (fun d S => (mG d (setAll env (own.map (·.2)) none) S).bind fun env S => (mC env S).bind fun k S => if k then (mE env S).bind fun e S => .ok (some e) S else .ok none S) (fun S => same S src.2) [] src.1 S).bind fun l S => alloc (.lst l) S).bindS env fun d S =>
        (if i < env.length then R.ok (env.set i (some d)) S else .bad : R Env).bindS env fun env S => .ok (.next env) S) := PS.imp (ps_setLc T.calm T.nd hN hl hsw hi hb hg ht he (fold_of hf _)) fun D σ H h => by
  obtain ⟨p, env, rfl, ok, re, hp⟩ := tS.out h
  refine lc_read hsl (intoS (k := fun d S => (if i < env.length then R.ok (env.set i (some d)) S else .bad : R Env).bindS env fun env S => .ok (.next env) S) ok re hp fun q d v nx okq re' hv hp => ?_)
  by_cases hi : i < env.length
  · rw [if_pos hi] at hp
    exact hp q rfl (Nx.refl q) okq _ (re'.set hv hi)
  · rw [if_neg hi] at hp
    exact False.elim hp
end
end Mi
set_option maxRecDepth 100000
set_option maxHeartbeats 1000000
/-! S22: the translation. -/
namespace Mi
open PySem PySem.Spec PyProof.Rows L2
theorem R.assoc {α β γ : Type} (r : R α) (k : α → Store → R β) (l : β → Store → R γ) : (r.bind k).bind l = r.bind fun a S => (k a S).bind l := by
  cases r <;> rfl
theorem kw_len {kws : List Keyword} {ks : List String} (hkw : kwNamed kws = true) (hks : kwNames kws = ks.map PySem.Str.ofString) : kws.length = ks.length := by
  have h1 : (kwNames kws).length = kws.length := by
    clear hks
    induction kws with
    | nil => rfl
    | cons a r ih =>
      simp only [kwNamed, List.all_cons, Bool.and_eq_true] at hkw
      unfold kwNames at ih ⊢
      obtain ⟨z, hz⟩ := Option.isSome_iff_exists.mp hkw.1
      rw [List.filterMap_cons, hz]
      simp only [List.length_cons]
      rw [ih hkw.2]
  rw [← h1, hks, List.length_map]
section
variable {X : Cx} {g : Gs} {W : WX} {P : Prg} {k : Nat}
theorem eM_make (T : At X g P k W) {x : PySem.Str} {xp pos : Pos} {es : List Expr} {kws : List Keyword} {mA mK : Env → Store → R (List D)} {c n : Nat} {perm : List Nat} {ks : List String} (hg : Gl X x) (hm : X.mg x = some (.ref (g.ad c))) (hi : P.init c = some n) (hdb : (x == PySem.Str.ofString "__debug__") = false)
    (hes : es.all notStar = true) (hkw : kwNamed kws = true) (hA : PA X es (tMA g W mA)) (hKk : PK X kws (tMA g W mK)) (lA : ∀ env S ds S', mA env S = .ok ds S' → ds.length = es.length) (lK : ∀ env S ds S', mK env S = .ok ds S' → ds.length = kws.length)
    (nA : es = [] → mA = fun _ S => .ok [] S) (nK : kws = [] → mK = fun _ S => .ok [] S) (hks : kwNames kws = ks.map PySem.Str.ofString) (hp : if ks = [] then perm = [] else P.kws n (es.length + 1) ks = some perm) :
    PE X (.Call (.Name x xp) es kws pos) (tM g W fun env S => (mA env S).bind fun ds S => (mK env S).bind fun zs S => (callN P k n (permD perm (.loc S.length :: (ds ++ zs))) (S ++ [.ins c []])).bind fun r S' => match r with | .non => .ok (.loc S.length) S' | _ => .bad) := by
  refine ⟨fun pins s σ H Q I hw => ?_⟩
  obtain ⟨p, env, rfl, ok, re, hw⟩ := tM.out hw
  have M := T.Z.init c n hi
  rw [← T.hK] at M
  have hlk := kw_len hkw hks
  refine wpAny_Call_Name_kw (ld_glob I hg hm (args_M (kk := fun ds S => (callN P k n (permD perm (D.loc S.length :: ds)) (S ++ [MO.ins c []])).bind fun r S' => match r with | .non => R.ok (D.loc S.length) S' | _ => .bad) hes hkw hA hKk lA lK nA nK M.kp ok re I hw fun q ds vs us ws s' nx okq I' rv r lu lw hk => ?_) hdb)
  rw [hks, List.nil_append]
  exact own_make T.Z T.hK T.Fs (T.room.mono (by omega)) T.gd T.tk okq I' hi rv r (by rw [lw, hlk]) (by rw [lu]; exact hp) hk
end
/-! names -/
inductive BN where
  | len | abs | min | max | sum | all | any | repr | divmod | sorted
  deriving DecidableEq
def BN.id : BN → String
  | .len => "len" | .abs => "abs" | .min => "min" | .max => "max" | .sum => "sum" | .all => "all" | .any => "any" | .repr => "repr" | .divmod => "divmod" | .sorted => "sorted"
def BN.bi : BN → Nat → Option Bi
  | .len, 1 => some .len
  | .abs, 1 => some .abs
  | .min, 1 => some .minL
  | .min, 2 => some .min2
  | .max, 1 => some .maxL
  | .max, 2 => some .max2
  | .sum, 1 => some .sumL
  | .all, 1 => some .allL
  | .any, 1 => some .anyL
  | .repr, 1 => some .repr1
  | .divmod, 2 => some .divmod
  | .sorted, 1 => some .sorted1
  | _, _ => none
inductive TN where
  | int | bool | str | tuple | list | dict
  deriving DecidableEq
def TN.id : TN → String
  | .int => "int" | .bool => "bool" | .str => "str" | .tuple => "tuple" | .list => "list" | .dict => "dict"
def TN.ty : TN → Ty
  | .int => .int | .bool => .bool | .str => .str | .tuple => .tuple | .list => .list | .dict => .dict
def TN.bi : TN → Nat → Option Bi
  | .int, 1 => some .int1
  | .tuple, 1 => some .tuple1
  | .dict, 1 => some .dict1
  | _, _ => none
inductive MN where
  | append | pop | index | join | split
  deriving DecidableEq
def MN.id : MN → String
  | .append => "append" | .pop => "pop" | .index => "index" | .join => "join" | .split => "split"
/-- what a name of the top is -/
inductive Gv where
  | con (d : D) | fn (n : Nat) | cls (c : Nat) | bi (b : BN) | ty (t : TN) | isi | rng | enm | zipp
structure Tb where
  N : List PySem.Str
  sc : Scope
  cs : Scope
structure Pt where
  gl : List (PySem.Str × Gv)
  fl : List (PySem.Str × String)
  mb : List (PySem.Str × MN)
  init : Nat → Option Nat
  kws : Nat → Nat → List String → Option (List Nat)
  mks : String → Nat → List String → Option (List Nat)
def findIx (x : PySem.Str) : List PySem.Str → Nat → Option Nat
  | [], _ => none
  | y :: r, i => if y = x then some i else findIx x r (i + 1)
theorem findIx_ok {x : PySem.Str} : ∀ {l : List PySem.Str} {i j : Nat}, findIx x l i = some j → i ≤ j ∧ l[j - i]? = some x
  | [], i, j, h => by cases h
  | y :: r, i, j, h => by
    simp only [findIx] at h
    by_cases e : y = x
    · rw [if_pos e] at h
      cases h
      exact ⟨Nat.le_refl _, by simp [e]⟩
    · rw [if_neg e] at h
      obtain ⟨h1, h2⟩ := findIx_ok h
      refine ⟨by omega, ?_⟩
      have : j - i = (j - (i + 1)) + 1 := by omega
      rw [this, List.getElem?_cons_succ]
      exact h2
def dbgN : PySem.Str := PySem.Str.ofString "__debug__"
def cdN : PySem.Str := PySem.Str.ofString "__classdict__"
def isVis : Option NameKind → Bool
  | some .local | some .cell | some .free => true
  | _ => false
def slotOf (T : Tb) (x : PySem.Str) : Option Nat := if isVis (T.sc.names.lookup x) && !(x == dbgN) && !(x == cdN) then findIx x T.N 0 else none
def globOf (pt : Pt) (T : Tb) (x : PySem.Str) : Option Gv := if (T.sc.names.lookup x == some .globalImplicit) && !(x == dbgN) then pt.gl.lookup x else none
/-- where a name is stored -/
def locOf (T : Tb) (x : PySem.Str) : Option Nat := if (T.sc.names.lookup x == some .local) || ((T.sc.names.lookup x == some .cell) && (T.cs.names.lookup x == some .cell)) then findIx x T.N 0 else none
def relS (scope sc : Scope) : Scope :=
  { kind := scope.kind,
    names := scope.names.map fun (n, k) => if (k == .free && sc.kind == .function && sc.names.lookup n == some .cell) = true then (n, .cell) else (n, k),
    isGenerator := scope.isGenerator, isCoroutine := scope.isCoroutine, more := scope.more }
theorem relS_eq (scope : Scope) (env : PySem.Env) : relabel scope env = relS scope env.scope := rfl
def bopOf : Operator → Option Bop
  | .Add => some .add | .Sub => some .sub | .Mult => some .mul | .FloorDiv => some .fdiv | .Mod => some .mod | .Pow => some .pow
  | _ => none
def copOf : CmpOp → Option Cop
  | .Eq => some .eq | .NotEq => some .ne | .Lt => some .lt | .LtE => some .le | .Gt => some .gt | .GtE => some .ge | .Is => some .is | .IsNot => some .isNot | .In => some .inn | .NotIn => some .notIn
def esOf (f : Expr → E) : List Expr → Es
  | [] => .nil
  | e :: r => .cons (f e) (esOf f r)
def ownOf (T : Tb) (scope : Scope) : List (PySem.Str × Nat) := scope.names.filterMap fun (x, k) => match k with
  | .local => (findIx x T.N 0).map fun i => (x, i)
  | .cell => (findIx x T.N 0).map fun i => (x, i)
  | _ => none
def tgSl : Tg → List Nat
  | .name i => [i]
  | .tup ts => tgsSl ts
  | _ => []
where tgsSl : Tgs → List Nat
  | .nil => []
  | .cons t r => tgSl t ++ tgsSl r
def trI (pt : Pt) (T : Tb) (f : Expr → E) (tg iter : Expr) : I :=
  match iter with
  | .Call (.Name x _) args [] _ => match slotOf T x with
    | some _ => .val (f iter)
    | none => match globOf pt T x with
      | some .rng => match args with
        | [a] => if notStar a then .rng1 (f a) else .val .never
        | [a, b] => if notStar a && notStar b then .rng2 (f a) (f b) else .val .never
        | _ => .val .never
      | some .enm => match args, tg with
        | [a], .Tuple .. => if notStar a then .enum (f a) else .val .never
        | _, _ => .val .never
      | some .zipp => match args, tg with
        | [a, b], .Tuple .. => if notStar a && notStar b then .zip (f a) (f b) else .val .never
        | _, _ => .val .never
      | _ => .val (f iter)
  | _ => .val (f iter)
def neverT : Tg := .sub .never .never
def tsOf (f : Expr → Tg) : List Expr → Tgs
  | [] => .nil
  | e :: r => .cons (f e) (tsOf f r)
def trT (pt : Pt) (T : Tb) (f : Expr → E) : Nat → Expr → Tg
  | 0, _ => neverT
  | n + 1, e => match e with
    | .Name x _ => match locOf T x with
      | some i => .name i
      | none => neverT
    | .Tuple ts _ _ => if ts.all notStar then .tup (tsOf (trT pt T f n) ts) else neverT
    | .Subscript o i _ => if plainIx i then .sub (f o) (f i) else neverT
    | _ => neverT
def trB (pt : Pt) (T : Tb) (f : Expr → E) (x : PySem.Str) (gv : Gv) (es : List Expr) (kws : List Keyword) : E :=
  if es.all notStar && kwNamed kws then
    match mapO (fun s => pt.fl.lookup s) (kwNames kws) with
    | some ks => match gv with
      | .fn m => if ks = [] then .call m [] (esOf f (es ++ kws.map (·.value))) else match pt.kws m es.length ks with
        | some perm => .call m perm (esOf f (es ++ kws.map (·.value)))
        | none => .never
      | .cls c => match pt.init c with
        | some m => if ks = [] then .mk c [] (esOf f (es ++ kws.map (·.value))) else match pt.kws m (es.length + 1) ks with
          | some perm => .mk c perm (esOf f (es ++ kws.map (·.value)))
          | none => .never
        | none => .never
      | .bi b => match kws with
        | [] => match es with
          | [] => .never
          | e :: r => match b.bi (e :: r).length with
            | some i => .bi i (esOf f (e :: r))
            | none => .never
        | _ => .never
      | .ty t => match kws with
        | [] => match es with
          | [] => .never
          | e :: r => match t.bi (e :: r).length with
            | some i => .bi i (esOf f (e :: r))
            | none => .never
        | _ => .never
      | .isi => match kws with
        | [] => match es with
          | [e, .Name y _] => match slotOf T y with
            | some _ => .never
            | none => match globOf pt T y with
              | some (.ty t) => .bi (.isinst [t.ty]) (esOf f [e])
              | some (.cls c) => .bi (.isinst [.own c]) (esOf f [e])
              | _ => .never
          | _ => .never
        | _ => .never
      | _ => .never
    | none => .never
  else .never
/-- o.s(..), s a method of o's own class -/
def trM (pt : Pt) (f : Expr → E) (s : String) (o : Expr) (es : List Expr) (kws : List Keyword) : E :=
  if es.all notStar && (kwNamed kws && decide (es.length + kws.length < 29)) then
    match mapO (fun s => pt.fl.lookup s) (kwNames kws) with
    | some ks => if ks = [] then .mth (f o) s [] (esOf f (es ++ kws.map (·.value))) else match pt.mks s es.length ks with
      | some perm => .mth (f o) s perm (esOf f (es ++ kws.map (·.value)))
      | none => .never
    | none => .never
  else .never
/-- o.b(..), b a method of a built-in's -/
def trBM (f : Expr → E) (b : MN) (o : Expr) (es : List Expr) (kws : List Keyword) : E :=
  match kws with
  | [] => match b with
    | .append => match es with
      | [a] => if notStar a then .mb .append (f o) (esOf f [a]) else .never
      | _ => .never
    | .pop => match es with
      | [] => .mb .pop0 (f o) .nil
      | [a] => if notStar a then .mb .pop1 (f o) (esOf f [a]) else .never
      | _ => .never
    | .index => match es with
      | [a] => if notStar a then .mb .index (f o) (esOf f [a]) else .never
      | _ => .never
    | .join => match es with
      | [a] => if notStar a then .mb .join (f o) (esOf f [a]) else .never
      | _ => .never
    | .split => match es with
      | [a] => if notStar a then .mb .split (f o) (esOf f [a]) else .never
      | _ => .never
  | _ => .never
def trE (pt : Pt) : Nat → Tb → Expr → E
  | 0, _, _ => .never
  | n + 1, T, e => match e with
    | .Constant c _ _ => match c with
      | .int i => .int i
      | .bool b => .bl b
      | .none => .non
      | .str s => if okS s.cps.toList then .str s.cps.toList else .never
      | _ => .never
    | .Name x _ => match slotOf T x with
      | some i => .var i
      | none => match globOf pt T x with
        | some (.con d) => .con d
        | _ => .never
    | .BinOp a op b _ => match bopOf op with
      | some o => .bin o (trE pt n T a) (trE pt n T b)
      | none => .never
    | .UnaryOp op a _ => match op with
      | .USub => .neg (trE pt n T a)
      | .Not => .notE (trE pt n T a)
      | _ => .never
    | .Compare a ops bs _ => match ops with
      | [o] => match bs with
        | [b] => match copOf o with
          | some c => if behindInMarks o b then .never else .cmp c (trE pt n T a) (trE pt n T b)
          | none => .never
        | _ => .never
      | [o, o'] => match bs with
        | [b, b'] => match copOf o with
          | some c => match copOf o' with
            | some c' => if lastMarks [o, o'] [b, b'] then .never else .cmp2 c c' (trE pt n T a) (trE pt n T b) (trE pt n T b')
            | none => .never
          | none => .never
        | _ => .never
      | _ => .never
    | .BoolOp op vs pos => match vs with
      | [] => .never
      | [a] => trE pt n T a
      | a :: b :: r => match op with
        | .And => .andE (trE pt n T a) (trE pt n T (.BoolOp .And (b :: r) pos))
        | .Or => .orE (trE pt n T a) (trE pt n T (.BoolOp .Or (b :: r) pos))
    | .IfExp c a b _ => .ite (trE pt n T c) (trE pt n T a) (trE pt n T b)
    | .Tuple es _ _ => .tup (esS (trE pt n T) es)
    | .List es _ => .lst (esS (trE pt n T) es)
    | .Subscript a b _ => match b with
      | .Slice lo hi st _ => match st with
        | none => .sli (trE pt n T a) (match lo with | some e => .some (trE pt n T e) | none => .none) (match hi with | some e => .some (trE pt n T e) | none => .none) .none
        | some _ => .never
      | b => .idx (trE pt n T a) (trE pt n T b)
    | .Attribute a f _ => if plainBase a then (match pt.fl.lookup f with
      | some s => .fld (trE pt n T a) s
      | none => .never) else .never
    | .Call f es kws cpos => match f with
      | .Name x _ => match slotOf T x with
        | some _ => .never
        | none => match globOf pt T x with
          | some gv => trB pt T (trE pt n T) x gv es kws
          | none => .never
      | .Attribute o m apos => if plainBase o && (apos.endLine == cpos.line) then (match pt.mb.lookup m with
        | some b => trBM (trE pt n T) b o es kws
        | none => match pt.fl.lookup m with
          | some s => trM pt (trE pt n T) s o es kws
          | none => .never) else .never
      | _ => .never
    | .ListComp elt gens scope _ => match gens with
      | [⟨tg, iter, ifs, asy⟩] =>
        let own := ownOf T scope
        let T' : Tb := { N := T.N, sc := relS scope T.sc, cs := scope }
        let t := trT pt T' (trE pt n T') n tg
        if blkC T.N T.sc scope own && notSet iter && decide (asy = 0) && (tgSl t).all (fun i => (own.map (·.2)).contains i) then
          match ifs with
          | [] => .lc (trE pt n T' elt) t (trI pt T (trE pt n T) tg iter) .nil (own.map (·.2))
          | [c] => .lc (trE pt n T' elt) t (trI pt T (trE pt n T) tg iter) (.cons (trE pt n T' c) .nil) (own.map (·.2))
          | _ => .never
        else .never
      | _ => .never
    | _ => .never
end Mi
set_option maxRecDepth 100000
set_option maxHeartbeats 1000000
/-! S23: the translation is sound: parts. -/
namespace Mi
open PySem PySem.Spec PyProof.Rows L2
/-- what the tables say of the program -/
structure PtOkM (mg : PySem.Str → Option Value) (g : Gs) (P : Prg) (pt : Pt) : Prop where
  con : ∀ x d, pt.gl.lookup x = some (.con d) → ∃ u, mg x = some u ∧ ∃ v, RelV v u ∧ ∀ p, RV g p d v
  fn : ∀ x n, pt.gl.lookup x = some (.fn n) → mg x = some (.ref (g.ad n)) ∧ (P.fn n).isSome = true
  cls : ∀ x c, pt.gl.lookup x = some (.cls c) → mg x = some (.ref (g.ad c))
  bi : ∀ x b, pt.gl.lookup x = some (.bi b) → mg x = none ∧ bootBuiltins x = some (.builtin b.id) ∧ x ≠ PySem.Str.ofString "__name__"
  ty : ∀ x t, pt.gl.lookup x = some (.ty t) → mg x = none ∧ bootBuiltins x = some (.type t.id) ∧ x ≠ PySem.Str.ofString "__name__"
  isi : ∀ x, pt.gl.lookup x = some .isi → x = PySem.Str.ofString "isinstance" ∧ mg x = none
  rng : ∀ x, pt.gl.lookup x = some .rng → x = PySem.Str.ofString "range" ∧ mg x = none
  enm : ∀ x, pt.gl.lookup x = some .enm → x = PySem.Str.ofString "enumerate" ∧ mg x = none
  zip : ∀ x, pt.gl.lookup x = some .zipp → x = PySem.Str.ofString "zip" ∧ mg x = none
  fl : ∀ f s, pt.fl.lookup f = some s → f = PySem.Str.ofString s
  mb : ∀ m b, pt.mb.lookup m = some b → m = PySem.Str.ofString b.id
  init : P.init = pt.init
  kws : P.kws = pt.kws
  mks : ∀ s n ks perm, pt.mks s n ks = some perm → ∀ c m, P.meth c s = some m → P.kws m (n + 1) ks = some perm
abbrev PtOk (X : Cx) (g : Gs) (P : Prg) (pt : Pt) : Prop := PtOkM X.mg g P pt
structure SX (X : Cx) (T : Tb) : Prop where
  N : X.N = T.N
  sc : X.env.scope = T.sc
  fn : ∀ x, T.cs.names.lookup x = some .cell → X.fn x = true
theorem SX.blk {X : Cx} {T : Tb} (h : SX X T) (s : Shared) (H : Hp) (scope : Scope) (C : Addr) (cl : List (PySem.Str × Addr)) (fp : List Addr) : SX (X.blk s H scope (compEnvC scope cl C X.env) fp) { N := T.N, sc := relS scope T.sc, cs := scope } :=
  ⟨h.N, by show relabel scope X.env = _; rw [relS_eq, h.sc], fun x hx => by
    show (List.lookup x scope.names == some NameKind.cell) = true
    rw [hx]
    rfl⟩
theorem PtOk.blk {X : Cx} {g : Gs} {P : Prg} {pt : Pt} (h : PtOk X g P pt) (s : Shared) (H : Hp) (scope : Scope) (C : Addr) (cl : List (PySem.Str × Addr)) (fp : List Addr) : PtOk (X.blk s H scope (compEnvC scope cl C X.env) fp) g P pt :=
  ⟨h.con, h.fn, h.cls, h.bi, h.ty, h.isi, h.rng, h.enm, h.zip, h.fl, h.mb, h.init, h.kws, h.mks⟩
theorem At.blk {X : Cx} {g : Gs} {P : Prg} {k : Nat} {W : WX} (h : At X g P k W) (s : Shared) (H : Hp) (scope : Scope) (C : Addr) (cl : List (PySem.Str × Addr)) (fp : List Addr) : At (X.blk s H scope (compEnvC scope cl C X.env) fp) g P k NoW :=
  ⟨h.hK, h.Z, h.Fs, h.room, h.gd, fun u s' hx => by
    obtain ⟨_, _, _, _, _, _, _, _, _, _, _, _, _, _, _, _, w⟩ := hx
    exact w.elim, h.calm, h.nd⟩
section
variable {X : Cx} {g : Gs} {W : WX} {P : Prg} {k : Nat} {pt : Pt} {T : Tb}
theorem slot_ok (S : SX X T) {x : PySem.Str} {i : Nat} (h : slotOf T x = some i) : X.N[i]? = some x ∧ Vis X.env.scope x ∧ (x == PySem.Str.ofString "__debug__") = false ∧ (x == PySem.Str.ofString "__classdict__") = false := by
  unfold slotOf at h
  split at h
  · rename_i hc
    simp only [Bool.and_eq_true, Bool.not_eq_true'] at hc
    obtain ⟨⟨h1, h2⟩, h3⟩ := hc
    obtain ⟨_, h4⟩ := findIx_ok h
    refine ⟨by rw [S.N]; simpa using h4, ?_, h2, h3⟩
    unfold Vis
    rw [S.sc]
    unfold isVis at h1
    split at h1
    · exact .inl ‹_›
    · exact .inr (.inl ‹_›)
    · exact .inr (.inr ‹_›)
    · cases h1
  · cases h
theorem glob_ok (S : SX X T) {x : PySem.Str} {v : Gv} (h : globOf pt T x = some v) : Gl X x ∧ (x == PySem.Str.ofString "__debug__") = false ∧ pt.gl.lookup x = some v := by
  unfold globOf at h
  split at h
  · rename_i hc
    simp only [Bool.and_eq_true, Bool.not_eq_true', beq_iff_eq] at hc
    refine ⟨?_, hc.2, h⟩
    show X.env.scope.names.lookup x = _
    rw [S.sc]
    exact hc.1
  · cases h
theorem loc_ok (S : SX X T) {x : PySem.Str} {i : Nat} (h : locOf T x = some i) : X.N[i]? = some x ∧ L2.Loc X.env.scope x ∧ (X.fn x = true ∨ X.env.scope.names.lookup x = some .local) := by
  unfold locOf at h
  split at h
  · rename_i hc
    obtain ⟨_, h4⟩ := findIx_ok h
    refine ⟨by rw [S.N]; simpa using h4, ?_⟩
    unfold L2.Loc
    rw [S.sc]
    simp only [Bool.or_eq_true, Bool.and_eq_true, beq_iff_eq] at hc
    rcases hc with hc | ⟨hc, hd⟩
    · exact ⟨.inl hc, .inr hc⟩
    · exact ⟨.inr hc, .inl (S.fn x hd)⟩
  · cases h
theorem pE_never {e : Expr} : PE X e (tM g W fun _ _ => .bad) := ⟨fun pins s σ H Q I h => by
  obtain ⟨p, env, _, _, _, hp⟩ := tM.out h
  exact False.elim hp⟩
theorem pT_never {e : Expr} : PT X e (tMT g W (mT fun _ _ => .bad)) := ⟨fun pins s σ H Q I h => by
  obtain ⟨p, env, _, _, _, hp⟩ := tMT.out h
  exact False.elim hp⟩
theorem pG_never {e : Expr} {sl : List Nat} : PG X e (gM g sl fun _ _ _ => .bad) := ⟨fun pins s σ H v u Q I r h => by
  obtain ⟨p, env, d, _, _, _, _, hp⟩ := h
  exact False.elim hp⟩
theorem pI_never {tg e : Expr} : PI X tg e (iM g W fun _ _ => .bad) := ⟨fun pins s σ H R I h => by
  obtain ⟨p, env, _, _, _, hp⟩ := h
  exact False.elim hp⟩
theorem evEs_app (cl : Cl) (f : Expr → E) : ∀ (l m : List Expr) (env : Env) (S : Store), evEs P cl (esOf f (l ++ m)) env S = (evEs P cl (esOf f l) env S).bind fun ds S => (evEs P cl (esOf f m) env S).bind fun zs S => .ok (ds ++ zs) S
  | [], m, env, S => by
    simp only [List.nil_append, esOf, evEs, R.bind]
    cases evEs P cl (esOf f m) env S <;> rfl
  | e :: l, m, env, S => by
    simp only [List.cons_append, esOf, evEs]
    cases evE P cl (f e) env S with
    | ok d S1 =>
      simp only [R.bind]
      rw [evEs_app cl f l m env S1]
      cases evEs P cl (esOf f l) env S1 with
      | ok ds S2 =>
        simp only [R.bind]
        cases evEs P cl (esOf f m) env S2 <;> rfl
      | exc x S => rfl
      | bad => rfl
    | exc x S => rfl
    | bad => rfl
theorem evEs_len (cl : Cl) (f : Expr → E) : ∀ (l : List Expr) (env : Env) (S : Store) (ds : List D) (S' : Store), evEs P cl (esOf f l) env S = .ok ds S' → ds.length = l.length
  | [], env, S, ds, S', h => by
    simp only [esOf, evEs] at h
    cases h
    rfl
  | e :: l, env, S, ds, S', h => by
    simp only [esOf, evEs] at h
    obtain ⟨d, S1, _, h2⟩ := bind_ok h
    obtain ⟨es, S2, h3, h4⟩ := bind_ok h2
    cases h4
    simp [evEs_len cl f l env S1 es _ h3]
theorem pa_all (cl : Cl) (f : Expr → E) (hf : ∀ e, PE X e (tM g W (evE P cl (f e)))) : ∀ {l : List Expr}, l.all notStar = true → PA X l (tMA g W (evEs P cl (esOf f l)))
  | [], _ => pa_nilM
  | e :: l, h => by
    simp only [List.all_cons, Bool.and_eq_true] at h
    exact pa_consM h.1 (hf e) (pa_all cl f hf h.2)
theorem pk_all (cl : Cl) (f : Expr → E) (hf : ∀ e, PE X e (tM g W (evE P cl (f e)))) : ∀ {l : List Keyword}, PK X l (tMA g W (evEs P cl (esOf f (l.map (·.value)))))
  | [] => pk_nilM
  | ⟨a, e, p⟩ :: l => pk_consM (hf e) (pk_all cl f hf)
theorem evI_val (cl : Cl) (e : E) : evI P cl (.val e) = fun env S => (evE P cl e env S).bind fun d S => lift (walkD S d) S := by
  funext env S
  rw [evI]
theorem trI_ok (T' : At X g P k W) (S : SX X T) (Pk : PtOk X g P pt) (f : Expr → E) (hf : ∀ e, PE X e (tM g W (evE P (callN P k) (f e)))) (tg iter : Expr) : PI X tg iter (iM g W (evI P (callN P k) (trI pt T f tg iter))) := by
  have hv : ∀ e, PI X tg e (iM g W (evI P (callN P k) (.val (f e)))) := fun e => by
    rw [evI_val]
    exact pi_valM T'.hK (hf e)
  have hnv : ∀ e, PI X tg e (iM g W (evI P (callN P k) (.val .never))) := fun e => by
    have : evI P (callN P k) (.val .never) = fun _ _ => .bad := by
      funext env S
      rw [evI, evE]
      rfl
    rw [this]
    exact pI_never
  unfold trI
  split
  · rename_i x xp args cpos
    split
    · exact hv _
    · split
      · rename_i hg
        obtain ⟨h1, h2, h3⟩ := glob_ok S hg
        obtain ⟨e, h4⟩ := Pk.rng x h3
        subst e
        split
        · rename_i a
          split
          · rename_i ha
            have : evI P (callN P k) (.rng1 (f a)) = fun env S => (evE P (callN P k) (f a) env S).bind fun d S => match d with
              | .int i => if -(2 ^ 61) ≤ i ∧ i < 2 ^ 61 then .ok (rangeL 0 i, []) S else .bad
              | _ => .bad := by
              funext env S
              first | (rw [evI]; done) | (rw [evI]; rfl)
            rw [this]
            exact pi_rng1M h1 h4 ha (hf a)
          · exact hnv _
        · rename_i a b
          split
          · rename_i ha
            simp only [Bool.and_eq_true] at ha
            have : evI P (callN P k) (.rng2 (f a) (f b)) = fun env S => (evE P (callN P k) (f a) env S).bind fun d S => (evE P (callN P k) (f b) env S).bind fun e S => match d, e with
              | .int i, .int j => if -(2 ^ 61) ≤ i ∧ i < 2 ^ 61 ∧ -(2 ^ 61) ≤ j ∧ j < 2 ^ 61 then .ok (rangeL i j, []) S else .bad
              | _, _ => .bad := by
              funext env S
              first | (rw [evI]; done) | (rw [evI]; rfl)
            rw [this]
            exact pi_rng2M h1 h4 ha.1 ha.2 (hf a) (hf b)
          · exact hnv _
        · exact hnv _
      · rename_i hg
        obtain ⟨h1, h2, h3⟩ := glob_ok S hg
        obtain ⟨e, h4⟩ := Pk.enm x h3
        subst e
        split
        · rename_i a ts kk tp
          split
          · rename_i ha
            have : evI P (callN P k) (.enum (f a)) = fun env S => (evE P (callN P k) (f a) env S).bind fun d S => (lift (seqD S d) S).bind fun w S => .ok (enumL 0 w.1, w.2) S := by
              funext env S
              first | (rw [evI]; done) | (rw [evI]; rfl)
            rw [this]
            exact pi_enumM T'.hK h1 h4 ha (hf a)
          · exact hnv _
        · exact hnv _
      · rename_i hg
        obtain ⟨h1, h2, h3⟩ := glob_ok S hg
        obtain ⟨e, h4⟩ := Pk.zip x h3
        subst e
        split
        · rename_i a b ts kk tp
          split
          · rename_i ha
            simp only [Bool.and_eq_true] at ha
            have : evI P (callN P k) (.zip (f a) (f b)) = fun env S => (evE P (callN P k) (f a) env S).bind fun d S => (evE P (callN P k) (f b) env S).bind fun e S => (lift (seqD S d) S).bind fun w S => (lift (seqD S e) S).bind fun v S => .ok (zipL w.1 v.1, w.2 ++ v.2) S := by
              funext env S
              first | (rw [evI]; done) | (rw [evI]; rfl)
            rw [this]
            exact pi_zipM T'.hK h1 h4 ha.1 ha.2 (hf a) (hf b)
          · exact hnv _
        · exact hnv _
      · exact hv _
  · exact hv _
end
end Mi
set_option maxRecDepth 100000
set_option maxHeartbeats 1000000
/-! S24: the translation is sound: expressions. -/
namespace Mi
open PySem PySem.Spec PyProof.Rows L2
mutual
theorem evT_ne (P : Prg) (cl : Cl) : ∀ (t : Tg) (d : D) (env : Env) (S : Store), NE (evT P cl t d env S)
  | .name i, d, env, S => by
    rw [evT]
    split
    · exact NE.ok _ _
    · exact NE.bad
  | .tup ts, d, env, S => by
    cases d with
    | tup l =>
      simp only [evT]
      split
      · exact evTs_ne P cl ts _ env S
      · exact NE.bad
    | _ => simp only [evT]; exact NE.bad
  | .sub o i, d, env, S => by
    rw [evT]
    exact (NE.calm _).bind fun _ _ => NE.ok _ _
  | .attr o f, d, env, S => by
    rw [evT]
    exact (NE.calm _).bind fun _ _ => NE.ok _ _
theorem evTs_ne (P : Prg) (cl : Cl) : ∀ (t : Tgs) (d : List D) (env : Env) (S : Store), NE (evTs P cl t d env S)
  | .nil, [], env, S => by
    rw [evTs]
    exact NE.ok _ _
  | .cons t r, d :: ds, env, S => by
    rw [evTs]
    exact (evT_ne P cl t d env S).bind fun env S => evTs_ne P cl r ds env S
  | .nil, _ :: _, env, S => by
    rw [evTs]
    exact NE.bad
    all_goals (intros; simp_all)
  | .cons _ _, [], env, S => by
    rw [evTs]
    exact NE.bad
    all_goals (intros; simp_all)
end
theorem tsOf_len (f : Expr → Tg) : ∀ es : List Expr, (tsOf f es).len = es.length
  | [] => rfl
  | e :: r => by simp [tsOf, Tgs.len, tsOf_len f r]
section
variable {X : Cx} {g : Gs} {W : WX} {P : Prg} {k : Nat} {pt : Pt} {T : Tb}
theorem evE_never (cl : Cl) : evE P cl .never = fun _ _ => .bad := by
  funext env S
  rw [evE]
theorem neverT_ev (cl : Cl) : evT P cl neverT = fun _ _ _ => .bad := by
  funext d env S
  unfold neverT
  rw [evT, evE]
  rfl
theorem tsOf_ok (cl : Cl) (f : Expr → Tg) (hf : ∀ e, PG X e (gM g (tgSl (f e)) (evT P cl (f e)))) : ∀ {es : List Expr}, es.all notStar = true → PGs X es (gMs g (tgSl.tgsSl (tsOf f es)) (evTs P cl (tsOf f es)))
  | [], _ => by
    have : evTs P cl (tsOf f []) = fun ds env S => match ds with | [] => .ok env S | _ => .bad := by
      funext ds env S
      cases ds with
      | nil => simp only [tsOf]; rw [evTs]
      | cons a b => simp only [tsOf]; rw [evTs] <;> (intros; simp_all)
    rw [this]
    exact gMs_nil
  | e :: es, h => by
    simp only [List.all_cons, Bool.and_eq_true] at h
    have : evTs P cl (tsOf f (e :: es)) = fun ds env S => match ds with | d :: r => (evT P cl (f e) d env S).bind fun env S => evTs P cl (tsOf f es) r env S | _ => .bad := by
      funext ds env S
      cases ds with
      | nil => simp only [tsOf]; rw [evTs] <;> (intros; simp_all)
      | cons a b => simp only [tsOf]; rw [evTs]
    rw [this]
    exact gMs_cons h.1 (hf e) (tsOf_ok cl f hf h.2)
theorem trT_ok (T' : At X g P k W) (S : SX X T) (f : Expr → E) (hf : ∀ e, PE X e (tM g W (evE P (callN P k) (f e)))) : ∀ (n : Nat) (tg : Expr), PG X tg (gM g (tgSl (trT pt T f n tg)) (evT P (callN P k) (trT pt T f n tg)))
  | 0, tg => by
    have : trT pt T f 0 tg = neverT := rfl
    rw [this, neverT_ev]
    exact pG_never
  | n + 1, tg => by
    have nv : PG X tg (gM g (tgSl neverT) (evT P (callN P k) neverT)) := by
      rw [neverT_ev]
      exact pG_never
    cases tg with
    | Name x xp =>
      simp only [trT]
      split
      · rename_i i hi
        obtain ⟨h1, h2, h3⟩ := loc_ok S hi
        have : evT P (callN P k) (.name i) = fun d env S => if i < env.length then .ok (env.set i (some d)) S else .bad := by
          funext d env S
          simp only [evT]
        rw [this]
        exact gM_name T'.nd h1 h2 h3
      · exact nv
    | Tuple ts kk tp =>
      simp only [trT]
      split
      · rename_i hts
        have hs := tsOf_ok (callN P k) (trT pt T f n) (trT_ok T' S f hf n) hts
        have : evT P (callN P k) (.tup (tsOf (trT pt T f n) ts)) = fun d env S => match d with
          | .tup l => if l.length = ts.length then evTs P (callN P k) (tsOf (trT pt T f n) ts) l env S else .bad
          | _ => .bad := by
          funext d env S
          cases d <;> simp only [evT, tsOf_len]
        rw [this]
        exact gM_tup T'.calm T'.hK hts hs
      · exact nv
    | Subscript o i tp =>
      simp only [trT]
      split
      · rename_i hi
        have : evT P (callN P k) (.sub (f o) (f i)) = fun d env S => ((evE P (callN P k) (f o) env S).bind fun x S => (evE P (callN P k) (f i) env S).bind fun k S => setIdx x k d S).calm.bind fun _ S => .ok env S := by
          funext d env S
          simp only [evT]
        rw [this]
        exact gM_sub (by have := T'.room.un; omega) hi (hf o) (hf i)
      · exact nv
    | _ => exact nv
theorem bop_ok (hK : X.K = g.K) {op : Operator} {o : Bop} (h : bopOf op = some o) : OpR X (binaryOp op) (rBop g o) := by
  cases op <;> simp only [bopOf] at h <;> cases h
  · exact op_addM hK
  · exact op_subM
  · exact op_mulM hK
  · exact op_modM
  · exact op_powM
  · exact op_fdivM
theorem cop_ok (hK : X.K = g.K) (hu : X.A.units + 65 < cLine) {op : CmpOp} {o : Cop} (h : copOf op = some o) : OpR X (compareOp op) (rCop g o) := by
  cases op <;> simp only [copOf] at h <;> cases h
  · exact op_eqM hK (by omega)
  · exact op_neM hK (by omega)
  · exact op_ltM
  · exact op_leM
  · exact op_gtM
  · exact op_geM
  · exact op_isM
  · exact op_isNotM
  · exact op_inM hK hu
  · exact op_notInM hK hu
theorem bn_ok (T' : At X g P k W) {b : BN} {n : Nat} {i : Bi} (h : b.bi n = some i) : CallR X (.builtin b.id) (rBi g P (callN P k) i) := by
  unfold BN.bi at h
  split at h <;> cases h
  · exact bi_len T'.hK T'.Z T'.Fs (T'.sub (by omega))
  · exact bi_abs
  · exact bi_min T'.calm T'.hK
  · exact bi_min2 T'.calm
  · exact bi_max T'.calm T'.hK
  · exact bi_max2 T'.calm
  · exact bi_sum T'.calm T'.hK
  · exact bi_all T'.calm T'.hK
  · exact bi_any T'.calm T'.hK
  · exact bi_repr T'.hK T'.gd (by have := T'.room.un; omega)
  · exact bi_divmod
  · exact bi_sorted T'.hK
theorem tn_ok (T' : At X g P k W) {b : TN} {n : Nat} {i : Bi} (h : b.bi n = some i) : CallR X (.type b.id) (rBi g P (callN P k) i) := by
  unfold TN.bi at h
  split at h <;> cases h
  · exact bi_int
  · exact bi_tuple T'.hK
  · exact bi_dict T'.calm T'.hK
end
end Mi
set_option maxRecDepth 100000
set_option maxHeartbeats 1000000
/-! S25: the translation is sound: calls. -/
namespace Mi
open PySem PySem.Spec PyProof.Rows L2
theorem names_ok {pt : Pt} (fl : ∀ f s, pt.fl.lookup f = some s → f = PySem.Str.ofString s) : ∀ {l : List PySem.Str} {ks : List String}, mapO (fun s => pt.fl.lookup s) l = some ks → l = ks.map PySem.Str.ofString
  | [], ks, h => by
    cases h
    rfl
  | a :: r, ks, h => by
    simp only [mapO] at h
    cases h1 : pt.fl.lookup a with
    | none => rw [h1] at h; cases h
    | some b =>
      rw [h1] at h
      cases h2 : mapO (fun s => pt.fl.lookup s) r with
      | none => rw [h2] at h; cases h
      | some bs =>
        rw [h2] at h
        cases h
        rw [fl a b h1, names_ok fl h2]
        rfl
section
variable {X : Cx} {g : Gs} {W : WX} {P : Prg} {k : Nat} {pt : Pt} {T : Tb}
theorem call_eq (cl : Cl) (f : Expr → E) (m : Nat) (perm : List Nat) (es ks : List Expr) : evE P cl (.call m perm (esOf f (es ++ ks))) = fun env S => (evEs P cl (esOf f es) env S).bind fun ds S => (evEs P cl (esOf f ks) env S).bind fun zs S => cl m (permD perm (ds ++ zs)) S := by
  funext env S
  simp only [evE]
  rw [evEs_app, R.assoc]
  congr 1
  funext ds S
  rw [R.assoc]
  rfl
theorem mk_eq (cl : Cl) (f : Expr → E) (c m : Nat) (hi : P.init c = some m) (perm : List Nat) (es ks : List Expr) : evE P cl (.mk c perm (esOf f (es ++ ks))) = fun env S => (evEs P cl (esOf f es) env S).bind fun ds S => (evEs P cl (esOf f ks) env S).bind fun zs S => (cl m (permD perm (.loc S.length :: (ds ++ zs))) (S ++ [.ins c []])).bind fun r S' => match r with | .non => .ok (.loc S.length) S' | _ => .bad := by
  funext env S
  simp only [evE]
  rw [evEs_app, R.assoc]
  congr 1
  funext ds S
  rw [R.assoc]
  congr 1
  funext zs S
  simp only [R.bind, hi]
  all_goals rfl
theorem isi_eq (cl : Cl) (f : Expr → E) (t : Ty) (e : Expr) : evE P cl (.bi (.isinst [t]) (esOf f [e])) = fun env S => (evE P cl (f e) env S).bind fun d S => lift ((isTy P S d t).map .bl) S := by
  funext env S
  simp only [evE, esOf, evEs]
  cases evE P cl (f e) env S with
  | ok d S =>
    simp only [R.bind]
    show lift ((isAny P S d [t]).map D.bl) S = _
    congr 2
    simp only [isAny]
    cases isTy P S d t with
    | none => rfl
    | some b => cases b <;> rfl
  | exc x S => rfl
  | bad => rfl
theorem bi_eq (cl : Cl) (i : Bi) (es : Es) : evE P cl (.bi i es) = fun env S => (evEs P cl es env S).bind fun ds S => biE P cl i ds S := by
  funext env S
  simp only [evE]
theorem nil_eq (cl : Cl) (f : Expr → E) {es : List Expr} (h : es = []) : evEs P cl (esOf f es) = fun _ S => .ok [] S := by
  subst h
  funext env S
  simp only [esOf, evEs]
theorem trB_ok (T' : At X g P k W) (S : SX X T) (Pk : PtOk X g P pt) (f : Expr → E) (hf : ∀ e, PE X e (tM g W (evE P (callN P k) (f e)))) {x : PySem.Str} {gv : Gv} (hx : globOf pt T x = some gv) (xp pos : Pos) (es : List Expr) (kws : List Keyword) :
    PE X (.Call (.Name x xp) es kws pos) (tM g W (evE P (callN P k) (trB pt T f x gv es kws))) := by
  obtain ⟨hg, hdb, hl⟩ := glob_ok S hx
  have nv : PE X (.Call (.Name x xp) es kws pos) (tM g W (evE P (callN P k) .never)) := by
    rw [evE_never]
    exact pE_never
  unfold trB
  split
  · rename_i hc
    simp only [Bool.and_eq_true] at hc
    obtain ⟨hes, hkw⟩ := hc
    have hA := pa_all (callN P k) f hf hes
    have hK := pk_all (callN P k) f hf (l := kws)
    have lA := evEs_len (P := P) (callN P k) f es
    have lK : ∀ env S ds S', evEs P (callN P k) (esOf f (kws.map (·.value))) env S = .ok ds S' → ds.length = kws.length := fun env S ds S' h => by
      rw [evEs_len (callN P k) f _ env S ds S' h, List.length_map]
    have nA : es = [] → evEs P (callN P k) (esOf f es) = fun _ S => .ok [] S := nil_eq _ f
    have nK : kws = [] → evEs P (callN P k) (esOf f (kws.map (·.value))) = fun _ S => .ok [] S := fun h => nil_eq _ f (by rw [h]; rfl)
    cases hks : mapO (fun s => pt.fl.lookup s) (kwNames kws) with
    | none => exact nv
    | some ks =>
      have hn := names_ok Pk.fl hks
      cases gv with
      | con d => exact nv
      | fn m =>
        obtain ⟨h1, h2⟩ := Pk.fn x m hl
        dsimp only
        by_cases hk0 : ks = []
        · rw [if_pos hk0, call_eq]
          exact eM_call T' hg h1 h2 hdb hes hkw hA hK lA lK nA nK hn (by rw [if_pos hk0])
        · rw [if_neg hk0]
          cases hp : pt.kws m es.length ks with
          | none => exact nv
          | some perm =>
            dsimp only
            rw [call_eq]
            exact eM_call T' hg h1 h2 hdb hes hkw hA hK lA lK nA nK hn (by rw [if_neg hk0, Pk.kws]; exact hp)
      | cls c =>
        have h1 := Pk.cls x c hl
        dsimp only
        cases hi : pt.init c with
        | none => exact nv
        | some m =>
          have hi' : P.init c = some m := by rw [Pk.init]; exact hi
          dsimp only
          by_cases hk0 : ks = []
          · rw [if_pos hk0, mk_eq _ _ _ _ hi']
            exact eM_make T' hg h1 hi' hdb hes hkw hA hK lA lK nA nK hn (by rw [if_pos hk0])
          · rw [if_neg hk0]
            cases hp : pt.kws m (es.length + 1) ks with
            | none => exact nv
            | some perm =>
              dsimp only
              rw [mk_eq _ _ _ _ hi']
              exact eM_make T' hg h1 hi' hdb hes hkw hA hK lA lK nA nK hn (by rw [if_neg hk0, Pk.kws]; exact hp)
      | bi b =>
        obtain ⟨h1, h2, h3⟩ := Pk.bi x b hl
        cases kws with
        | cons a r => exact nv
        | nil =>
          cases es with
          | nil => exact nv
          | cons e r =>
            dsimp only
            cases hb : b.bi (e :: r).length with
            | none => exact nv
            | some i =>
              dsimp only
              rw [bi_eq]
              exact eM_bi (bn_ok T' hb) hg h1 h2 h3 hdb hes hA
      | ty t =>
        obtain ⟨h1, h2, h3⟩ := Pk.ty x t hl
        cases kws with
        | cons a r => exact nv
        | nil =>
          cases es with
          | nil => exact nv
          | cons e r =>
            dsimp only
            cases hb : t.bi (e :: r).length with
            | none => exact nv
            | some i =>
              dsimp only
              rw [bi_eq]
              exact eM_biT (tn_ok T' hb) hg h1 h2 h3 hdb hes hA
      | isi =>
        obtain ⟨h1, h2⟩ := Pk.isi x hl
        cases kws with
        | cons a r => exact nv
        | nil =>
          dsimp only
          split
          · rename_i e y yp
            split
            · exact nv
            · split
              · rename_i t hy
                obtain ⟨hg2, hdb2, hl2⟩ := glob_ok S hy
                obtain ⟨h4, h5, h6⟩ := Pk.ty y t hl2
                rw [isi_eq]
                have hc : PE X (.Name y yp) (tC (t.ty.v g)) := by
                  refine pe_bltn hg2 h4 h5 ?_ h6 hdb2
                  cases t <;> rfl
                have he : notStar e = true := by simp at hes; exact hes.1
                exact eM_is1 T' h1 hg h2 he rfl (hf e) hc
              · rename_i c hy
                obtain ⟨hg2, hdb2, hl2⟩ := glob_ok S hy
                have h4 := Pk.cls y c hl2
                rw [isi_eq]
                have hc : PE X (.Name y yp) (tC ((Ty.own c).v g)) := pe_glob hg2 h4 rfl hdb2
                have he : notStar e = true := by simp at hes; exact hes.1
                exact eM_is1 T' h1 hg h2 he rfl (hf e) hc
              · exact nv
          · exact nv
      | rng => exact nv
      | enm => exact nv
      | zipp => exact nv
  · exact nv
theorem mth_eq (k : Nat) (f : Expr → E) (o : Expr) (m : String) (perm : List Nat) (es ks : List Expr) : evE P (callN P k) (.mth (f o) m perm (esOf f (es ++ ks))) = fun env S => (evE P (callN P k) (f o) env S).bind fun x S => match x with
      | .loc n => match S[n]? with
        | some (.ins c fs) => match P.meth c m with
          | some g => if (look m fs).isNone then (evEs P (callN P k) (esOf f es) env S).bind fun ds S => (evEs P (callN P k) (esOf f ks) env S).bind fun zs S => callN P k g (permD perm (x :: (ds ++ zs))) S else .bad
          | none => .bad
        | _ => .bad
      | _ => .bad := by
  funext env S
  simp only [evE]
  congr 1
  funext x S
  cases x with
  | loc n =>
    dsimp only
    cases S[n]? with
    | none => rfl
    | some ob =>
      cases ob with
      | ins c fs =>
        dsimp only
        cases P.meth c m with
        | none => rfl
        | some g =>
          dsimp only
          split
          · rw [evEs_app, R.assoc]
            congr 1
            funext ds S
            rw [R.assoc]
            rfl
          · rfl
      | _ => rfl
  | _ => rfl
theorem trM_ok (T' : At X g P k W) (Pk : PtOk X g P pt) (f : Expr → E) (hf : ∀ e, PE X e (tM g W (evE P (callN P k) (f e)))) (s : String) (o : Expr) (apos pos : Pos) (hpb : plainBase o = true) (hpos : (apos.endLine == pos.line) = true) (es : List Expr) (kws : List Keyword) :
    PE X (.Call (.Attribute o (PySem.Str.ofString s) apos) es kws pos) (tM g W (evE P (callN P k) (trM pt f s o es kws))) := by
  have nv : PE X (.Call (.Attribute o (PySem.Str.ofString s) apos) es kws pos) (tM g W (evE P (callN P k) .never)) := by
    rw [evE_never]
    exact pE_never
  unfold trM
  split
  · rename_i hc
    simp only [Bool.and_eq_true, decide_eq_true_eq] at hc
    obtain ⟨hes, hkw, hlen⟩ := hc
    have hA := pa_all (callN P k) f hf hes
    have hK := pk_all (callN P k) f hf (l := kws)
    have lA := evEs_len (P := P) (callN P k) f es
    have lK : ∀ env S ds S', evEs P (callN P k) (esOf f (kws.map (·.value))) env S = .ok ds S' → ds.length = kws.length := fun env S ds S' h => by
      rw [evEs_len (callN P k) f _ env S ds S' h, List.length_map]
    have nA : es = [] → evEs P (callN P k) (esOf f es) = fun _ S => .ok [] S := nil_eq _ f
    have nK : kws = [] → evEs P (callN P k) (esOf f (kws.map (·.value))) = fun _ S => .ok [] S := fun h => nil_eq _ f (by rw [h]; rfl)
    cases hks : mapO (fun s => pt.fl.lookup s) (kwNames kws) with
    | none => exact nv
    | some ks =>
      have hn := names_ok Pk.fl hks
      dsimp only
      by_cases hk0 : ks = []
      · rw [if_pos hk0, mth_eq]
        exact eM_mth T' hpb hpos hlen (hf o) hes hkw hA hK lA lK nA nK hn (by rw [if_pos hk0])
      · rw [if_neg hk0]
        cases hp : pt.mks s es.length ks with
        | none => exact nv
        | some perm =>
          dsimp only
          rw [mth_eq]
          exact eM_mth T' hpb hpos hlen (hf o) hes hkw hA hK lA lK nA nK hn (by rw [if_neg hk0]; exact Pk.mks s es.length ks perm hp)
  · exact nv
theorem mb_E (cl : Cl) (b : Mb) (o : E) (es : Es) : evE P cl (.mb b o es) = fun env S => (evE P cl o env S).bind fun x S => if mbOk b x S then (evEs P cl es env S).bind fun ds S => mbE b x ds S else .bad := by
  funext env S; simp only [evE]
theorem trBM_ok (T' : At X g P k W) (f : Expr → E) (hf : ∀ e, PE X e (tM g W (evE P (callN P k) (f e)))) (b : MN) (o : Expr) (apos pos : Pos) (hpb : plainBase o = true) (hpos : (apos.endLine == pos.line) = true) (es : List Expr) (kws : List Keyword) :
    PE X (.Call (.Attribute o (PySem.Str.ofString b.id) apos) es kws pos) (tM g W (evE P (callN P k) (trBM f b o es kws))) := by
  have nv : PE X (.Call (.Attribute o (PySem.Str.ofString b.id) apos) es kws pos) (tM g W (evE P (callN P k) .never)) := by
    rw [evE_never]
    exact pE_never
  unfold trBM
  cases kws with
  | cons a r => exact nv
  | nil =>
    dsimp only
    cases b <;> dsimp only
    · split
      · split
        · rename_i ha
          rw [mb_E]
          exact eM_mbL T'.hK rfl PySem.F.slot_list_append PySem.F.type_list_append mt_appendM hpb hpos (by simp [ha]) (by simp) (hf o) (pa_all _ _ hf (by simp [ha]))
        · exact nv
      · exact nv
    · split
      · have : evE P (callN P k) (.mb .pop0 (f o) .nil) = fun env S => (evE P (callN P k) (f o) env S).bind fun x S => if mbOk .pop0 x S then mbE .pop0 x [] S else .bad := by
          funext env S
          simp only [evE, evEs, R.bind]
        rw [this]
        exact eM_mbL0 T'.hK rfl PySem.F.slot_list_pop PySem.F.type_list_pop mt_pop0M hpb hpos (hf o)
      · split
        · rename_i ha
          rw [mb_E]
          exact eM_mbL T'.hK rfl PySem.F.slot_list_pop PySem.F.type_list_pop mt_pop1M hpb hpos (by simp [ha]) (by simp) (hf o) (pa_all _ _ hf (by simp [ha]))
        · exact nv
      · exact nv
    · split
      · split
        · rename_i ha
          rw [mb_E]
          exact eM_mbX PySem.F.plainAttrs_tuple PySem.F.slot_tuple_index PySem.F.type_tuple_index (mt_tupIdxM T'.hK) (fun _ h r => mbOk_tuple T'.hK rfl h r) hpb hpos (by simp [ha]) (by simp) (hf o) (pa_all _ _ hf (by simp [ha]))
        · exact nv
      · exact nv
    · split
      · split
        · rename_i ha
          rw [mb_E]
          exact eM_mbX PySem.F.plainAttrs_str PySem.F.slot_str_join PySem.F.type_str_join (mt_joinM T'.hK) (fun _ h r => mbOk_str rfl h r) hpb hpos (by simp [ha]) (by simp) (hf o) (pa_all _ _ hf (by simp [ha]))
        · exact nv
      · exact nv
    · split
      · split
        · rename_i ha
          rw [mb_E]
          exact eM_mbX PySem.F.plainAttrs_str PySem.F.slot_str_split PySem.F.type_str_split mt_splitM (fun _ h r => mbOk_str rfl h r) hpb hpos (by simp [ha]) (by simp) (hf o) (pa_all _ _ hf (by simp [ha]))
        · exact nv
      · exact nv
end
end Mi
set_option maxRecDepth 100000
set_option maxHeartbeats 2000000
/-! S26: the translation is sound: all expressions. -/
namespace Mi
open PySem PySem.Spec PyProof.Rows L2
theorem strS_eta (x : PySem.Str) : strS x.cps.toList = x := by
  cases x
  simp [strS]
theorem plainIx_ok {b : Expr} (h : plainIx b = true) : PlainIx b := by
  intro o i
  unfold subscripted
  cases b <;> first | rfl | cases h
section
variable {X : Cx} {g : Gs} {W : WX} {P : Prg} {k : Nat} {pt : Pt} {T : Tb}
/-- what is to be shown of an expression -/
structure EOk (X : Cx) (g : Gs) (P : Prg) (k : Nat) (W : WX) (e : Expr) (r : E) : Prop where
  pe : PE X e (tM g W (evE P (callN P k) r))
  pt : PT X e (tMT g W (mT (evE P (callN P k) r)))
  pw : ∀ op vs pos, e = .BoolOp op vs pos → PW X e (tMT g W (mT (evE P (callN P k) r)))
theorem EOk.never (e : Expr) : EOk X g P k W e .never := by
  constructor
  · rw [evE_never]; exact pE_never
  · rw [evE_never]; exact pT_never
  · intro op vs pos _
    rw [evE_never]
    refine ⟨fun whole pins s σ H Q I h => ?_⟩
    obtain ⟨p, env, _, _, _, hp⟩ := tMT.out h
    exact False.elim hp
theorem EOk.val (T' : At X g P k W) {e : Expr} {r : E} (hp : plainTest e = true) (h : PE X e (tM g W (evE P (callN P k) r))) : EOk X g P k W e r :=
  ⟨h, pT_val T'.hK hp h, fun op vs pos ee => by subst ee; cases hp⟩
theorem EOk.mk2 {e : Expr} {r : E} (hb : ∀ op vs pos, e ≠ .BoolOp op vs pos) (h : PE X e (tM g W (evE P (callN P k) r))) (h2 : PT X e (tMT g W (mT (evE P (callN P k) r)))) : EOk X g P k W e r :=
  ⟨h, h2, fun op vs pos ee => absurd ee (hb op vs pos)⟩
theorem cmp_E (cl : Cl) (c : Cop) (a b : E) : evE P cl (.cmp c a b) = fun env S => (evE P cl a env S).bind fun x S => (evE P cl b env S).bind fun y S => cmpD c x y S := by
  funext env S; simp only [evE]
theorem cmp2_E (cl : Cl) (o o' : Cop) (a b c : E) : evE P cl (.cmp2 o o' a b c) = fun env S => (evE P cl a env S).bind fun x S => (evE P cl b env S).bind fun y S => (lift (cop o x y S) S).bind fun k S => if k then (evE P cl c env S).bind fun z S => lift ((cop o' y z S).map .bl) S else .ok (.bl false) S := by
  funext env S; simp only [evE]
theorem not_E (cl : Cl) (a : E) : evE P cl (.notE a) = fun env S => (evE P cl a env S).bind fun x S => (lift (truth x S) S).bind fun k S => .ok (.bl (!k)) S := by
  funext env S; simp only [evE]
theorem and_E (cl : Cl) (a b : E) : evE P cl (.andE a b) = fun env S => (evE P cl a env S).bind fun x S => (lift (truth x S) S).bind fun k S => if k then evE P cl b env S else .ok x S := by
  funext env S; simp only [evE]
theorem or_E (cl : Cl) (a b : E) : evE P cl (.orE a b) = fun env S => (evE P cl a env S).bind fun x S => (lift (truth x S) S).bind fun k S => if k then .ok x S else evE P cl b env S := by
  funext env S; simp only [evE]
theorem ite_E (cl : Cl) (c a b : E) : evE P cl (.ite c a b) = fun env S => (evE P cl c env S).bind fun x S => (lift (truth x S) S).bind fun k S => if k then evE P cl a env S else evE P cl b env S := by
  funext env S; simp only [evE]
theorem bin_E (cl : Cl) (o : Bop) (a b : E) : evE P cl (.bin o a b) = fun env S => (evE P cl a env S).bind fun x S => (evE P cl b env S).bind fun y S => bop o x y S := by
  funext env S; simp only [evE]
theorem neg_E (cl : Cl) (a : E) : evE P cl (.neg a) = fun env S => (evE P cl a env S).bind fun x S => match x with | .int i => .ok (.int (-i)) S | _ => .bad := by
  funext env S; simp only [evE] <;> rfl
theorem tup_E (cl : Cl) (es : Es) : evE P cl (.tup es) = fun env S => (evEs P cl es env S).bind fun ds S => if ds.length ≤ szl then .ok (.tup ds) S else .bad := by
  funext env S; simp only [evE]
theorem lst_E (cl : Cl) (es : Es) : evE P cl (.lst es) = fun env S => (evEs P cl es env S).bind fun ds S => if ds.length ≤ szl then alloc (.lst ds) S else .bad := by
  funext env S; simp only [evE]
theorem idx_E (cl : Cl) (a b : E) : evE P cl (.idx a b) = fun env S => (evE P cl a env S).bind fun x S => (evE P cl b env S).bind fun y S => idxD x y S := by
  funext env S; simp only [evE]
theorem fld_E (k : Nat) (a : E) (f : String) : evE P (callN P k) (.fld a f) = fun env S => (evE P (callN P k) a env S).bind fun x S => match x with
      | .loc n => match S[n]? with
        | some (.ins c fs) => match P.prop c f with
          | some g => (callN P k g [x] S).calm
          | none => if P.fld c f then lift (look f fs) S else .bad
        | _ => .bad
      | _ => .bad := by
  funext env S; simp only [evE] <;> rfl
theorem sli_E (cl : Cl) (a : E) (l h : Oe) : evE P cl (.sli a l h .none) = fun env S => (evE P cl a env S).bind fun x S => (evO P cl l env S).bind fun l S => (evO P cl h env S).bind fun h S => sliD x l h none S := by
  funext env S; simp only [evE, evO, R.bind]
theorem o_some (cl : Cl) (e : E) : evO P cl (.some e) = fun env S => (evE P cl e env S).bind fun d S => match d with | .int i => .ok (some i) S | _ => .bad := by
  funext env S; simp only [evO] <;> rfl
theorem o_none (cl : Cl) : evO P cl .none = fun _ S => .ok none S := by
  funext env S; simp only [evO]
theorem lc_E (cl : Cl) (elt : E) (t : Tg) (it : I) (cs : Es) (own : List Nat) : evE P cl (.lc elt t it cs own) = fun env S => (evI P cl it env S).bind fun src S =>
    (lcL (fun d S => (evT P cl t d (setAll env own none) S).bind fun env S => (evC P cl cs env S).bind fun k S => if k then (evE P cl elt env S).bind fun e S => .ok (some e) S else .ok none S)
      (fun S => same S src.2) [] src.1 S).bind fun l S => alloc (.lst l) S := by
  funext env S; simp only [evE]
theorem c_nil (cl : Cl) : evC P cl .nil = fun _ S => .ok true S := by
  funext env S; simp only [evC]
theorem c_one (cl : Cl) (c : E) : evC P cl (.cons c .nil) = mT (evE P cl c) := by
  funext env S
  simp only [evC]
  show _ = R.bind (evE P cl c env S) _
  congr 1
  funext x S
  cases truth x S with
  | none => rfl
  | some b => cases b <;> rfl
theorem pts_none : PTs X [] (tMT g W fun _ S => .ok true S) := by
  have h : PTs X [] tYes := pts_nil
  refine ⟨fun pins s σ H Q I hw => h.run pins s σ H Q I ?_⟩
  obtain ⟨p, env, rfl, ok, re, hp⟩ := tMT.out hw
  exact hp.ok rfl ok
end
theorem trE_ok {g : Gs} {P : Prg} {k : Nat} {pt : Pt} : ∀ (n : Nat) (X : Cx) (T : Tb) (W : WX), SX X T → At X g P k W → PtOk X g P pt → ∀ e, EOk X g P k W e (trE pt n T e)
  | 0, X, T, W, S, A, Pk, e => EOk.never e
  | n + 1, X, T, W, S, A, Pk, e => by
    have ih := trE_ok n X T W S A Pk
    have hf : ∀ e, PE X e (tM g W (evE P (callN P k) (trE pt n T e))) := fun e => (ih e).pe
    have hft : ∀ e, PT X e (tMT g W (mT (evE P (callN P k) (trE pt n T e)))) := fun e => (ih e).pt
    have un := A.room.un
    cases e with
    | Constant c j pos =>
      cases c with
      | int i =>
        refine EOk.val A rfl ?_
        have : evE P (callN P k) (.int i) = fun _ S => .ok (.int i) S := by funext env S; simp only [evE]
        simp only [trE]; rw [this]; exact eM_int
      | bool b =>
        refine EOk.val A rfl ?_
        have : evE P (callN P k) (.bl b) = fun _ S => .ok (.bl b) S := by funext env S; simp only [evE]
        simp only [trE]; rw [this]; exact eM_bl
      | none =>
        refine EOk.val A rfl ?_
        have : evE P (callN P k) .non = fun _ S => .ok .non S := by funext env S; simp only [evE]
        simp only [trE]; rw [this]; exact eM_non
      | str s =>
        simp only [trE]
        split
        · rename_i hs
          refine EOk.val A rfl ?_
          have : evE P (callN P k) (.str s.cps.toList) = fun _ S => .ok (.str s.cps.toList) S := by funext env S; simp only [evE]
          rw [this]
          have h := eM_str (X := X) (g := g) (W := W) (j := j) (pos := pos) hs
          rw [strS_eta] at h
          exact h
        · exact EOk.never _
      | _ => simp only [trE]; exact EOk.never _
    | Name x pos =>
      simp only [trE]
      split
      · rename_i i hi
        obtain ⟨h1, h2, h3, h4⟩ := slot_ok S hi
        refine EOk.val A rfl ?_
        have : evE P (callN P k) (.var i) = fun env S => match env[i]? with | some (some d) => .ok d S | _ => .bad := by funext env S; simp only [evE] <;> rfl
        rw [this]
        exact eM_var h1 h2 h3 h4
      · split
        · rename_i d hd
          obtain ⟨h1, h2, h3⟩ := glob_ok S hd
          obtain ⟨u, h4, h5⟩ := Pk.con x d h3
          refine EOk.val A rfl ?_
          have : evE P (callN P k) (.con d) = fun _ S => .ok d S := by funext env S; simp only [evE]
          rw [this]
          exact eM_con h1 h4 h5 h2
        · exact EOk.never _
    | BinOp a op b pos =>
      simp only [trE]
      split
      · rename_i o ho
        refine EOk.val A rfl ?_
        rw [bin_E]
        exact eM_bin (bop_ok A.hK ho) (hf a) (hf b)
      · exact EOk.never _
    | UnaryOp op a pos =>
      cases op with
      | USub =>
        refine EOk.val A rfl ?_
        simp only [trE]
        rw [neg_E]
        exact eM_neg (hf a)
      | Not =>
        refine EOk.mk2 (fun _ _ _ h => by cases h) ?_ ?_
        · simp only [trE]
          rw [not_E]
          exact eM_not A.hK (hf a)
        · simp only [trE]
          rw [not_E]
          exact pT_not (hft a)
      | _ => simp only [trE]; exact EOk.never _
    | Compare a ops bs pos =>
      match ops, bs with
      | [o], [b] =>
        simp only [trE]
        split
        · rename_i c hc
          split
          · exact EOk.never _
          · rename_i hb
            have hb : behindInMarks o b = false := by simpa using hb
            refine EOk.mk2 (fun _ _ _ h => by cases h) ?_ ?_
            · rw [cmp_E]
              exact eM_cmp (cop_ok A.hK (by omega) hc) hb (hf a) (hf b)
            · rw [cmp_E]
              exact pT_cmp (cop_ok A.hK (by omega) hc) hb (hf a) (hf b)
        · exact EOk.never _
      | [o, o'], [b, b'] =>
        simp only [trE]
        split
        · rename_i c hc
          split
          · rename_i c' hc'
            split
            · exact EOk.never _
            · rename_i hb
              have hb : lastMarks [o, o'] [b, b'] = false := by simpa using hb
              refine EOk.mk2 (fun _ _ _ h => by cases h) ?_ ?_
              · rw [cmp2_E]
                exact eM_cmp2 (cop_ok A.hK (by omega) hc) (cop_ok A.hK (by omega) hc') hb (hf a) (hf b) (hf b')
              · rw [cmp2_E]
                exact pT_cmp2 (cop_ok A.hK (by omega) hc) (cop_ok A.hK (by omega) hc') hb (hf a) (hf b) (hf b')
          · exact EOk.never _
        · exact EOk.never _
      | [], _ => simp only [trE]; exact EOk.never _
      | [o], [] => simp only [trE]; exact EOk.never _
      | [o], _ :: _ :: _ => simp only [trE]; exact EOk.never _
      | [o, o'], [] => simp only [trE]; exact EOk.never _
      | [o, o'], [_] => simp only [trE]; exact EOk.never _
      | [o, o'], _ :: _ :: _ :: _ => simp only [trE]; exact EOk.never _
      | _ :: _ :: _ :: _, _ => simp only [trE]; exact EOk.never _
    | BoolOp op vs pos =>
      match vs with
      | [] => simp only [trE]; exact EOk.never _
      | [a] =>
        simp only [trE]
        refine ⟨eM_one (hf a), pT_one (hft a), fun op' vs' pos' h => ?_⟩
        cases op with
        | And => exact pw_and1 (hft a)
        | Or => exact pw_or1 (hft a)
      | a :: b :: r =>
        cases op with
        | And =>
          simp only [trE]
          have w := pT_and (hft a) ((ih (.BoolOp .And (b :: r) pos)).pw _ _ _ rfl)
          rw [← and_E] at w
          refine ⟨?_, w.pt, fun _ _ _ _ => w⟩
          rw [and_E]
          exact eM_and A.hK (hf a) (hf (.BoolOp .And (b :: r) pos))
        | Or =>
          simp only [trE]
          have w := pT_or (hft a) ((ih (.BoolOp .Or (b :: r) pos)).pw _ _ _ rfl)
          rw [← or_E] at w
          refine ⟨?_, w.pt, fun _ _ _ _ => w⟩
          rw [or_E]
          exact eM_or A.hK (hf a) (hf (.BoolOp .Or (b :: r) pos))
    | IfExp c a b pos =>
      refine EOk.mk2 (fun _ _ _ h => by cases h) ?_ ?_
      · simp only [trE]
        rw [ite_E]
        exact eM_ite (hft c) (hf a) (hf b)
      · simp only [trE]
        rw [ite_E]
        exact pT_ite (hft c) (hft a) (hft b)
    | Tuple es x1 pos =>
      simp only [trE]
      refine EOk.val A rfl ?_
      rw [tup_E]
      exact eM_tup (pa_stars A.hK _ _ hf es)
    | List es pos =>
      simp only [trE]
      refine EOk.val A rfl ?_
      rw [lst_E]
      exact eM_lst (pa_stars A.hK _ _ hf es)
    | Subscript a b pos =>
      by_cases hb : plainIx b = true
      · have e : trE pt (n + 1) T (.Subscript a b pos) = .idx (trE pt n T a) (trE pt n T b) := by
          cases b <;> first | (simp only [trE]; done) | cases hb
        rw [e]
        refine EOk.val A rfl ?_
        rw [idx_E]
        exact eM_idx (by omega) A.hK (plainIx_ok hb) (hf a) (hf b)
      · cases b <;> first | exact absurd rfl hb | skip
        rename_i lo hi st p2
        cases st with
        | some z => simp only [trE]; exact EOk.never _
        | none =>
          refine EOk.val A rfl ?_
          simp only [trE]
          rw [sli_E]
          refine eM_sli A.hK (hf a) ?_ ?_
          · cases lo with
            | none => rw [o_none]; exact po_noneM
            | some e => rw [o_some]; exact po_someM (hf e)
          · cases hi with
            | none => rw [o_none]; exact po_noneM
            | some e => rw [o_some]; exact po_someM (hf e)
    | Attribute a f pos =>
      simp only [trE]
      split
      · rename_i hb
        split
        · rename_i s hs
          have e := Pk.fl f s hs
          subst e
          refine EOk.val A rfl ?_
          rw [fld_E]
          exact eM_fld A hb (hf a)
        · exact EOk.never _
      · exact EOk.never _
    | Call f es kws cpos =>
      cases f with
      | Name x xp =>
        simp only [trE]
        split
        · exact EOk.never _
        · split
          · rename_i gv hgv
            exact EOk.val A rfl (trB_ok A S Pk _ hf hgv xp cpos es kws)
          · exact EOk.never _
      | Attribute o m apos =>
        simp only [trE]
        split
        · rename_i hc
          simp only [Bool.and_eq_true] at hc
          split
          · rename_i b hm
            have em := Pk.mb m _ hm
            subst em
            exact EOk.val A rfl (trBM_ok A _ hf b o apos cpos hc.1 hc.2 es kws)
          · split
            · rename_i s hs
              have e := Pk.fl m s hs
              subst e
              exact EOk.val A rfl (trM_ok A Pk _ hf s o apos cpos hc.1 hc.2 es kws)
            · exact EOk.never _
        · exact EOk.never _
      | _ => simp only [trE]; exact EOk.never _
    | ListComp elt gens scope pos =>
      match gens with
      | [] => simp only [trE]; exact EOk.never _
      | _ :: _ :: _ => simp only [trE]; exact EOk.never _
      | [⟨tg, iter, ifs, asy⟩] =>
        simp only [trE]
        split
        · rename_i hc
          simp only [Bool.and_eq_true, decide_eq_true_eq] at hc
          obtain ⟨⟨⟨h1, h2⟩, h3⟩, h4⟩ := hc
          subst h3
          have hb : BlkOk X.N X.env.scope scope (ownOf T scope) := by
            rw [S.N, S.sc]
            exact blkOk_by h1
          have ihb : ∀ s H C cl fp e, EOk (X.blk s H scope (compEnvC scope cl C X.env) fp) g P k NoW e (trE pt n { N := T.N, sc := relS scope T.sc, cs := scope } e) := fun s H C cl fp =>
            trE_ok n _ _ NoW (S.blk s H scope C cl fp) (A.blk s H scope C cl fp) (Pk.blk s H scope C cl fp)
          have hsl : ∀ i ∈ tgSl (trT pt { N := T.N, sc := relS scope T.sc, cs := scope } (trE pt n { N := T.N, sc := relS scope T.sc, cs := scope }) n tg), i ∈ (ownOf T scope).map (·.2) := fun i hi => by
            have := List.all_eq_true.mp h4 i hi
            simpa using this
          have hg : ∀ (s : Shared) (H : Hp) (C : Addr) (cl : List (PySem.Str × Addr)) (fp : List Addr), PG (X.blk s H scope (compEnvC scope cl C X.env) fp) tg (gM g (tgSl (trT pt { N := T.N, sc := relS scope T.sc, cs := scope } (trE pt n { N := T.N, sc := relS scope T.sc, cs := scope }) n tg)) (evT P (callN P k) (trT pt { N := T.N, sc := relS scope T.sc, cs := scope } (trE pt n { N := T.N, sc := relS scope T.sc, cs := scope }) n tg))) := fun s H C cl fp =>
            trT_ok (A.blk s H scope C cl fp) (S.blk s H scope C cl fp) _ (fun e => (ihb s H C cl fp e).pe) n tg
          have hi := trI_ok A S Pk _ hf tg iter
          split
          · refine EOk.val A rfl ?_
            rw [lc_E, c_nil]
            exact eM_lc A hi hb hg (fun s H C cl fp => pts_none) (fun s H C cl fp => (ihb s H C cl fp elt).pe) hsl h2
          · rename_i c
            refine EOk.val A rfl ?_
            rw [lc_E, c_one]
            exact eM_lc A hi hb hg (fun s H C cl fp => pts_one (ihb s H C cl fp c).pt) (fun s H C cl fp => (ihb s H C cl fp elt).pe) hsl h2
          · exact EOk.never _
        · exact EOk.never _
    | _ => simp only [trE]; exact EOk.never _
end Mi
set_option maxRecDepth 100000
set_option maxHeartbeats 2000000
/-! S27: the translation of statements. -/
namespace Mi
open PySem PySem.Spec PyProof.Rows L2
/-- the kind of the block -/
def blockS (sc : Scope) : ScopeKind := if sc.kind.isAnnotationScope = true then ScopeKind.function else sc.kind
def swNames (sc : Scope) (ts : List Expr) : List PySem.Str :=
  ts.filterMap fun x => match x with
    | .Name id pos => if (sc.names.lookup id == some NameKind.local && pos.line == (ts.head?.map fun x => x.pos.line).getD 0) = true then some id else none
    | _ => none
/-- what swappedStores says of a tuple for a tuple, by the scope alone; none: not served -/
def swT (sc : Scope) (ts vs : List Expr) : Option (Option (List PySem.Str)) :=
  if (!(ts.length == 2 || ts.length == 3) || vs.length != ts.length || blockS sc != ScopeKind.function) = true then some none
  else if (vs.any fun x => match x with | .Starred .. => true | _ => false) = true then some none
  else if ((swNames sc ts).length != ts.length || (swNames sc ts).eraseDups.length != (swNames sc ts).length) = true then some none
  else if vs.all (foldedForSure 8) = true then some none
  else if vs.all (constantsAlone 8) = true then none
  else some (some (swNames sc ts))
theorem swT_ok {env : PySem.Env} {ts vs : List Expr} {k k2 : Nat} {p p2 : Pos} {r : Option (List PySem.Str)} (hr : swT env.scope ts vs = some r) : swappedStores [.Tuple ts k p] (.Tuple vs k2 p2) env = pure r := by
  unfold swT at hr
  unfold swappedStores
  dsimp only
  split at hr
  · rename_i h
    cases hr
    exact if_pos h
  · rename_i h
    refine (if_neg h).trans ?_
    split at hr
    · rename_i h
      cases hr
      exact if_pos h
    · rename_i h
      refine (if_neg h).trans ?_
      split at hr
      · rename_i h
        cases hr
        exact if_pos h
      · rename_i h
        refine (if_neg h).trans ?_
        split at hr
        · rename_i h
          cases hr
          exact if_pos h
        · rename_i h
          refine (if_neg h).trans ?_
          split at hr
          · cases hr
          · rename_i h
            cases hr
            exact if_neg h
def isTupE : Expr → Bool
  | .Tuple .. => true
  | _ => false
def isLstE : Expr → Bool
  | .List .. => true
  | _ => false
theorem sw_none {tg e : Expr} (hl : isLstE tg = false) (h : isTupE tg = false ∨ isTupE e = false) (env : PySem.Env) : swappedStores [tg] e env = pure none := by
  unfold swappedStores
  cases tg <;> first | rfl | cases hl | skip
  cases e <;> first | rfl | skip
  rcases h with h | h <;> cases h
/-- whether a comprehension's store is within its frame -/
def swB (sc : Scope) (t : PySem.Str) (tl vl : Nat) (scope : Scope) : Bool :=
  blockS sc == ScopeKind.function && sc.names.lookup t == some NameKind.local && tl == vl && !scope.names.any fun (n, k) => n == t && (k == NameKind.local || k == NameKind.cell)
def trP3 (T : Tb) (f : Expr → E) (x y z : PySem.Str) (a b c : Expr) : St := match locOf T x with
  | some i => match locOf T y with
    | some j => match locOf T z with
      | some l => if notStar a && (notStar b && (notStar c && ((T.sc.names.lookup x == some .local) && ((T.sc.names.lookup y == some .local) && ((T.sc.names.lookup z == some .local) && decide (i ≠ j ∧ i ≠ l ∧ j ≠ l)))))) then .asg (.tup (.cons (.name i) (.cons (.name j) (.cons (.name l) .nil)))) (.tup (esOf f [a, b, c])) else .never
      | none => .never
    | none => .never
  | none => .never
def trS (pt : Pt) : Nat → Tb → Stmt → St
  | 0, _, _ => .never
  | n + 1, T, s => match s with
    | .Expr e _ => if noComp e then .expr (trE pt n T e) else .never
    | .Pass _ => .pass
    | .Break _ => .brk
    | .Continue _ => .cont
    | .Return v _ => match v with
      | some e => .ret (trE pt n T e)
      | none => .ret .non
    | .If c a b _ => .ifs (trE pt n T c) (ssOf (trS pt n T) a) (ssOf (trS pt n T) b)
    | .While c body orelse _ => match orelse with
      | [] => .while_ (trE pt n T c) (ssOf (trS pt n T) body)
      | _ => .never
    | .For tg iter body orelse _ => match orelse with
      | [] => if notSet iter then .for_ (trT pt T (trE pt n T) n tg) (trI pt T (trE pt n T) tg iter) (ssOf (trS pt n T) body) else .never
      | _ => .never
    | .AugAssign tg op e _ => match tg with
      | .Name x _ => match locOf T x with
        | some i => match op with
          | .Add => .aug i .add (trE pt n T e)
          | .Sub => .aug i .sub (trE pt n T e)
          | _ => .never
        | none => .never
      | _ => .never
    | .Assign tgs e apos => match tgs with
      | [tg] => match tg with
        | .Attribute o f _ => match pt.fl.lookup f with
          | some s => if noComp e then .asg (.attr (trE pt n T o) s) (trE pt n T e) else .never
          | none => .never
        | .Name y py => match e with
          | .ListComp elt gens scope epos => if swB T.sc y py.line epos.line scope then (match locOf T y with
              | some i => .asg (.name i) (trE pt n T e)
              | none => .never) else .asg (trT pt T (trE pt n T) n tg) (trE pt n T e)
          | _ => if noComp e then .asg (trT pt T (trE pt n T) n tg) (trE pt n T e) else .never
        | .Tuple ts _ _ => match e with
          | .Tuple vs _ _ => match swT T.sc ts vs with
            | some none => .asg (trT pt T (trE pt n T) n tg) (trE pt n T e)
            | some (some _) => match ts with
              | [.Name x _, .Name y _] => match vs with
                | [a, b] => match locOf T x with
                  | some i => match locOf T y with
                    | some j => if notStar a && notStar b && (T.sc.names.lookup x == some .local) && (T.sc.names.lookup y == some .local) && decide (i ≠ j) then .asg (.tup (.cons (.name i) (.cons (.name j) .nil))) (.tup (esOf (trE pt n T) [a, b])) else .never
                    | none => .never
                  | none => .never
                | _ => .never
              | [.Name x _, .Name y _, .Name z _] => match vs with
                | [a, b, c] => trP3 T (trE pt n T) x y z a b c
                | _ => .never
              | _ => .never
            | none => .never
          | _ => if noComp e then .asg (trT pt T (trE pt n T) n tg) (trE pt n T e) else .never
        | .Subscript o i _ => if noComp e then .asg (trT pt T (trE pt n T) n tg) (trE pt n T e) else .never
        | _ => .never
      | _ => .never
    | _ => .never
where ssOf (f : Stmt → St) : List Stmt → Sts
  | [] => .nil
  | s :: r => .cons (f s) (ssOf f r)
end Mi
set_option maxRecDepth 100000
set_option maxHeartbeats 2000000
/-! S28: the translation of statements is sound. -/
namespace Mi
open PySem PySem.Spec PyProof.Rows L2
section
variable {X : Cx} {g : Gs} {W : WX} {P : Prg} {k : Nat} {pt : Pt} {T : Tb}
/-- the parts of a comprehension that is served -/
theorem lc_data (n : Nat) (S : SX X T) (A : At X g P k W) (Pk : PtOk X g P pt) (elt : Expr) (gens : List Comprehension) (scope : Scope) (pos : Pos) : trE pt (n + 1) T (.ListComp elt gens scope pos) = .never ∨
    ∃ (tg iter : Expr) (ifs : List Expr) (own : List (PySem.Str × Nat)) (sl : List Nat) (mI : Env → Store → R Src) (mG : D → Env → Store → R Env) (mC : Env → Store → R Bool) (mE : Env → Store → R D), gens = [⟨tg, iter, ifs, 0⟩] ∧ PI X tg iter (iM g W mI) ∧ BlkOk X.N X.env.scope scope own ∧
      (∀ (s : Shared) (H : Hp) (C : Addr) (cl : List (PySem.Str × Addr)) (fp : List Addr), PG (X.blk s H scope (compEnvC scope cl C X.env) fp) tg (gM g sl mG)) ∧
      (∀ (s : Shared) (H : Hp) (C : Addr) (cl : List (PySem.Str × Addr)) (fp : List Addr), PTs (X.blk s H scope (compEnvC scope cl C X.env) fp) ifs (tMT g NoW mC)) ∧
      (∀ (s : Shared) (H : Hp) (C : Addr) (cl : List (PySem.Str × Addr)) (fp : List Addr), PE (X.blk s H scope (compEnvC scope cl C X.env) fp) elt (tM g NoW mE)) ∧ (∀ i ∈ sl, i ∈ own.map (·.2)) ∧ notSet iter = true ∧
      evE P (callN P k) (trE pt (n + 1) T (.ListComp elt gens scope pos)) = fun env S => (mI env S).bind fun src S =>
        (lcL (fun d S => (mG d (setAll env (own.map (·.2)) none) S).bind fun env S => (mC env S).bind fun k S => if k then (mE env S).bind fun e S => .ok (some e) S else .ok none S) (fun S => same S src.2) [] src.1 S).bind fun l S => alloc (.lst l) S := by
  have ih := trE_ok n X T W S A Pk
  have hf : ∀ e, PE X e (tM g W (evE P (callN P k) (trE pt n T e))) := fun e => (ih e).pe
  match gens with
  | [] => left; simp only [trE]
  | _ :: _ :: _ => left; simp only [trE]
  | [⟨tg, iter, ifs, asy⟩] =>
    simp only [trE]
    split
    · rename_i hc
      simp only [Bool.and_eq_true, decide_eq_true_eq] at hc
      obtain ⟨⟨⟨h1, h2⟩, h3⟩, h4⟩ := hc
      subst h3
      have hb : BlkOk X.N X.env.scope scope (ownOf T scope) := by
        rw [S.N, S.sc]
        exact blkOk_by h1
      have ihb : ∀ s H C cl fp e, EOk (X.blk s H scope (compEnvC scope cl C X.env) fp) g P k NoW e (trE pt n { N := T.N, sc := relS scope T.sc, cs := scope } e) := fun s H C cl fp =>
        trE_ok n _ _ NoW (S.blk s H scope C cl fp) (A.blk s H scope C cl fp) (Pk.blk s H scope C cl fp)
      have hsl : ∀ i ∈ tgSl (trT pt { N := T.N, sc := relS scope T.sc, cs := scope } (trE pt n { N := T.N, sc := relS scope T.sc, cs := scope }) n tg), i ∈ (ownOf T scope).map (·.2) := fun i hi => by
        have := List.all_eq_true.mp h4 i hi
        simpa using this
      have hg : ∀ (s : Shared) (H : Hp) (C : Addr) (cl : List (PySem.Str × Addr)) (fp : List Addr), PG (X.blk s H scope (compEnvC scope cl C X.env) fp) tg (gM g (tgSl (trT pt { N := T.N, sc := relS scope T.sc, cs := scope } (trE pt n { N := T.N, sc := relS scope T.sc, cs := scope }) n tg)) (evT P (callN P k) (trT pt { N := T.N, sc := relS scope T.sc, cs := scope } (trE pt n { N := T.N, sc := relS scope T.sc, cs := scope }) n tg))) := fun s H C cl fp =>
        trT_ok (A.blk s H scope C cl fp) (S.blk s H scope C cl fp) _ (fun e => (ihb s H C cl fp e).pe) n tg
      have hi := trI_ok A S Pk _ hf tg iter
      split
      · exact .inr ⟨tg, iter, [], ownOf T scope, _, _, _, fun _ S => .ok true S, _, rfl, hi, hb, hg, fun s H C cl fp => pts_none, fun s H C cl fp => (ihb s H C cl fp elt).pe, hsl, h2, by rw [lc_E, c_nil]⟩
      · rename_i c
        exact .inr ⟨tg, iter, [c], ownOf T scope, _, _, _, _, _, rfl, hi, hb, hg, fun s H C cl fp => pts_one (ihb s H C cl fp c).pt, fun s H C cl fp => (ihb s H C cl fp elt).pe, hsl, h2, by rw [lc_E, c_one]⟩
      · exact .inl rfl
    · exact .inl rfl
theorem swaps_lc {elt : Expr} {gens : List Comprehension} {scope : Scope} {epos py : Pos} {y : PySem.Str} {l : Nat} {env : PySem.Env} : swapsWith (.ListComp elt gens scope epos) (some (.Name y py)) l env = pure (swB env.scope y py.line epos.line scope) := rfl
theorem sM_bad {s : Stmt} {m : Env → Store → R O} (h : ∀ env S, m env S = .bad) : PS X s (tS g W m) := PS.imp ps_never fun D σ H hw => by
  obtain ⟨p, env, rfl, ok, re, hp⟩ := tS.out hw
  rw [h] at hp
  exact hp
theorem asg_E (cl : Cl) (t : Tg) (e : E) : evS P cl (.asg t e) = fun env S => (evE P cl e env S).bindS env fun d S => (evT P cl t d env S).bindS env fun env S => .ok (.next env) S := by
  funext env S; simp only [evS]
/-- an assignment in general -/
theorem sM_asg' {tg e : Expr} {pos : Pos} {sl : List Nat} {m : Env → Store → R D} {mG : D → Env → Store → R Env} (hs : swapsWithSole [tg] e pos.line X.env = pure false) (hts : notStar tg = true) (hsw : swappedStores [tg] e X.env = pure none) (hn : ∀ d env S, NE (mG d env S)) (he : PE X e (tM g W m)) (hg : PG X tg (gM g sl mG)) :
    PS X (.Assign [tg] e pos) (tS g W fun env S => (m env S).bindS env fun d S => (mG d env S).bindS env fun env S => .ok (.next env) S) := PS.imp (ps_asg he hg hs hsw (by rw [asg_cons hts]; rfl)) fun D σ H h => by
  obtain ⟨p, env, rfl, ok, re, hp⟩ := tS.out h
  refine intoS ok re hp fun q d v nx okq re' hv hp => ?_
  refine ⟨q, env, d, rfl, okq, re', hv, (PostS.bindN (hn d env q.S) hp).mono fun q2 env2 nx2 ok2 hk σ2 re2 _ => ?_⟩
  exact hk q2 rfl (Nx.refl q2) ok2 σ2 re2
theorem aug_E (cl : Cl) (i : Nat) (e : E) : evS P cl (.aug i .add e) = fun env S => (match env[i]? with | some (some d) => R.ok d S | _ => .bad : R D).bindS env fun a S => (evE P cl e env S).bindS env fun b S => match a with
      | .int x => match b with
        | .int y => if i < env.length then .ok (.next (env.set i (some (.int (x + y))))) S else .bad
        | _ => .bad
      | _ => .bad := by
  funext env S
  simp only [evS, evE, evT]
  congr 1
  funext a S
  congr 1
  funext b S
  cases a <;> cases b <;> try rfl
  by_cases hi : i < env.length
  · simp only [if_pos hi, R.bindS]
  · simp only [if_neg hi, R.bindS]
theorem augs_E (cl : Cl) (i : Nat) (e : E) : evS P cl (.aug i .sub e) = fun env S => (match env[i]? with | some (some d) => R.ok d S | _ => .bad : R D).bindS env fun a S => (evE P cl e env S).bindS env fun b S => match a with
      | .int x => match b with
        | .int y => if i < env.length then .ok (.next (env.set i (some (.int (x - y))))) S else .bad
        | _ => .bad
      | _ => .bad := by
  funext env S
  simp only [evS, evE, evT]
  congr 1
  funext a S
  congr 1
  funext b S
  cases a <;> cases b <;> try rfl
  by_cases hi : i < env.length
  · simp only [if_pos hi, R.bindS]
  · simp only [if_neg hi, R.bindS]
theorem ssOf_ok (f : Stmt → St) (hf : ∀ s, PS X s (tS g W (evS P (callN P k) (f s)))) : ∀ l : List Stmt, PSs X l (tS g W (evSs P (callN P k) (trS.ssOf f l)))
  | [] => by
    have : evSs P (callN P k) (trS.ssOf f []) = fun env S => .ok (.next env) S := by
      funext env S; simp only [trS.ssOf, evSs]
    rw [this]
    exact ssM_nil
  | s :: r => by
    have : evSs P (callN P k) (trS.ssOf f (s :: r)) = fun env S => (evS P (callN P k) (f s) env S).bind fun o S => match o with | .next env => evSs P (callN P k) (trS.ssOf f r) env S | o => .ok o S := by
      funext env S
      simp only [trS.ssOf, evSs]
      all_goals rfl
    rw [this]
    exact ssM_cons (hf s) (ssOf_ok f hf r)
end
end Mi
set_option maxRecDepth 100000
set_option maxHeartbeats 2000000
/-! S29: the translation of statements is sound: the theorem. -/
namespace Mi
open PySem PySem.Spec PyProof.Rows L2
section
variable {X : Cx} {g : Gs} {W : WX} {P : Prg} {k : Nat} {pt : Pt} {T : Tb}
theorem asgName_ok (n : Nat) (S : SX X T) (A : At X g P k W) (Pk : PtOk X g P pt) (y : PySem.Str) (py pos : Pos) (e : Expr) :
    PS X (.Assign [.Name y py] e pos) (tS g W (evS P (callN P k) (trS pt (n + 1) T (.Assign [.Name y py] e pos)))) := by
  have ih := trE_ok n X T W S A Pk
  have hf : ∀ e, PE X e (tM g W (evE P (callN P k) (trE pt n T e))) := fun e => (ih e).pe
  have nv : PS X (.Assign [.Name y py] e pos) (tS g W (evS P (callN P k) .never)) := sM_bad fun env S => by simp only [evS]
  have gen : swapsWith e (some (.Name y py)) pos.line X.env = pure false → PS X (.Assign [.Name y py] e pos) (tS g W (evS P (callN P k) (.asg (trT pt T (trE pt n T) n (.Name y py)) (trE pt n T e)))) := fun hs => by
    rw [asg_E]
    exact sM_asg' hs rfl (sw_none rfl (.inl rfl) _) (evT_ne P _ _) (hf e) (trT_ok A S _ hf n _)
  cases e with
  | ListComp elt gens scope epos =>
    simp only [trS]
    split
    · rename_i hsw
      split
      · rename_i i hi
        have hloc : X.env.scope.names.lookup y = some .local := by
          rw [S.sc]
          unfold swB at hsw
          simp only [Bool.and_eq_true, beq_iff_eq] at hsw
          exact hsw.1.1.2
        obtain ⟨h1, h2, h3⟩ := loc_ok S hi
        have hsw2 : swapsWith (.ListComp elt gens scope epos) (some (.Name y py)) pos.line X.env = pure true := by
          rw [swaps_lc, S.sc, hsw]
        cases n with
        | zero =>
          refine sM_bad fun env S => ?_
          rw [asg_E]
          have : trE pt 0 T (.ListComp elt gens scope epos) = .never := by simp only [trE]
          rw [this, evE_never]
          rfl
        | succ n =>
          rcases lc_data n S A Pk elt gens scope epos with h | ⟨tg, iter, ifs, own, sl, mI, mG, mC, mE, rfl, d1, d2, d3, d4, d5, d6, d7, d8⟩
          · refine sM_bad fun env S => ?_
            rw [asg_E, h, evE_never]
            rfl
          · rw [asg_E, d8]
            have := sM_setLc (g := g) (W := W) A h1 hloc hsw2 d1 d2 d3 d4 d5 d6 d7
            refine PS.imp this fun D σ H h => ?_
            obtain ⟨p, env, rfl, ok, re, hp⟩ := tS.out h
            refine ⟨p, env, rfl, ok, re, ?_⟩
            simp only [evT] at hp
            exact hp
      · exact nv
    · rename_i hsw
      have hsw : swB T.sc y py.line epos.line scope = false := by simpa using hsw
      exact gen (by rw [swaps_lc, S.sc, hsw])
  | _ =>
    simp only [trS]
    split
    · rename_i hc
      exact gen (swaps_of hc _ _ _)
    · exact nv
theorem asgP3_ok (n : Nat) (S : SX X T) (A : At X g P k W) (Pk : PtOk X g P pt) {x y z : PySem.Str} {xp yp zp : Pos} {a b c : Expr} {kt k2 : Nat} {tp vp pos : Pos} {names : List PySem.Str} (hsw : swT T.sc [.Name x xp, .Name y yp, .Name z zp] [a, b, c] = some (some names))
    (hs : swappedStores [.Tuple [.Name x xp, .Name y yp, .Name z zp] kt tp] (.Tuple [a, b, c] k2 vp) X.env = pure (some names)) :
    PS X (.Assign [.Tuple [.Name x xp, .Name y yp, .Name z zp] kt tp] (.Tuple [a, b, c] k2 vp) pos) (tS g W (evS P (callN P k) (trP3 T (trE pt n T) x y z a b c))) := by
  have ih := trE_ok n X T W S A Pk
  have hf : ∀ e, PE X e (tM g W (evE P (callN P k) (trE pt n T e))) := fun e => (ih e).pe
  have nv : PS X (.Assign [.Tuple [.Name x xp, .Name y yp, .Name z zp] kt tp] (.Tuple [a, b, c] k2 vp) pos) (tS g W (evS P (callN P k) .never)) := sM_bad fun env S => by simp only [evS]
  unfold trP3
  split
  · rename_i i hi
    split
    · rename_i j hj
      split
      · rename_i l hl
        split
        · rename_i hc
          simp only [Bool.and_eq_true, beq_iff_eq, decide_eq_true_eq] at hc
          obtain ⟨ha, hb, hcc, hx, hy, hz, hij, hil, hjl⟩ := hc
          obtain ⟨h1, _, _⟩ := loc_ok S hi
          obtain ⟨h2, _, _⟩ := loc_ok S hj
          obtain ⟨h3, _, _⟩ := loc_ok S hl
          have hA := pa_all (callN P k) (trE pt n T) hf (l := [a, b, c]) (by simp [ha, hb, hcc])
          have hnames : swNames T.sc [.Name x xp, .Name y yp, .Name z zp] = names := by
            unfold swT at hsw
            repeat' split at hsw
            all_goals first | (cases hsw; rfl) | cases hsw
          have hxy : names = [x, y, z] := by
            rw [← hnames]
            unfold swT at hsw
            split at hsw
            · cases hsw
            · split at hsw
              · cases hsw
              · split at hsw
                · cases hsw
                · rename_i h3
                  simp only [Bool.or_eq_true, bne_iff_ne, ne_eq, not_or, Decidable.not_not] at h3
                  have h4 := h3.1
                  unfold swNames at h4 ⊢
                  simp only [List.filterMap_cons, List.filterMap_nil, hx, hy, hz, BEq.rfl, Bool.true_and] at h4 ⊢
                  repeat' split at h4
                  all_goals first | rfl | (simp at h4; done) | simp_all
          rw [hxy] at hs
          have r := sM_par3 (g := g) (W := W) (pos := pos) (kt := kt) (pt := tp) A.calm A.nd h1 h2 h3 hij hil hjl (by rw [S.sc]; exact hx) (by rw [S.sc]; exact hy) (by rw [S.sc]; exact hz) hs hA
          refine PS.imp r fun D σ H h => ?_
          obtain ⟨p, env, rfl, ok, re, hp⟩ := tS.out h
          refine ⟨p, env, rfl, ok, re, ?_⟩
          rw [asg_E, tup_E] at hp
          cases hm : evEs P (callN P k) (esOf (trE pt n T) [a, b, c]) env p.S with
          | exc z S' => simp only [hm] at hp ⊢; exact hp
          | bad => simp only [hm] at hp; exact False.elim hp
          | ok ds S' =>
            have hl := evEs_len (callN P k) (trE pt n T) [a, b, c] env p.S ds S' hm
            match ds, hl, hm with
            | [d, e, f], _, hm =>
              simp only [hm] at hp ⊢
              have sz : [d, e, f].length ≤ szl := by
                show 3 ≤ 16777216
                decide
              show PostS g W p (if i < env.length ∧ j < env.length ∧ l < env.length then R.ok (O.next (((env.set i (some d)).set j (some e)).set l (some f))) S' else .bad) D
              have e0 : (R.bind (R.ok [d, e, f] S') fun ds S => if ds.length ≤ szl then R.ok (Mi.D.tup ds) S else .bad) = R.ok (Mi.D.tup [d, e, f]) S' := by
                show (if [d, e, f].length ≤ szl then R.ok (Mi.D.tup [d, e, f]) S' else R.bad) = _
                rw [if_pos sz]
              rw [e0] at hp
              have hp : PostS g W p ((evT P (callN P k) (.tup (.cons (.name i) (.cons (.name j) (.cons (.name l) .nil)))) (.tup [d, e, f]) env S').bindS env fun env S => .ok (.next env) S) D := hp
              simp only [evT, evTs, Tgs.len, List.length_cons, List.length_nil] at hp
              by_cases c1 : i < env.length
              · by_cases c2 : j < env.length
                · by_cases c3 : l < env.length
                  · rw [if_pos ⟨c1, c2, c3⟩]
                    simp only [if_pos c1, R.bind, List.length_set, if_pos c2, if_pos c3] at hp
                    exact hp
                  · simp only [if_pos c1, R.bind, List.length_set, if_pos c2, if_neg c3] at hp
                    exact False.elim hp
                · simp only [if_pos c1, R.bind, List.length_set, if_neg c2] at hp
                  exact False.elim hp
              · simp only [if_neg c1, R.bind] at hp
                exact False.elim hp
        · exact nv
      · exact nv
    · exact nv
  · exact nv
theorem asgTup_ok (n : Nat) (S : SX X T) (A : At X g P k W) (Pk : PtOk X g P pt) (ts : List Expr) (kt : Nat) (tp pos : Pos) (e : Expr) :
    PS X (.Assign [.Tuple ts kt tp] e pos) (tS g W (evS P (callN P k) (trS pt (n + 1) T (.Assign [.Tuple ts kt tp] e pos)))) := by
  have ih := trE_ok n X T W S A Pk
  have hf : ∀ e, PE X e (tM g W (evE P (callN P k) (trE pt n T e))) := fun e => (ih e).pe
  have nv : PS X (.Assign [.Tuple ts kt tp] e pos) (tS g W (evS P (callN P k) .never)) := sM_bad fun env S => by simp only [evS]
  have gen : noComp e = true → swappedStores [.Tuple ts kt tp] e X.env = pure none → PS X (.Assign [.Tuple ts kt tp] e pos) (tS g W (evS P (callN P k) (.asg (trT pt T (trE pt n T) n (.Tuple ts kt tp)) (trE pt n T e)))) := fun hc hs => by
    rw [asg_E]
    exact sM_asg' (show swapsWithSole [_] e _ _ = pure false from swaps_of hc (some (.Tuple ts kt tp)) pos.line X.env) rfl hs (evT_ne P _ _) (hf e) (trT_ok A S _ hf n _)
  by_cases ht : isTupE e = true
  · cases e <;> first | cases ht | skip
    rename_i vs k2 vp
    simp only [trS]
    cases hsw : swT T.sc ts vs with
    | none => exact nv
    | some r =>
      have hs : swappedStores [.Tuple ts kt tp] (.Tuple vs k2 vp) X.env = pure r := swT_ok (by rw [S.sc]; exact hsw)
      cases r with
      | none => exact gen rfl hs
      | some names =>
        dsimp only
        split
        · rename_i x xp y yp
          split
          · rename_i a b
            split
            · rename_i i hi
              split
              · rename_i j hj
                split
                · rename_i hc
                  simp only [Bool.and_eq_true, beq_iff_eq, decide_eq_true_eq] at hc
                  obtain ⟨⟨⟨⟨ha, hb⟩, hx⟩, hy⟩, hij⟩ := hc
                  obtain ⟨h1, _, _⟩ := loc_ok S hi
                  obtain ⟨h2, _, _⟩ := loc_ok S hj
                  have hA := pa_all (callN P k) (trE pt n T) hf (l := [a, b]) (by simp [ha, hb])
                  have hnames : swNames T.sc [.Name x xp, .Name y yp] = names := by
                    unfold swT at hsw
                    repeat' split at hsw
                    all_goals first | (cases hsw; rfl) | cases hsw
                  have hxy : names = [x, y] := by
                    rw [← hnames]
                    unfold swT at hsw
                    split at hsw
                    · cases hsw
                    · split at hsw
                      · cases hsw
                      · split at hsw
                        · cases hsw
                        · rename_i h3
                          simp only [Bool.or_eq_true, bne_iff_ne, ne_eq, not_or, Decidable.not_not] at h3
                          have h4 := h3.1
                          unfold swNames at h4 ⊢
                          simp only [List.filterMap_cons, List.filterMap_nil] at h4 ⊢
                          split at h4
                          · split at h4 <;> simp at h4
                          · split at h4
                            · simp at h4
                            · rename_i p1 q1 _ p2 q2
                              split at q1
                              · split at q2
                                · cases q1
                                  cases q2
                                  rfl
                                · cases q2
                              · cases q1
                  rw [hxy] at hs
                  have r := sM_par (g := g) (W := W) (pos := pos) (kt := kt) (pt := tp) A.calm A.nd h1 h2 hij (by rw [S.sc]; exact hx) (by rw [S.sc]; exact hy) hs hA
                  refine PS.imp r fun D σ H h => ?_
                  obtain ⟨p, env, rfl, ok, re, hp⟩ := tS.out h
                  refine ⟨p, env, rfl, ok, re, ?_⟩
                  rw [asg_E, tup_E] at hp
                  cases hm : evEs P (callN P k) (esOf (trE pt n T) [a, b]) env p.S with
                  | exc z S' => simp only [hm] at hp ⊢; exact hp
                  | bad => simp only [hm] at hp; exact False.elim hp
                  | ok ds S' =>
                    have hl := evEs_len (callN P k) (trE pt n T) [a, b] env p.S ds S' hm
                    match ds, hl, hm with
                    | [d, e], _, hm =>
                      simp only [hm] at hp ⊢
                      have sz : [d, e].length ≤ szl := by
                        show 2 ≤ 16777216
                        decide
                      show PostS g W p (if i < env.length ∧ j < env.length then R.ok (O.next ((env.set i (some d)).set j (some e))) S' else .bad) D
                      have hp : PostS g W p ((R.ok (Mi.D.tup [d, e]) S').bindS env fun d S => (evT P (callN P k) (.tup (.cons (.name i) (.cons (.name j) .nil))) d env S).bindS env fun env S => .ok (.next env) S) D := by
                        have e0 : (R.bind (R.ok [d, e] S') fun ds S => if ds.length ≤ szl then R.ok (Mi.D.tup ds) S else .bad) = R.ok (Mi.D.tup [d, e]) S' := by
                          show (if [d, e].length ≤ szl then R.ok (Mi.D.tup [d, e]) S' else R.bad) = _
                          rw [if_pos sz]
                        rw [e0] at hp
                        exact hp
                      have hp : PostS g W p ((evT P (callN P k) (.tup (.cons (.name i) (.cons (.name j) .nil))) (.tup [d, e]) env S').bindS env fun env S => .ok (.next env) S) D := hp
                      simp only [evT, evTs, Tgs.len, List.length_cons, List.length_nil] at hp
                      by_cases c1 : i < env.length
                      · by_cases c2 : j < env.length
                        · rw [if_pos ⟨c1, c2⟩]
                          simp only [if_pos c1, R.bind, List.length_set, if_pos c2] at hp
                          exact hp
                        · simp only [if_pos c1, R.bind, List.length_set, if_neg c2] at hp
                          exact False.elim hp
                      · simp only [if_neg c1, R.bind] at hp
                        exact False.elim hp
                · exact nv
              · exact nv
            · exact nv
          · exact nv
        · split
          · exact asgP3_ok n S A Pk hsw hs
          · exact nv
        · exact nv
  · have ht2 : isTupE e = false := by simpa using ht
    have hs := sw_none (tg := .Tuple ts kt tp) (e := e) rfl (.inr ht2) X.env
    have e1 : trS pt (n + 1) T (.Assign [.Tuple ts kt tp] e pos) = if noComp e then .asg (trT pt T (trE pt n T) n (.Tuple ts kt tp)) (trE pt n T e) else .never := by
      cases e <;> first | (simp only [trS]; done) | cases ht2
    rw [e1]
    split
    · rename_i hc
      exact gen hc hs
    · exact nv
theorem trS_ok : ∀ (n : Nat) (X : Cx) (T : Tb) (W : WX), SX X T → AtS X g P k W → PtOk X g P pt → ∀ s, PS X s (tS g W (evS P (callN P k) (trS pt n T s)))
  | 0, X, T, W, S, A, Pk, s => sM_bad fun env S => by simp only [trS, evS]
  | n + 1, X, T, W, S, A, Pk, s => by
    have ih := trE_ok n X T W S A.toAt Pk
    have hf : ∀ e, PE X e (tM g W (evE P (callN P k) (trE pt n T e))) := fun e => (ih e).pe
    have hft : ∀ e, PT X e (tMT g W (mT (evE P (callN P k) (trE pt n T e)))) := fun e => (ih e).pt
    have hss : ∀ l : List Stmt, PSs X l (tS g W (evSs P (callN P k) (trS.ssOf (trS pt n T) l))) := ssOf_ok _ (trS_ok n X T W S A Pk)
    have nv : PS X s (tS g W (evS P (callN P k) .never)) := sM_bad fun env S => by simp only [evS]
    cases s with
    | Expr e pos =>
      simp only [trS]
      split
      · rename_i hc
        have : evS P (callN P k) (.expr (trE pt n T e)) = fun env S => (evE P (callN P k) (trE pt n T e) env S).bindS env fun _ S => .ok (.next env) S := by funext env S; simp only [evS]
        rw [this]
        exact sM_expr hc (hf e)
      · exact nv
    | Pass pos =>
      have : evS P (callN P k) .pass = fun env S => .ok (.next env) S := by funext env S; simp only [evS]
      simp only [trS]; rw [this]; exact sM_pass
    | Break pos =>
      have : evS P (callN P k) .brk = fun env S => .ok (.brk env) S := by funext env S; simp only [evS]
      simp only [trS]; rw [this]; exact sM_brk
    | Continue pos =>
      have : evS P (callN P k) .cont = fun env S => .ok (.cont env) S := by funext env S; simp only [evS]
      simp only [trS]; rw [this]; exact sM_cont
    | Return v pos =>
      cases v with
      | some e =>
        have : evS P (callN P k) (.ret (trE pt n T e)) = fun env S => (evE P (callN P k) (trE pt n T e) env S).bindS env fun d S => .ok (.ret d) S := by funext env S; simp only [evS]
        simp only [trS]; rw [this]; exact sM_ret (hf e)
      | none =>
        have : evS P (callN P k) (.ret .non) = fun env S => (R.ok (D.non) S).bindS env fun d S => .ok (.ret d) S := by funext env S; simp only [evS, evE]
        simp only [trS]; rw [this]; exact sM_retN
    | If c a b pos =>
      have : evS P (callN P k) (.ifs (trE pt n T c) (trS.ssOf (trS pt n T) a) (trS.ssOf (trS pt n T) b)) = fun env S => (evE P (callN P k) (trE pt n T c) env S).bindS env fun x S => (lift (truth x S) S).bindS env fun k' S => if k' then evSs P (callN P k) (trS.ssOf (trS pt n T) a) env S else evSs P (callN P k) (trS.ssOf (trS pt n T) b) env S := by funext env S; simp only [evS]
      simp only [trS]; rw [this]; exact sM_if (hft c) (hss a) (hss b)
    | While c body orelse pos =>
      cases orelse with
      | cons x r => simp only [trS]; exact nv
      | nil =>
        have : evS P (callN P k) (.while_ (trE pt n T c) (trS.ssOf (trS pt n T) body)) = fun env S => whileL (fun env S => (evE P (callN P k) (trE pt n T c) env S).bind fun x S => lift (truth x S) S) (evSs P (callN P k) (trS.ssOf (trS pt n T) body)) fuel env S := by funext env S; simp only [evS]
        simp only [trS]; rw [this]; exact sM_while A fuel (hft c) (hss body)
    | For tg iter body orelse pos =>
      cases orelse with
      | cons x r => simp only [trS]; exact nv
      | nil =>
        simp only [trS]
        split
        · rename_i hs
          have : evS P (callN P k) (.for_ (trT pt T (trE pt n T) n tg) (trI pt T (trE pt n T) tg iter) (trS.ssOf (trS pt n T) body)) = fun env S => (evI P (callN P k) (trI pt T (trE pt n T) tg iter) env S).bindS env fun src S => forL (evT P (callN P k) (trT pt T (trE pt n T) n tg)) (evSs P (callN P k) (trS.ssOf (trS pt n T) body)) (fun S => same S src.2) src.1 env S := by funext env S; simp only [evS]
          rw [this]
          exact sM_for A (evT_ne P _ _) hs (trI_ok A.toAt S Pk _ hf tg iter) (trT_ok A.toAt S _ hf n tg) (hss body)
        · exact nv
    | AugAssign tg op e pos =>
      cases tg with
      | Name x xp =>
        simp only [trS]
        split
        · rename_i i hi
          obtain ⟨h1, h2, h3⟩ := loc_ok S hi
          cases op with
          | Add => dsimp only; rw [aug_E]; exact sM_aug A.toAt h1 h2 h3 iop_add (hf e)
          | Sub => dsimp only; rw [augs_E]; exact sM_aug A.toAt h1 h2 h3 iop_sub (hf e)
          | _ => exact nv
        · exact nv
      | _ => simp only [trS]; exact nv
    | Assign tgs e pos =>
      match tgs with
      | [] => simp only [trS]; exact nv
      | _ :: _ :: _ => simp only [trS]; exact nv
      | [tg] =>
        cases tg with
        | Name y py => exact asgName_ok n S A.toAt Pk y py pos e
        | Tuple ts kt tp => exact asgTup_ok n S A.toAt Pk ts kt tp pos e
        | Attribute o f ap =>
          simp only [trS]
          split
          · rename_i s hs
            have ef := Pk.fl f s hs
            subst ef
            split
            · rename_i hc
              have : evS P (callN P k) (.asg (.attr (trE pt n T o) s) (trE pt n T e)) = fun env S => (evE P (callN P k) (trE pt n T e) env S).bindS env fun d S => (((evE P (callN P k) (trE pt n T o) env S).bind fun x S => setFld P x s d S).calm.bind fun _ S => .ok env S).bindS env fun env S => .ok (.next env) S := by
                funext env S
                simp only [evS, evT]
              rw [this]
              exact sM_fld A.toAt hc (hf o) (hf e)
            · exact nv
          · exact nv
        | Subscript o i sp =>
          simp only [trS]
          split
          · rename_i hc
            rw [asg_E]
            exact sM_asg' (show swapsWithSole [_] e _ _ = pure false from swaps_of hc (some (.Subscript o i sp)) pos.line X.env) rfl (sw_none rfl (.inl rfl) _) (evT_ne P _ _) (hf e) (trT_ok A.toAt S _ hf n _)
          · exact nv
        | _ => simp only [trS]; exact nv
    | _ => simp only [trS]; exact nv
end
end Mi
set_option maxRecDepth 100000
set_option maxHeartbeats 2000000
/-! S30: defs. -/
namespace Mi
open PySem PySem.Spec PyProof.Rows L2
theorem fnM_of {P : Program} {w : World} {K : PySem.W.Frag} {mg : PySem.Str → Option Value} {base : Heap} {k : Nat} {f : Addr} {name qual : PySem.Str} {params : Arguments} {body : List Stmt} {scope : Scope} {dV kV doc pm cdv ct oc : Value} {an od : Option Addr} {osl : Array (Option Value)} {N ps : List PySem.Str} {sp : Sp}
    (lk : K.lookup f = some { cls := oc, dict := od, data := .func (PySem.W.fnOf name qual params body scope dV kV doc pm an cdv ct), slots := osl }) (hcd : PySem.W.codeIn K cdv qual = true) (S : FnScope N ps scope) (len : ∀ vs H Q E, sp vs H Q E → vs.length = ps.length)
    (hbody : ∀ (A : Around) (outer : List PySem.Env) (s : Shared) (H : Hp) (vs : List V) (Q : VK) (E : XK), Room k (A.deeper (envOfC qual scope s.heap.objs.size f cdv)) → A.guards = some [] → sp vs H Q E →
      ∃ t, PSs (cxOf (L2N.CX P w) P w K mg base N qual scope f cdv A outer s H E) body t ∧ t { nx := fun _ H' => Q .non H', rt := Q } (start N vs) H) :
    FnM P w K mg base (k + 1) f (PySem.W.fnOf name qual params body scope dV kV doc pm an cdv ct) ps sp := by
  refine ⟨len, fun A outer s H args us vs Q E hr hgd e0 hb r hsp => ?_⟩
  have hl := len vs H Q E hsp
  have KX := PySem.W.Frag.In.keeps e0.mod.kin fun b o e => (e0.bs b o e).1
  have lim := Heap.NoLimit.keeps e0.mod.nolimit fun b o e => (e0.bs b o e).1
  have hkind : ∀ y ∈ ps.zip us, scope.names.lookup y.1 = some .local ∨ (scope.names.lookup y.1 = some .cell ∧ ((cellsFrom (s.heap.objs.size + 1) scope.names []).lookup y.1).isSome = true) := fun y hy => by
    obtain ⟨n, v⟩ := y
    rcases S.par n (List.of_mem_zip hy).1 with q | q
    · exact .inl q
    · exact .inr ⟨q, PySem.W.cellsFrom_some scope.names (s.heap.objs.size + 1) [] (.inl q)⟩
  refine codeAny_call_function (Room.depth hr) (KX f _ lk) rfl S.co S.gen rfl (PySem.W.codeRec_of KX hcd) (hb (model P w) A.in1 _ _ ?_)
  refine wpAny_newFunctionEnv_cells S.kind hkind fun env he s1 x => ?_
  have he : envOfC qual scope s.heap.objs.size f cdv = env := he.symm
  subst he
  refine ⟨Heap.NoLimit.keeps lim x.toInCall.keep, codeAny_func ?_⟩
  obtain ⟨t, ht, hq⟩ := hbody A outer s H vs Q E (Room.deeper hr _) hgd hsp
  have I : Inv (cxOf (L2N.CX P w) P w K mg base N qual scope f cdv A outer s H E) [] (start N vs) H s1 := inv_start S hr.hd e0 hl r x
  refine wpAny_mono (ht.run [] s1 _ H _ I hq) (fun fl s' hs => ?_) fun e s' hs => hs
  have fin : ∀ {σ' : L2.St} {H' : Hp} {v : V} {u : Value}, Inv (cxOf (L2N.CX P w) P w K mg base N qual scope f cdv A outer s H E) [] σ' H' s' → RelV v u → Q v H' → CE outer P w H s Q u s' := fun J rv q => ⟨_, _, J.os, J.bare, J.base, J.hok, rv, q⟩
  cases fl with
  | next =>
    obtain ⟨σ', H', J, q⟩ := hs
    exact fin (v := .non) J rfl q
  | brk =>
    obtain ⟨_, _, _, q⟩ := hs
    exact False.elim q
  | cont =>
    obtain ⟨_, _, _, q⟩ := hs
    exact False.elim q
  | ret u =>
    obtain ⟨v, σ', H', J, rv, q⟩ := hs
    exact fin J rv q
theorem RE.start {g : Gs} {p : Pl} {ds : List D} {vs : List V} (r : RVs g p ds vs) (N : List PySem.Str) (m : Nat) (hm : m = N.length - vs.length) : RE g p (ds.map some ++ List.replicate m none) (L2.start N vs) := by
  subst hm
  have hl := r.len
  refine ⟨by simp [L2.start, hl], fun i d h => ?_⟩
  by_cases hi : i < ds.length
  · rw [List.getElem?_append_left (by simpa using hi), List.getElem?_map] at h
    obtain ⟨d', h1, h2⟩ := Option.map_eq_some_iff.mp h
    cases h2
    obtain ⟨v, h3, h4⟩ := r.get i d h1
    refine ⟨v, ?_, h4⟩
    unfold L2.start
    rw [List.getElem?_append_left (by simp; omega), List.getElem?_map, h3]
    rfl
  · rw [List.getElem?_append_right (by simpa using Nat.le_of_not_lt hi)] at h
    rw [List.getElem?_replicate] at h
    split at h <;> cases h
/-- what is known of a def -/
structure DefOk (K : PySem.W.Frag) (g : Gs) (pt : Pt) (fu : Nat) (n : Nat) (f : Fn) : Prop where
  ex : ∃ x qual params body scope fd N ps, FunD K x qual params body scope [] [] (g.ad n) fd ∧ FnScope N ps scope ∧ f.np = ps.length ∧ f.nl = N.length ∧
    f.body = trS.ssOf (trS pt fu { N := N, sc := scope, cs := scope }) body ∧ Binds K fd ps [] ∧
    (∀ (m : Nat) (ks : List String) (perm : List Nat), pt.kws n m ks = some perm → ∀ (s : Shared) (us ws : List Value), K.In s.heap → us.length = m → ws.length = ks.length → BindsTo s fd { pos := us, kw := (ks.map PySem.Str.ofString).zip ws } (ps.zip (permV .none perm (us ++ ws))))
/-- what is known of the whole program in a world -/
structure World0 (P0 : Program) (w : World) (K : PySem.W.Frag) (mg : PySem.Str → Option Value) (base : Heap) (g : Gs) (P : Prg) (pt : Pt) (fu : Nat) : Prop where
  hK : K = g.K
  Z : Sta g P
  defs : ∀ n f, P.fn n = some f → DefOk K g pt fu n f
  tab : PtOkM mg g P pt
theorem fns_all {P0 : Program} {w : World} {K : PySem.W.Frag} {mg : PySem.Str → Option Value} {base : Heap} {g : Gs} {P : Prg} {pt : Pt} {fu : Nat} (Wd : World0 P0 w K mg base g P pt fu) : ∀ k, FnsAt P0 w K mg base g P k
  | 0 => fun n f hf => by
    obtain ⟨x, qual, params, body0, scope, fd, N, ps, F, S, h1, h2, h3, hb, hk⟩ := (Wd.defs n f hf).ex
    refine ⟨fd, ps, ⟨fun vs H Q E h => ?_, fun A outer s H args us vs Q E _ _ _ _ _ h => ?_⟩, hb, fun m ks perm hp => hk m ks perm ?_, F.kp⟩
    · obtain ⟨p, ds, _, _, _, h⟩ := h
      exact False.elim h
    · obtain ⟨p, ds, _, _, _, h⟩ := h
      exact False.elim h
    · rw [← Wd.tab.kws]
      exact hp
  | k + 1 => fun n f hf => by
    have ih := fns_all Wd k
    obtain ⟨x, qual, params, body0, scope, fd, N, ps, F, S, h1, h2, h3, hb, hk⟩ := (Wd.defs n f hf).ex
    have len : ∀ vs H Q E, spM g (callN P (k + 1) n) vs H Q E → vs.length = ps.length := fun vs H Q E h => by
      obtain ⟨p, ds, _, _, rv, h⟩ := h
      rw [← rv.len, ← h1]
      by_cases hl : ds.length = f.np
      · exact hl
      · have e : callN P (k + 1) n ds p.S = .bad := by
          show (match P.fn n with | some f => runFn P (callN P k) f ds p.S | none => .bad) = .bad
          rw [hf]
          show (if ds.length = f.np then _ else R.bad) = R.bad
          rw [if_neg hl]
        rw [e] at h
        exact False.elim h
    refine ⟨fd, ps, ?_, hb, fun m ks perm hp => hk m ks perm (by rw [← Wd.tab.kws]; exact hp), F.kp⟩
    obtain ⟨oc, od, dV, kV, doc, pm, an, cdv, ct, osl, e, lk, hcd, _, _⟩ := F.ex
    subst e
    refine fnM_of (k := 4 * k + 5) lk hcd S len fun A outer s H vs Q E hr hgd h => ?_
    obtain ⟨p, ds, rfl, ok, rv, h⟩ := h
    have At0 : AtS (cxOf (L2N.CX P0 w) P0 w K mg base N qual scope (g.ad n) cdv A outer s p.H E) g P k (fun cls d _ H => E cls d H) := {
      hK := Wd.hK
      Z := Wd.Z
      Fs := ih
      room := hr
      gd := hgd
      tk := L2N.takes_of rfl rfl rfl rfl
      calm := rfl
      nd := S.nd
      po := passes_of rfl }
    have SX0 : SX (cxOf (L2N.CX P0 w) P0 w K mg base N qual scope (g.ad n) cdv A outer s p.H E) { N := N, sc := scope, cs := scope } := ⟨rfl, rfl, fun _ _ => rfl⟩
    have body := ssOf_ok (W := fun cls d _ H => E cls d H) (trS pt fu { N := N, sc := scope, cs := scope }) (trS_ok fu _ _ _ SX0 At0 Wd.tab) body0
    refine ⟨_, body, ?_⟩
    have hl : ds.length = f.np := by
      rw [rv.len, h1]
      exact len vs p.H Q E ⟨p, ds, rfl, ok, rv, h⟩
    have e : callN P (k + 1) n ds p.S = (evSs P (callN P k) f.body (ds.map some ++ List.replicate (f.nl - f.np) none) p.S).fin := by
      show (match P.fn n with | some f => runFn P (callN P k) f ds p.S | none => .bad) = _
      rw [hf]
      show (if ds.length = f.np then _ else R.bad) = _
      rw [if_pos hl]
    rw [e, h3] at h
    refine ⟨p, _, rfl, ok, RE.start rv N (f.nl - f.np) (by rw [h2, ← hl, rv.len]), ?_⟩
    cases hm : evSs P (callN P k) (trS.ssOf (trS pt fu { N := N, sc := scope, cs := scope }) body0) (ds.map some ++ List.replicate (f.nl - f.np) none) p.S with
    | bad => rw [hm] at h; exact h
    | exc x S' => rw [hm] at h; exact h
    | ok o S' =>
      rw [hm] at h
      cases o with
      | next env => exact fun q e n o σ re => h q e n o _ rfl
      | ret d => exact fun q e n o v hv => h q e n o v hv
      | brk env => exact False.elim h
      | cont env => exact False.elim h
      | exn x env => exact fun q e n o σ re cls dd rx => h q cls dd e n o rx
end Mi
set_option maxRecDepth 100000
set_option maxHeartbeats 2000000
/-! S31: the law's call. -/
namespace Mi
open PySem PySem.Spec PyProof.Rows L2
theorem law_callM {P : Program} {w : World} {K : PySem.W.Frag} {mg mb : PySem.Str → Option Value} {k : Nat} {fa a : Addr} {fd : FuncData} {x : PySem.Str} {sp : Sp} {s₁ : Shared} {vs : List Value} {ns : List Int}
    (KX : K.In s₁.heap) (hns : s₁.heap.Ns mainGlobals mg) (hb : s₁.heap.Ns builtinsNs mb) (hbb : ∀ x, x ≠ PySem.Str.ofString "__name__" → mb x = bootBuiltins x) (hlim : s₁.heap.NoLimit) (hg : s₁.gens = #[])
    (ha : s₁.heap.get? a = some { cls := .type "list", data := .seq vs.toArray }) (hi : IntsAre vs ns) (hl : ns.length ≤ sizeLine) (hr : Room k callerA)
    (F : ∀ base : Heap, K.In base → base.Ns mainGlobals mg → FnM P w K mg base k fa fd [x] sp) (hbind : ∀ (s : Shared) (u : Value), BindsTo s fd { pos := [u] } [(x, u)])
    (hsp : ∀ H, Only H → SqL K H a (ns.map V.int) → sp [.ref a] H (fun v _ => v = .bl true) fun _ _ _ => False) :
    codeAny (model P w) callerA (.call (.ref fa) { pos := [.ref a] }) (fun r s' => r = .ok (.ret (.bool true)) ∧ OldK s₁.heap s'.heap ∧ s'.os = s₁.os ∧ AllBare s'.gens) s₁ := by
  have rv := vals_ints hi
  have lenV := hi.length
  have core : ∀ H : Hp, Only H → SqL K H a (ns.map V.int) → HOk P w H s₁.heap → (∀ b, H b ≠ none → b = a) → (H a ≠ none → K.lookup a = none) →
      codeAny (model P w) callerA (.call (.ref fa) { pos := [.ref a] }) (fun r s' => r = .ok (.ret (.bool true)) ∧ OldK s₁.heap s'.heap ∧ s'.os = s₁.os ∧ AllBare s'.gens) s₁ := fun H hO hS hok hA hK => by
    have base_of : ∀ {b : Addr} {o : Obj}, s₁.heap.get? b = some o → H b = none → (hidT s₁.heap H).get? b = some o := fun e n => hidT_get e n
    have noA : ∀ {b : Addr} {o : Obj} {es : Array DictEntry} {ep : Nat}, s₁.heap.get? b = some o → o.data = .dict es ep → H b = none := fun {b o es ep} e d => by
      cases q : H b with
      | none => rfl
      | some u =>
        have e' := hA b (by rw [q]; simp)
        rw [e', ha] at e
        cases e
        cases d
    have nsK : ∀ {b : Addr} {m : PySem.Str → Option Value}, s₁.heap.Ns b m → (hidT s₁.heap H).Ns b m := fun {b m} x => by
      obtain ⟨o, es, ep, e, d, r⟩ := x
      exact ⟨o, es, ep, base_of e (noA e d), d, r⟩
    have hKb : K.In (hidT s₁.heap H) := fun b o e => base_of (KX b o e) (by
      cases q : H b with
      | none => rfl
      | some u =>
        have e' := hA b (by rw [q]; simp)
        rw [e'] at e q
        have := hK (by rw [q]; simp)
        rw [this] at e
        cases e)
    have hNL : (hidT s₁.heap H).NoLimit := by
      obtain ⟨mc, h1, h2⟩ := hlim
      exact ⟨mc, nsK h1, h2⟩
    have hM : L2.Mod K mg (hidT s₁.heap H) := { kin := hKb, glob := nsK hns, blt := ⟨mb, nsK hb, hbb⟩, nolimit := hNL }
    have e0 : Env0 P w K mg (hidT s₁.heap H) callerA [] s₁ H := { frames := rfl, mod := hM, bs := fun b o e => of_hidT e, bsz := Nat.le_of_eq (hidT_size s₁.heap H), funs := trivial, frf := fun b hb => absurd (show b ∈ ([] : List Addr) from hb) (by simp), hok := hok, bare := AllBare.of_eq hg }
    refine codeAny_mono ((F (hidT s₁.heap H) hKb (nsK hns)).run callerA [] s₁ H { pos := [.ref a] } [.ref a] [.ref a] (fun v _ => v = .bl true) (fun _ _ _ => False) hr rfl e0 (hbind s₁ (.ref a)) (.cons rfl .nil) (hsp H hO hS)) fun r s' h => ?_
    cases r with
    | error e =>
      obtain ⟨_, _, _, _, _, _, _, _, _, _, _, _, w⟩ := h
      exact w.elim
    | ok fl =>
      cases fl with
      | next => exact False.elim h
      | brk => exact False.elim h
      | cont => exact False.elim h
      | ret u =>
        obtain ⟨v, H', os, bare, un, hok', r', q⟩ := h
        have q : v = .bl true := q
        subst q
        have r' : u = .bool true := r'
        subst r'
        refine ⟨rfl, OldK.of_keep fun b o e => ?_, os, bare⟩
        cases q : H b with
        | none => exact un.keep b o e q (fun z => absurd (show b ∈ ([] : List Addr) from z) (by simp)) (by simp)
        | some u =>
          rcases hO b with z | ⟨ob, xs, z⟩
          · rw [q] at z; cases z
          · have z2 := un.frzs b ob (.lst xs) z
            obtain ⟨e1, _⟩ := hok b _ z
            obtain ⟨e2, _⟩ := hok' b _ z2
            rw [e] at e1
            cases e1
            exact e2
  cases hk : K.lookup a with
  | none =>
    refine core (fun b => if b = a then some (.frz { cls := .type "list", data := .seq vs.toArray } (.lst (ns.map V.int))) else none) (fun b => ?_) (.inl (.inr ⟨{ cls := .type "list", data := .seq vs.toArray }, if_pos rfl⟩)) (fun b u z => ?_) (fun b z => ?_) fun _ => hk
    · by_cases hb : b = a
      · exact .inr ⟨_, _, if_pos hb⟩
      · exact .inl (if_neg hb)
    · by_cases hb : b = a
      · have z' := (if_pos hb).symm.trans z
        cases z'
        subst hb
        exact ⟨ha, by rw [List.length_map]; exact hl, vs, 0, rv, ha⟩
      · have z' := (if_neg hb).symm.trans z
        cases z'
    · by_cases hb : b = a
      · exact hb
      · exact absurd (if_neg hb) z
  | some o =>
    have e := KX a o hk
    rw [ha] at e
    cases e
    refine core (fun _ => none) (fun _ => .inl rfl) (.inr ⟨{ cls := .type "list", data := .seq vs.toArray }, vs.toArray, 0, hk, rfl, rfl, rfl, ?_, ?_⟩) (fun b u z => by cases z) (fun b z => absurd rfl z) fun z => absurd rfl z
    · simp only [List.size_toArray]
      rw [lenV]
      exact hl
    · simpa using rv
theorem walk_ofM {l : PySem.W.OpenLaw} {n k : Nat} {q : Program} {loose : List PySem.Str} {XP : (PySem.Str → Option Value) → Heap → Prop} {YP : World → Heap → Prop} {d : DefRec} {x : PySem.Str} (hn : l.most = some n) (hn2 : n ≤ sizeLine) (hdf : d.params.defaults = []) (hr : Room k callerA)
    (F : ∀ (w : World) (mg : PySem.Str → Option Value) (fa : Addr) (h : Heap), YP w h → h.Ns mainGlobals mg → mg d.name = some (.ref fa) →
      ∃ K fd sp, PySem.W.Frag.In K h ∧ (∀ (s : Shared) (u : Value), BindsTo s fd { pos := [u] } [(x, u)]) ∧ (∀ (H : Hp) (a : Addr) (ns : List Int), ns.length ≤ n → Only H → SqL K H a (ns.map V.int) → sp [.ref a] H (fun v _ => v = .bl true) fun _ _ _ => False) ∧
        ∀ base : Heap, K.In base → base.Ns mainGlobals mg → FnM l.prog w K mg base k fa fd [x] sp) :
    PySem.W.WalkO q loose XP YP l.row.toRowW d [] fun f vs => call f vs :=
  Att.attach_call hn hdf fun w s₀ s₁ mg mb fa o pm cd doc a vs ns G Y ho hd hcd hmg hobj hints hlen hg => by
    obtain ⟨K, fd, sp, KX, hb, hsp, hF⟩ := F w mg fa s₁.heap Y G.T.g hmg
    exact law_callM KX G.T.g G.T.b G.T.builtins G.T.nolimit hg hobj hints (Nat.le_trans hlen hn2) hr hF hb fun H hO hS => hsp H a ns hlen hO hS
end Mi
set_option maxRecDepth 100000
set_option maxHeartbeats 2000000
/-! H1: the head's facts of a program, by one table. -/
namespace Mi
open PySem PySem.Spec PyProof.Rows L2
/-- where a def, a class stands -/
inductive Wh where
  | glo (x : PySem.Str) | meth (C m : PySem.Str) | prop (C m : PySem.Str)
def pget (K : PySem.W.Frag) (p : Addr) : Addr := match PySem.W.recIn K p "property" with
  | some (.ref g :: _) => g
  | _ => 0
def Wh.ad (K : PySem.W.Frag) : Wh → Addr
  | .glo x => He.ga K x
  | .meth C m => He.ma K (He.ga K C) m
  | .prop C m => pget K (He.ma K (He.ga K C) m)
/-- a def -/
structure De where
  name : PySem.Str
  qual : PySem.Str
  params : Arguments
  body : List Stmt
  scope : Scope
  N : List PySem.Str
  ps : List PySem.Str
/-- a program as the interpreter has it -/
structure Wo where
  ads : List Wh
  defs : List (Nat × De)
  meths : List (Nat × String × Nat)
  flds : List (Nat × String)
  props : List (Nat × String × Nat)
  inits : List (Nat × Nat)
  asks : List ((String ⊕ Nat) × Ty × Bool)
  gl : List (PySem.Str × Gv)
  fl : List (PySem.Str × String)
  mb : List (PySem.Str × MN)
  kwl : List (Nat × Nat × List String × List Nat)
  fu : Nat
def Wo.initF (o : Wo) (c : Nat) : Option Nat := o.inits.findSome? fun z => if z.1 = c then some z.2 else none
def Wo.kwsF (o : Wo) (n m : Nat) (ks : List String) : Option (List Nat) := o.kwl.findSome? fun z => if z.1 = n ∧ z.2.1 = m ∧ z.2.2.1 = ks then some z.2.2.2 else none
def Wo.mksF (o : Wo) (s : String) (n : Nat) (ks : List String) : Option (List Nat) := match o.meths.filter fun y => decide (y.2.1 = s) with
  | [] => none
  | z :: r => match o.kwsF z.2.2 (n + 1) ks with
    | some perm => if r.all (fun y => decide (o.kwsF y.2.2 (n + 1) ks = some perm)) then some perm else none
    | none => none
theorem Wo.mksF_ok {o : Wo} {s : String} {n : Nat} {ks : List String} {perm : List Nat} (h : o.mksF s n ks = some perm) {y : Nat × String × Nat} (hy : y ∈ o.meths) (e : y.2.1 = s) : o.kwsF y.2.2 (n + 1) ks = some perm := by
  have hm : y ∈ o.meths.filter fun y => decide (y.2.1 = s) := by simp [hy, e]
  unfold Wo.mksF at h
  cases q : o.meths.filter fun y => decide (y.2.1 = s) with
  | nil => rw [q] at h; cases h
  | cons z r =>
    rw [q] at h hm
    dsimp only at h
    cases q2 : o.kwsF z.2.2 (n + 1) ks with
    | none => rw [q2] at h; cases h
    | some p2 =>
      rw [q2] at h
      dsimp only at h
      split at h
      · rename_i hr
        cases h
        rcases List.mem_cons.mp hm with e2 | hm
        · rw [e2]; exact q2
        · simpa using List.all_eq_true.mp hr y hm
      · cases h
def Wo.pt (o : Wo) : Pt := { gl := o.gl, fl := o.fl, mb := o.mb, init := o.initF, kws := o.kwsF, mks := o.mksF }
def De.fn (pt : Pt) (fu : Nat) (d : De) : Fn := { np := d.ps.length, nl := d.N.length, body := trS.ssOf (trS pt fu { N := d.N, sc := d.scope, cs := d.scope }) d.body }
def Wo.prg (o : Wo) : Prg :=
  { fn := fun n => o.defs.findSome? fun z => if z.1 = n then some (z.2.fn o.pt o.fu) else none
    fld := fun c f => o.flds.any fun z => decide (z = (c, f))
    meth := fun c m => o.meths.findSome? fun z => if z.1 = c ∧ z.2.1 = m then some z.2.2 else none
    prop := fun c m => o.props.findSome? fun z => if z.1 = c ∧ z.2.1 = m then some z.2.2 else none
    init := o.initF
    xfs := fun _ => none
    sub := fun _ => []
    ask := fun a t => o.asks.findSome? fun z => if z.1 = a ∧ z.2.1 = t then some z.2.2 else none
    kws := o.kwsF }
def Wo.ad (o : Wo) (K : PySem.W.Frag) (n : Nat) : Addr := match o.ads[n]? with
  | some w => w.ad K
  | none => 0
def Wo.gs (o : Wo) (K : PySem.W.Frag) : Gs := ⟨K, o.ad K⟩
/-! ### checks -/
def clsB (K : PySem.W.Frag) (C : Addr) : Bool := PySem.W.plainGet K C Str.empty && (PySem.W.hasDictIn K C && (PySem.W.plainOver K C && He.eqO (PySem.W.findIn K (.ref C) "__setattr__") (some (some (.builtin "object.__setattr__")))))
theorem clsB_ok {K : PySem.W.Frag} {C : Addr} (c : clsB K C = true) : Cls K C := by
  obtain ⟨c1, c⟩ := He.ba c
  obtain ⟨c2, c⟩ := He.ba c
  obtain ⟨c3, c4⟩ := He.ba c
  exact ⟨c1, c2, c3, He.eqO_ok c4⟩
def methB (K : PySem.W.Frag) (C : Addr) (m : PySem.Str) (f : Addr) : Bool := clsB K C && (He.eqO (PySem.W.findIn K (.ref C) m) (some (some (.ref f))) && (PySem.W.isFn K (.ref f) && PySem.W.keepIn K (.ref f)))
def fldB (K : PySem.W.Frag) (C : Addr) (m : PySem.Str) : Bool := clsB K C && He.eqO (PySem.W.findIn K (.ref C) m) (some none)
def propB (K : PySem.W.Frag) (C : Addr) (m : PySem.Str) (f : Addr) : Bool := clsB K C && match PySem.W.findIn K (.ref C) m with
  | some (some (.ref p)) => He.eqO (PySem.W.specialIn K (.ref p) "__get__") (some (some (.builtin "property.__get__"))) && (decide (PySem.W.takesIn K (.ref p) = some true) && (match PySem.W.recIn K p "property" with
    | some (.ref g :: _) => decide (g = f)
    | _ => false))
  | _ => false
def initB (K : PySem.W.Frag) (C : Addr) (f : Addr) : Bool := PySem.W.makesIn K C && (He.eqO (PySem.W.findIn K (.ref C) "__init__") (some (some (.ref f))) && (PySem.W.isFn K (.ref f) && PySem.W.keepIn K (.ref C)))
def insB (K : PySem.W.Frag) (C : Addr) : Bool := clsB K C && (He.eqO (PySem.W.findIn K (.ref C) "__class__") (some (some (.builtin "object.__class__"))) && (He.eqO (PySem.W.specialIn K (.builtin "object.__class__") "__get__") (some (some (.builtin "getset_descriptor.__get__"))) &&
  (decide (PySem.W.takesIn K (.builtin "object.__class__") = some true) && decide (PySem.W.mroIn K C (.type "object") = some true))))
def askC (g : Gs) (a : String ⊕ Nat) (t : Ty) (b : Bool) : Bool := decide (PySem.W.kitOne g.K (tyVal g a) (t.val g) = some b) && match a with
  | .inr k => insB g.K (g.ad k)
  | .inl _ => true
theorem methB_ok {K : PySem.W.Frag} {C f : Addr} {m : PySem.Str} (c : methB K C m f = true) : Cls K C ∧ Meth K C m f := by
  obtain ⟨c1, c⟩ := He.ba c
  obtain ⟨c2, c⟩ := He.ba c
  obtain ⟨c3, c4⟩ := He.ba c
  exact ⟨clsB_ok c1, He.eqO_ok c2, c3, c4⟩
theorem fldB_ok {K : PySem.W.Frag} {C : Addr} {m : PySem.Str} (c : fldB K C m = true) : Cls K C ∧ NoAttr K C m := by
  obtain ⟨c1, c⟩ := He.ba c
  exact ⟨clsB_ok c1, He.eqO_ok c⟩
theorem propB_ok {K : PySem.W.Frag} {C f : Addr} {m : PySem.Str} (c : propB K C m f = true) : Cls K C ∧ ∃ p, PropOf K C m p f := by
  obtain ⟨c1, c⟩ := He.ba c
  refine ⟨clsB_ok c1, ?_⟩
  cases e : PySem.W.findIn K (.ref C) m with
  | none => rw [e] at c; cases c
  | some v =>
    rw [e] at c
    cases v with
    | none => cases c
    | some v =>
      cases v with
      | ref p =>
        obtain ⟨c2, c⟩ := He.ba c
        obtain ⟨c3, c4⟩ := He.ba c
        refine ⟨p, e, He.eqO_ok c2, of_decide_eq_true c3, ?_⟩
        cases e2 : PySem.W.recIn K p "property" with
        | none => rw [e2] at c4; cases c4
        | some l =>
          rw [e2] at c4
          cases l with
          | nil => cases c4
          | cons v r =>
            cases v with
            | ref g =>
              have : g = f := of_decide_eq_true c4
              exact ⟨r, by rw [this]⟩
            | _ => cases c4
      | _ => cases c
theorem initB_ok {K : PySem.W.Frag} {C f : Addr} (c : initB K C f = true) : Mk K C f := by
  obtain ⟨c1, c⟩ := He.ba c
  obtain ⟨c2, c⟩ := He.ba c
  obtain ⟨c3, c4⟩ := He.ba c
  exact ⟨c1, He.eqO_ok c2, c3, c4⟩
theorem insB_ok {K : PySem.W.Frag} {C : Addr} (c : insB K C = true) : InsTy K C := by
  obtain ⟨c1, c⟩ := He.ba c
  obtain ⟨c2, c⟩ := He.ba c
  obtain ⟨c3, c⟩ := He.ba c
  obtain ⟨c4, c5⟩ := He.ba c
  exact ⟨clsB_ok c1, He.eqO_ok c2, He.eqO_ok c3, of_decide_eq_true c4, of_decide_eq_true c5⟩
theorem askC_ok {g : Gs} {a : String ⊕ Nat} {t : Ty} {b : Bool} (c : askC g a t b = true) : PySem.W.kitOne g.K (tyVal g a) (t.val g) = some b ∧ ∀ k, a = .inr k → InsTy g.K (g.ad k) := by
  obtain ⟨c1, c⟩ := He.ba c
  refine ⟨of_decide_eq_true c1, fun k e => ?_⟩
  subst e
  exact insB_ok c
def Wo.staB (o : Wo) (K : PySem.W.Frag) : Bool :=
  (o.meths.all fun z => methB K (o.ad K z.1) (PySem.Str.ofString z.2.1) (o.ad K z.2.2)) && ((o.flds.all fun z => fldB K (o.ad K z.1) (PySem.Str.ofString z.2)) &&
  ((o.props.all fun z => propB K (o.ad K z.1) (PySem.Str.ofString z.2.1) (o.ad K z.2.2)) && ((o.inits.all fun z => initB K (o.ad K z.1) (o.ad K z.2)) && (o.asks.all fun z => askC (o.gs K) z.1 z.2.1 z.2.2))))
theorem Wo.sta {o : Wo} {K : PySem.W.Frag} (c : o.staB K = true) : Sta (o.gs K) o.prg := by
  obtain ⟨c1, c⟩ := He.ba c
  obtain ⟨c2, c⟩ := He.ba c
  obtain ⟨c3, c⟩ := He.ba c
  obtain ⟨c4, c5⟩ := He.ba c
  refine ⟨fun x m n h => ?_, fun x f h => ?_, fun x f n h => ?_, fun x n h => ?_, fun a t b h => ?_⟩
  · obtain ⟨z, hz, e⟩ := List.exists_of_findSome?_eq_some h
    split at e
    · rename_i q
      cases e
      obtain ⟨rfl, rfl⟩ := q
      exact methB_ok (List.all_eq_true.mp c1 z hz)
    · cases e
  · obtain ⟨z, hz, e⟩ := List.any_eq_true.mp h
    have q : z = (x, f) := of_decide_eq_true e
    subst q
    exact fldB_ok (List.all_eq_true.mp c2 _ hz)
  · obtain ⟨z, hz, e⟩ := List.exists_of_findSome?_eq_some h
    split at e
    · rename_i q
      cases e
      obtain ⟨rfl, rfl⟩ := q
      exact propB_ok (List.all_eq_true.mp c3 z hz)
    · cases e
  · obtain ⟨z, hz, e⟩ := List.exists_of_findSome?_eq_some h
    split at e
    · rename_i q
      cases e
      subst q
      exact initB_ok (List.all_eq_true.mp c4 z hz)
    · cases e
  · obtain ⟨z, hz, e⟩ := List.exists_of_findSome?_eq_some h
    split at e
    · rename_i q
      cases e
      obtain ⟨rfl, rfl⟩ := q
      exact askC_ok (List.all_eq_true.mp c5 z hz)
    · cases e
end Mi
set_option maxRecDepth 100000
set_option maxHeartbeats 2000000
/-! H2: the tables' facts. -/
namespace Mi
open PySem PySem.Spec PyProof.Rows L2
mutual
def relD (K : PySem.W.Frag) : D → Value → Bool
  | .non, .none => true
  | .bl b, .bool c => b == c
  | .int i, .int j _ => decide (i = j)
  | .str s, .str y _ => okS s && decide (strS s = y)
  | .tup l, .ref a => (match K.lookup a with
    | some ⟨.type c, none, .seq its _, _⟩ => decide (c = "tuple") && (decide (its.size ≤ sizeLine) && relDs K l its.toList)
    | _ => false)
  | _, _ => false
def relDs (K : PySem.W.Frag) : List D → List Value → Bool
  | [], [] => true
  | d :: r, u :: us => relD K d u && relDs K r us
  | _, _ => false
end
mutual
theorem relD_ok {g : Gs} : ∀ (d : D) (u : Value), relD g.K d u = true → ∃ v, RelV v u ∧ ∀ p, RV g p d v
  | .non, u, h => by
    cases u with
    | none => exact ⟨.non, rfl, fun p => by simp only [RV]⟩
    | _ => simp [relD] at h
  | .bl b, u, h => by
    cases u with
    | bool c =>
      simp only [relD, beq_iff_eq] at h
      subst h
      exact ⟨.bl b, rfl, fun p => by simp only [RV]⟩
    | _ => simp [relD] at h
  | .int i, u, h => by
    cases u with
    | int j t =>
      simp only [relD, decide_eq_true_eq] at h
      subst h
      exact ⟨.int i, ⟨t, rfl⟩, fun p => by simp only [RV]⟩
    | _ => simp [relD] at h
  | .str s, u, h => by
    cases u with
    | str y t =>
      simp only [relD, Bool.and_eq_true, decide_eq_true_eq] at h
      obtain ⟨h1, h2⟩ := h
      subst h2
      exact ⟨.str (strS s), ⟨t, rfl⟩, fun p => by simp only [RV]; exact ⟨trivial, h1⟩⟩
    | _ => simp [relD] at h
  | .tup l, u, h => by
    cases u with
    | ref a =>
      simp only [relD] at h
      cases q : g.K.lookup a with
      | none => rw [q] at h; cases h
      | some o =>
        obtain ⟨oc, od, dt, osl⟩ := o
        rw [q] at h
        cases oc with
        | type c =>
          cases od with
          | none =>
            cases dt with
            | seq its n =>
              simp only [Bool.and_eq_true, decide_eq_true_eq] at h
              obtain ⟨h1, h2, h3⟩ := h
              obtain ⟨vs, hv, hr⟩ := relDs_ok (g := g) l its.toList h3
              refine ⟨.ref a, rfl, fun p => ?_⟩
              simp only [RV]
              exact ⟨a, vs, rfl, .inr ⟨_, its, n, q, ⟨congrArg Value.type h1, rfl⟩, rfl, h2, hv⟩, hr p⟩
            | _ => cases h
          | some z => cases dt <;> cases h
        | _ => cases od <;> cases dt <;> cases h
    | _ => simp [relD] at h
  | .loc n, u, h => by simp [relD] at h
  | .glo n, u, h => by simp [relD] at h
  | .ty n, u, h => by simp [relD] at h
theorem relDs_ok {g : Gs} : ∀ (l : List D) (us : List Value), relDs g.K l us = true → ∃ vs, Vals vs us ∧ ∀ p, RVs g p l vs
  | [], us, h => by
    cases us with
    | nil => exact ⟨[], .nil, fun p => by simp only [RVs]⟩
    | cons u us => simp [relDs] at h
  | d :: r, us, h => by
    cases us with
    | nil => simp [relDs] at h
    | cons u us =>
      simp only [relDs, Bool.and_eq_true] at h
      obtain ⟨v, h1, h2⟩ := relD_ok (g := g) d u h.1
      obtain ⟨vs, h3, h4⟩ := relDs_ok (g := g) r us h.2
      exact ⟨v :: vs, .cons h1 h3, fun p => by simp only [RVs]; exact ⟨v, vs, rfl, h2 p, h4 p⟩⟩
end
def isN (x : PySem.Str) (s : String) : Bool := decide (x = PySem.Str.ofString s)
/-- a name of the top, in the heap -/
def glB (o : Wo) (K : PySem.W.Frag) (x : PySem.Str) : Gv → Bool
  | .con d => (match PySem.W.nsIn K mainGlobals x with
    | some (some u) => relD K d u
    | _ => false)
  | .fn n => He.eqO (PySem.W.nsIn K mainGlobals x) (some (some (.ref (o.ad K n)))) && (o.prg.fn n).isSome
  | .cls c => He.eqO (PySem.W.nsIn K mainGlobals x) (some (some (.ref (o.ad K c))))
  | _ => He.eqO (PySem.W.nsIn K mainGlobals x) (some none)
/-- the same, of the text alone -/
def glS (x : PySem.Str) : Gv → Bool
  | .bi b => decide (bootBuiltins x = some (.builtin b.id)) && !isN x "__name__"
  | .ty t => decide (bootBuiltins x = some (.type t.id)) && !isN x "__name__"
  | .isi => isN x "isinstance"
  | .rng => isN x "range"
  | .enm => isN x "enumerate"
  | .zipp => isN x "zip"
  | _ => true
def Wo.tabS (o : Wo) : Bool := (o.gl.all fun z => glS z.1 z.2) && ((o.fl.all fun z => isN z.1 z.2) && (o.mb.all fun z => isN z.1 z.2.id))
def Wo.tabB (o : Wo) (K : PySem.W.Frag) : Bool := o.gl.all fun z => glB o K z.1 z.2
theorem lookup_mem {β : Type} {x : PySem.Str} {b : β} : ∀ {l : List (PySem.Str × β)}, l.lookup x = some b → (x, b) ∈ l
  | [], h => by cases h
  | (y, c) :: r, h => by
    rw [List.lookup_cons] at h
    split at h
    · rename_i e
      cases h
      rw [beq_iff_eq.mp e]
      exact List.mem_cons_self
    · exact List.mem_cons_of_mem _ (lookup_mem h)
theorem isN_not {x : PySem.Str} {s : String} (h : (!isN x s) = true) : x ≠ PySem.Str.ofString s := fun e => by
  subst e
  simp [isN] at h
theorem Wo.mks_all (o : Wo) : ∀ s n ks perm, o.pt.mks s n ks = some perm → ∀ c m, o.prg.meth c s = some m → o.prg.kws m (n + 1) ks = some perm := fun s n ks perm h c m hm => by
  obtain ⟨z, hz, e⟩ := List.exists_of_findSome?_eq_some hm
  split at e
  · rename_i q
    cases e
    exact Wo.mksF_ok h hz q.2
  · cases e
theorem Wo.tab {o : Wo} {K : PySem.W.Frag} {h : Heap} {mg : PySem.Str → Option Value} (X : K.In h) (G : h.Ns mainGlobals mg) (s : o.tabS = true) (c : o.tabB K = true) : PtOkM mg (o.gs K) o.prg o.pt := by
  obtain ⟨s1, s⟩ := He.ba s
  obtain ⟨s2, s3⟩ := He.ba s
  have S1 := fun {x : PySem.Str} {v : Gv} (h : o.gl.lookup x = some v) => (List.all_eq_true.mp s1 (x, v) (lookup_mem h) : glS x v = true)
  have C1 := fun {x : PySem.Str} {v : Gv} (h : o.gl.lookup x = some v) => (List.all_eq_true.mp c (x, v) (lookup_mem h) : glB o K x v = true)
  have none_ : ∀ {x : PySem.Str}, He.eqO (PySem.W.nsIn K mainGlobals x) (some none) = true → mg x = none := fun e => PySem.W.mg_none_of X G (He.eqO_ok e)
  refine { con := fun x d h => ?_, fn := fun x n h => ?_, cls := fun x c h => ?_, bi := fun x b h => ?_, ty := fun x t h => ?_, isi := fun x h => ?_, rng := fun x h => ?_, enm := fun x h => ?_, zip := fun x h => ?_, fl := fun f s h => ?_, mb := fun m b h => ?_, init := rfl, kws := rfl, mks := o.mks_all }
  · have e := C1 h
    simp only [glB] at e
    cases q : PySem.W.nsIn K mainGlobals x with
    | none => rw [q] at e; cases e
    | some v =>
      rw [q] at e
      cases v with
      | none => cases e
      | some u =>
        obtain ⟨v, h1, h2⟩ := relD_ok (g := o.gs K) d u e
        exact ⟨u, PySem.W.mg_of X G q, v, h1, h2⟩
  · obtain ⟨e1, e2⟩ := He.ba (C1 h)
    exact ⟨PySem.W.mg_of X G (He.eqO_ok e1), e2⟩
  · exact PySem.W.mg_of X G (He.eqO_ok (C1 h))
  · obtain ⟨e1, e2⟩ := He.ba (S1 h)
    exact ⟨none_ (C1 h), of_decide_eq_true e1, isN_not e2⟩
  · obtain ⟨e1, e2⟩ := He.ba (S1 h)
    exact ⟨none_ (C1 h), of_decide_eq_true e1, isN_not e2⟩
  · exact ⟨of_decide_eq_true (S1 h), none_ (C1 h)⟩
  · exact ⟨of_decide_eq_true (S1 h), none_ (C1 h)⟩
  · exact ⟨of_decide_eq_true (S1 h), none_ (C1 h)⟩
  · exact ⟨of_decide_eq_true (S1 h), none_ (C1 h)⟩
  · exact of_decide_eq_true (List.all_eq_true.mp s2 (f, s) (lookup_mem h))
  · exact of_decide_eq_true (List.all_eq_true.mp s3 (m, b) (lookup_mem h))
end Mi
set_option maxRecDepth 100000
set_option maxHeartbeats 2000000
/-! H3: defs, the Hook, the world. -/
namespace Mi
open PySem PySem.Spec PyProof.Rows L2
/-- what the text of a def shows -/
structure DeOk (o : Wo) (n : Nat) (d : De) : Prop where
  sc : FnScope d.N d.ps d.scope
  b : ∀ (kV doc pm : Value) (an : Option Addr) (cdv ct : Value) (us : List Value), us.length = d.ps.length → bindArgs (PySem.W.fnOf d.name d.qual d.params d.body d.scope .none kV doc pm an cdv ct) { pos := us } = pure (d.ps.zip us)
  kw : ∀ z ∈ o.kwl, z.1 = n → ∀ (kV doc pm : Value) (an : Option Addr) (cdv ct : Value) (us ws : List Value), us.length = z.2.1 → ws.length = z.2.2.1.length →
    bindArgs (PySem.W.fnOf d.name d.qual d.params d.body d.scope .none kV doc pm an cdv ct) { pos := us, kw := (z.2.2.1.map PySem.Str.ofString).zip ws } = pure (d.ps.zip (permV .none z.2.2.2 (us ++ ws)))
def fnAt (K : PySem.W.Frag) (a : Addr) : He.FnW := match K.lookup a with
  | some ⟨_, _, .func fd, _⟩ => some (fd.name, fd.qualname, fd.params, fd.body, fd.scope, fd.globals, fd.closure, fd.builtins)
  | _ => none
def De.val (d : De) : He.FnW := some (d.name, d.qual, d.params, .stmts d.body, d.scope, mainGlobals, [], builtinsNs)
def De.okB (K : PySem.W.Frag) (a : Addr) (d : De) : Bool := PySem.W.keepIn K (.ref a) && (match K.lookup a with
  | some ⟨_, _, .func fd, _⟩ => PySem.W.codeIn K fd.code d.qual && He.dflB K fd.defaults []
  | _ => false)
theorem De.funD {K : PySem.W.Frag} {a : Addr} {d : De} (e : fnAt K a = d.val) (c : d.okB K a = true) : ∃ fd, FunD K d.name d.qual d.params d.body d.scope [] [] a fd := by
  obtain ⟨kp, c2⟩ := He.ba c
  unfold fnAt at e
  cases q : K.lookup a with
  | none =>
    rw [q] at c2
    cases c2
  | some o =>
    obtain ⟨oc, od, dt, osl⟩ := o
    rw [q] at c2 e
    cases dt with
    | func fd =>
      obtain ⟨n1, n2, n3, n4, n5, n6, n7, n8, n9, n10, n11, n12, n13, n14, n15⟩ := fd
      have e2 : (some (n1, n2, n3, n4, n5, n6, n7, n15) : He.FnW) = some (d.name, d.qual, d.params, .stmts d.body, d.scope, mainGlobals, [], builtinsNs) := e
      simp only [Option.some.injEq, Prod.mk.injEq] at e2
      obtain ⟨h1, h2, h3, h4, h5, h6, h7, h8⟩ := e2
      subst h1 h2 h3 h4 h5 h6 h7 h8
      obtain ⟨k1, k2⟩ := He.ba (show (PySem.W.codeIn K n13 d.qual && He.dflB K n8 []) = true from c2)
      exact ⟨_, ⟨oc, od, n8, n9, n10, n11, n12, n13, n14, osl, rfl, q, k1, He.dflB_ok k2, .inl rfl⟩, kp⟩
    | _ => cases c2
abbrev AlM : Type := Bool × List He.FnW
def Wo.obs (o : Wo) (K : PySem.W.Frag) : AlM := (o.staB K && (o.tabB K && o.defs.all fun z => z.2.okB K (o.ad K z.1)), o.defs.map fun z => fnAt K (o.ad K z.1))
def Wo.val (o : Wo) : AlM := (true, o.defs.map fun z => z.2.val)
def Wo.says (o : Wo) (K : PySem.W.Frag) : Prop := o.obs K = o.val
def Wo.obsG (o : Wo) (n : Nat) (g : Addr → Option Obj) : AlM := o.obs (He.frG g (He.asD g n))
def Wo.hook (o : Wo) (n : Nat) : PySem.W.Hook where
  α := AlM
  obs := fun s => o.obsG n s.heap.get?
  val := fun _ => o.val
  says := fun _ h => ∃ K : PySem.W.Frag, K.In h ∧ o.says K
  of := fun _ _ e => ⟨_, He.frG_in, e⟩
  keeps := fun _ _ _ ⟨K, hK, c⟩ k => ⟨K, PySem.W.Frag.In.keeps hK k, c⟩
theorem Wo.obsG_eq {o : Wo} {n : Nat} {g : Addr → Option Obj} {s : Shared} (h : ∀ a, g a = s.heap.get? a) : o.obsG n g = (o.hook n).obs s := by
  have e : g = s.heap.get? := funext h
  rw [e] <;> rfl
theorem Wo.world {o : Wo} {P0 : Program} {w : World} {K : PySem.W.Frag} {mg : PySem.Str → Option Value} {h base : Heap} (X : K.In h) (G : h.Ns mainGlobals mg) (s : o.tabS = true) (ds : ∀ z ∈ o.defs, DeOk o z.1 z.2) (c : o.says K) : World0 P0 w K mg base (o.gs K) o.prg o.pt o.fu := by
  have c1 : (o.staB K && (o.tabB K && o.defs.all fun z => z.2.okB K (o.ad K z.1))) = true := congrArg (fun z : AlM => z.1) c
  obtain ⟨c1, c2⟩ := He.ba c1
  obtain ⟨c2, c3⟩ := He.ba c2
  have c4 : o.defs.map (fun z => fnAt K (o.ad K z.1)) = o.defs.map fun z => z.2.val := congrArg (fun z : AlM => z.2) c
  refine ⟨rfl, Wo.sta c1, fun n f hf => ?_, Wo.tab X G s c2⟩
  obtain ⟨z, hz, e⟩ := List.exists_of_findSome?_eq_some hf
  split at e
  · rename_i q
    cases e
    subst q
    have D := ds z hz
    have e1 : fnAt K (o.ad K z.1) = z.2.val := by
      have := List.map_inj_left.mp c4 z hz
      exact this
    obtain ⟨fd, F⟩ := De.funD e1 (List.all_eq_true.mp c3 z hz)
    refine ⟨_, _, _, _, _, fd, z.2.N, z.2.ps, F, D.sc, rfl, rfl, rfl, F.bindsN D.b, fun m ks perm hp s us ws hK l1 l2 => ?_⟩
    obtain ⟨y, hy, ey⟩ := List.exists_of_findSome?_eq_some hp
    split at ey
    · rename_i q
      cases ey
      obtain ⟨q1, rfl, rfl⟩ := q
      obtain ⟨oc, od, dV, kV, doc, pm, an, cdv, ct, osl, rfl, lk, hcd, hD, hK⟩ := F.ex
      rcases hD with ⟨_, rfl⟩ | ⟨e, _⟩
      · exact .of_eq (D.kw y hy q1 kV doc pm an cdv ct us ws l1 l2)
      · exact absurd rfl e
    · cases ey
  · cases e
end Mi
set_option maxRecDepth 100000
set_option maxHeartbeats 2000000
/-! H4: the law. -/
namespace Mi
open PySem PySem.Spec PyProof.Rows L2
theorem Sta.nil {g : Gs} {a : Addr} {H : Hp} {xs : List V} {ds : List D} (hO : Only H) (hS : SqL g.K H a xs) (rv : RVs g ⟨fun _ => a, [.fls ds], H⟩ ds xs) : Ok g ⟨fun _ => a, [.fls ds], H⟩ := by
  refine ⟨fun n o h => ?_, fun n m h => ?_⟩
  · cases n with
    | zero =>
      cases h
      refine ⟨xs, ?_, rv⟩
      rcases hS with (h | h) | h
      · rcases hO a with z | ⟨o, ys, z⟩
        · rw [h] at z; cases z
        · rw [h] at z; cases z
      · exact .inl h
      · exact .inr h
    | succ n => cases h
  · cases n with
    | zero => cases h
    | succ n => cases h
theorem rvs_ints {g : Gs} {p : Pl} : ∀ ns : List Int, RVs g p (ns.map D.int) (ns.map V.int)
  | [] => by simp only [List.map_nil, RVs]
  | i :: r => by
    simp only [List.map_cons, RVs]
    exact ⟨_, _, rfl, by simp only [RV], rvs_ints r⟩
/-- one def at a level: what the interpreter says, the model does -/
theorem fnM_at {P0 : Program} {w : World} {K : PySem.W.Frag} {mg : PySem.Str → Option Value} {base : Heap} {g : Gs} {P : Prg} {pt : Pt} {fu n : Nat} {x qual : PySem.Str} {params : Arguments} {body0 : List Stmt} {scope : Scope} {fd : FuncData} {N ps : List PySem.Str} {f : Fn} (Wd : World0 P0 w K mg base g P pt fu) (hf : P.fn n = some f)
    (F : FunD K x qual params body0 scope [] [] (g.ad n) fd) (S : FnScope N ps scope) (h1 : f.np = ps.length) (h2 : f.nl = N.length) (h3 : f.body = trS.ssOf (trS pt fu { N := N, sc := scope, cs := scope }) body0) (k : Nat) :
    FnM P0 w K mg base (rm (k + 1)) (g.ad n) fd ps (spM g (callN P (k + 1) n)) := by
  have ih := fns_all Wd k
  have len : ∀ vs H Q E, spM g (callN P (k + 1) n) vs H Q E → vs.length = ps.length := fun vs H Q E h => by
    obtain ⟨p, ds, _, _, rv, h⟩ := h
    rw [← rv.len, ← h1]
    by_cases hl : ds.length = f.np
    · exact hl
    · have e : callN P (k + 1) n ds p.S = .bad := by
        show (match P.fn n with | some f => runFn P (callN P k) f ds p.S | none => .bad) = .bad
        rw [hf]
        show (if ds.length = f.np then _ else R.bad) = R.bad
        rw [if_neg hl]
      rw [e] at h
      exact False.elim h
  obtain ⟨oc, od, dV, kV, doc, pm, an, cdv, ct, osl, e, lk, hcd, _, _⟩ := F.ex
  subst e
  refine fnM_of (k := 4 * k + 5) lk hcd S len fun A outer s H vs Q E hr hgd h => ?_
  obtain ⟨p, ds, rfl, ok, rv, h⟩ := h
  have At0 : AtS (cxOf (L2N.CX P0 w) P0 w K mg base N qual scope (g.ad n) cdv A outer s p.H E) g P k (fun cls d _ H => E cls d H) := {
    hK := Wd.hK
    Z := Wd.Z
    Fs := ih
    room := hr
    gd := hgd
    tk := L2N.takes_of rfl rfl rfl rfl
    calm := rfl
    nd := S.nd
    po := passes_of rfl }
  have SX0 : SX (cxOf (L2N.CX P0 w) P0 w K mg base N qual scope (g.ad n) cdv A outer s p.H E) { N := N, sc := scope, cs := scope } := ⟨rfl, rfl, fun _ _ => rfl⟩
  have body := ssOf_ok (W := fun cls d _ H => E cls d H) (trS pt fu { N := N, sc := scope, cs := scope }) (trS_ok fu _ _ _ SX0 At0 Wd.tab) body0
  refine ⟨_, body, ?_⟩
  have hl : ds.length = f.np := by
    rw [rv.len, h1]
    exact len vs p.H Q E ⟨p, ds, rfl, ok, rv, h⟩
  have e : callN P (k + 1) n ds p.S = (evSs P (callN P k) f.body (ds.map some ++ List.replicate (f.nl - f.np) none) p.S).fin := by
    show (match P.fn n with | some f => runFn P (callN P k) f ds p.S | none => .bad) = _
    rw [hf]
    show (if ds.length = f.np then _ else R.bad) = _
    rw [if_pos hl]
  rw [e, h3] at h
  refine ⟨p, _, rfl, ok, RE.start rv N (f.nl - f.np) (by rw [h2, ← hl, rv.len]), ?_⟩
  cases hm : evSs P (callN P k) (trS.ssOf (trS pt fu { N := N, sc := scope, cs := scope }) body0) (ds.map some ++ List.replicate (f.nl - f.np) none) p.S with
  | bad => rw [hm] at h; exact h
  | exc x S' => rw [hm] at h; exact h
  | ok o S' =>
    rw [hm] at h
    cases o with
    | next env => exact fun q e n o σ re => h q e n o _ rfl
    | ret d => exact fun q e n o v hv => h q e n o v hv
    | brk env => exact False.elim h
    | cont env => exact False.elim h
    | exn x env => exact fun q e n o σ re cls dd rx => h q cls dd e n o rx
/-- what the pure part shows of a law: it answers True -/
def LawOk (P : Prg) (n k most : Nat) : Prop := ∀ ns : List Int, ns.length ≤ most → ∃ S, callN P k n [.loc 0] [.fls (ns.map D.int)] = .ok (.bl true) S
theorem Wo.law {o : Wo} {P0 : Program} {w : World} {h : Heap} {mg : PySem.Str → Option Value} {fa : Addr} {x : PySem.Str} {n k most : Nat} {d : De} (G : h.Ns mainGlobals mg) (Y : (∃ K : PySem.W.Frag, K.In h ∧ o.says K)) (s : o.tabS = true) (ds : ∀ z ∈ o.defs, DeOk o z.1 z.2) (i : Nat) (hd : o.defs[i]? = some (n, d)) (hf : o.prg.fn n = some (d.fn o.pt o.fu)) (hps : d.ps = [x])
    (hfa : mg d.name = some (.ref fa)) (hgl : o.gl.lookup d.name = some (.fn n)) (L : LawOk o.prg n (k + 1) most) :
    ∃ K fd sp, PySem.W.Frag.In K h ∧ (∀ (s : Shared) (u : Value), BindsTo s fd { pos := [u] } [(x, u)]) ∧ (∀ (H : Hp) (a : Addr) (ns : List Int), ns.length ≤ most → Only H → SqL K H a (ns.map V.int) → sp [.ref a] H (fun v _ => v = .bl true) fun _ _ _ => False) ∧
      ∀ base : Heap, K.In base → base.Ns mainGlobals mg → FnM P0 w K mg base (rm (k + 1)) fa fd [x] sp := by
  obtain ⟨K, KX, c⟩ := Y
  have W0 := fun base : Heap => Wo.world (P0 := P0) (w := w) (base := base) KX G s ds c
  have mem : (n, d) ∈ o.defs := List.mem_of_getElem? hd
  have DO := ds _ mem
  have c1 : (o.staB K && (o.tabB K && o.defs.all fun z => z.2.okB K (o.ad K z.1))) = true := congrArg (fun z : AlM => z.1) c
  obtain ⟨c1, c2⟩ := He.ba c1
  obtain ⟨c2, c3⟩ := He.ba c2
  have c4 : o.defs.map (fun z => fnAt K (o.ad K z.1)) = o.defs.map fun z => z.2.val := congrArg (fun z : AlM => z.2) c
  have e1 : fnAt K (o.ad K n) = d.val := List.map_inj_left.mp c4 _ mem
  obtain ⟨fd, F⟩ := De.funD e1 (List.all_eq_true.mp c3 _ mem)
  have ea := hfa.symm.trans ((W0 h).tab.fn _ _ hgl).1
  cases ea
  have b := FunD.bindsA F DO.b
  refine ⟨K, fd, spM (o.gs K) (callN o.prg (k + 1) n), KX, fun s u => ?_, fun H a ns hl hO hS => ?_, fun base hb hns => ?_⟩
  · have := b s [u] (by rw [hps]; rfl)
    rw [hps] at this
    exact this
  · obtain ⟨S, e⟩ := L ns hl
    refine ⟨⟨fun _ => a, [.fls (ns.map D.int)], H⟩, [.loc 0], rfl, Sta.nil (g := o.gs K) hO hS (rvs_ints ns), by simp only [RVs]; exact ⟨_, _, rfl, by simp only [RV]; exact ⟨by simp, trivial⟩, rfl⟩, ?_⟩
    show Post _ _ _ (callN o.prg (k + 1) n [.loc 0] [.fls (ns.map D.int)]) _
    rw [e]
    intro q _ _ _ v hv
    simp only [RV] at hv
    exact hv
  · have := fnM_at (W0 base) hf F DO.sc rfl rfl rfl k
    rw [hps] at this
    exact this
end Mi
set_option maxRecDepth 100000
set_option maxHeartbeats 0
namespace Mi.L
open PySem PySem.Spec PyProof.Rows L2
def top (i : Nat) : Stmt := PySem.Challenge.pw_cornerhall_k39_whole_rows_by_answers.main.body.getD i (.Pass ⟨0, 0, 0, 0⟩)
def inC (s : Stmt) (j : Nat) : Stmt := match s with | .ClassDef _ _ _ b _ _ _ _ _ _ _ => b.getD j (.Pass ⟨0, 0, 0, 0⟩) | _ => .Pass ⟨0, 0, 0, 0⟩
def de0 : De := ⟨"is_whole", "is_whole", defArgs (top 20), defBody (top 20), defScope (top 20), ["value"], ["value"]⟩
def de1 : De := ⟨"is_integer", "is_integer", defArgs (top 21), defBody (top 21), defScope (top 21), ["value", "least", "greatest"], ["value", "least", "greatest"]⟩
def de2 : De := ⟨"is_name", "is_name", defArgs (top 22), defBody (top 22), defScope (top 22), ["value", "sign"], ["value"]⟩
def de3 : De := ⟨"is_tuple_of", "is_tuple_of", defArgs (top 23), defBody (top 23), defScope (top 23), ["value", "many"], ["value", "many"]⟩
def de4 : De := ⟨"common", "common", defArgs (top 25), defBody (top 25), defScope (top 25), ["one", "other"], ["one", "other"]⟩
def de5 : De := ⟨"lowest", "lowest", defArgs (top 26), defBody (top 26), defScope (top 26), ["top", "bottom", "shared"], ["top", "bottom"]⟩
def de6 : De := ⟨"plus", "plus", defArgs (top 27), defBody (top 27), defScope (top 27), ["one", "other"], ["one", "other"]⟩
def de7 : De := ⟨"times", "times", defArgs (top 28), defBody (top 28), defScope (top 28), ["one", "other"], ["one", "other"]⟩
def de8 : De := ⟨"is_above", "is_above", defArgs (top 29), defBody (top 29), defScope (top 29), ["one", "other"], ["one", "other"]⟩
def de9 : De := ⟨"is_fraction", "is_fraction", defArgs (top 31), defBody (top 31), defScope (top 31), ["value"], ["value"]⟩
def de10 : De := ⟨"is_stretch", "is_stretch", defArgs (top 32), defBody (top 32), defScope (top 32), ["value", "least", "greatest", "end"], ["value", "least", "greatest"]⟩
def de11 : De := ⟨"is_end_stretch", "is_end_stretch", defArgs (top 37), defBody (top 37), defScope (top 37), ["value"], ["value"]⟩
def de12 : De := ⟨"check_columns", "check_columns", defArgs (top 38), defBody (top 38), defScope (top 38), ["value", "index", "name"], ["value"]⟩
def de13 : De := ⟨"is_row", "is_row", defArgs (top 39), defBody (top 39), defScope (top 39), ["value", "many", "names", "each"], ["value", "many", "names"]⟩
def de14 : De := ⟨"check_rows", "check_rows", defArgs (top 40), defBody (top 40), defScope (top 40), ["many", "value", "index", "row", "each"], ["many", "value"]⟩
def de15 : De := ⟨"__init__", "Table.__init__", defArgs (inC (top 43) 0), defBody (inC (top 43) 0), defScope (inC (top 43) 0), ["self", "columns", "rows"], ["self", "columns", "rows"]⟩
def de16 : De := ⟨"columns", "Table.columns", defArgs (inC (top 43) 2), defBody (inC (top 43) 2), defScope (inC (top 43) 2), ["self"], ["self"]⟩
def de17 : De := ⟨"rows", "Table.rows", defArgs (inC (top 43) 3), defBody (inC (top 43) 3), defScope (inC (top 43) 3), ["self"], ["self"]⟩
def de18 : De := ⟨"__len__", "Table.__len__", defArgs (inC (top 43) 5), defBody (inC (top 43) 5), defScope (inC (top 43) 5), ["self"], ["self"]⟩
def de19 : De := ⟨"check_table", "check_table", defArgs (top 45), defBody (top 45), defScope (top 45), ["value"], ["value"]⟩
def de20 : De := ⟨"check_bounds", "check_bounds", defArgs (top 49), defBody (top 49), defScope (top 49), ["table", "value", "each"], ["table", "value"]⟩
def de21 : De := ⟨"is_answer", "is_answer", defArgs (top 50), defBody (top 50), defScope (top 50), ["table", "value", "part"], ["table", "value"]⟩
def de22 : De := ⟨"check_answer", "check_answer", defArgs (top 51), defBody (top 51), defScope (top 51), ["table", "value"], ["table", "value"]⟩
def de23 : De := ⟨"ends_with", "ends_with", defArgs (top 52), defBody (top 52), defScope (top 52), ["stretches", "answer", "least", "most", "part", "low", "high", "one", "other"], ["stretches", "answer"]⟩
def de24 : De := ⟨"all_row_ends", "all_row_ends", defArgs (top 53), defBody (top 53), defScope (top 53), ["table", "answer", "name", "stretches"], ["table", "answer"]⟩
def de25 : De := ⟨"is_sure_for", "is_sure_for", defArgs (top 54), defBody (top 54), defScope (top 54), ["table", "bounds", "answer", "ends", "least", "most", "low", "high"], ["table", "bounds", "answer"]⟩
def de26 : De := ⟨"is_possible_for", "is_possible_for", defArgs (top 55), defBody (top 55), defScope (top 55), ["table", "bounds", "answer", "ends", "least", "most", "low", "high"], ["table", "bounds", "answer"]⟩
def de27 : De := ⟨"check_question", "check_question", defArgs (top 56), defBody (top 56), defScope (top 56), ["table", "bounds"], ["table", "bounds"]⟩
def de28 : De := ⟨"row_ends", "row_ends", defArgs (top 57), defBody (top 57), defScope (top 57), ["table", "answer"], ["table", "answer"]⟩
def de29 : De := ⟨"is_sure_answer", "is_sure_answer", defArgs (top 58), defBody (top 58), defScope (top 58), ["table", "bounds", "answer"], ["table", "bounds", "answer"]⟩
def de30 : De := ⟨"is_possible_answer", "is_possible_answer", defArgs (top 59), defBody (top 59), defScope (top 59), ["table", "bounds", "answer"], ["table", "bounds", "answer"]⟩
def de31 : De := ⟨"_law_pail", "_law_pail", defArgs (top 61), defBody (top 61), defScope (top 61), ["script", "turn", "mixed", "each", "own", "held"], ["script", "turn"]⟩
def de32 : De := ⟨"_law_dip", "_law_dip", defArgs (top 62), defBody (top 62), defScope (top 62), ["pail", "size", "more", "digit"], ["pail", "size"]⟩
def de33 : De := ⟨"_law_any", "_law_any", defArgs (top 63), defBody (top 63), defScope (top 63), ["pail", "some"], ["pail", "some"]⟩
def de34 : De := ⟨"_law_stretch", "_law_stretch", defArgs (top 64), defBody (top 64), defScope (top 64), ["pail", "wide", "low"], ["pail", "wide"]⟩
def de35 : De := ⟨"_law_sheet", "_law_sheet", defArgs (top 65), defBody (top 65), defScope (top 65), ["pail", "columns_most", "rows_most", "titles", "found", "k", "title"], ["pail", "columns_most", "rows_most"]⟩
def de36 : De := ⟨"_law_limits", "_law_limits", defArgs (top 66), defBody (top 66), defScope (top 66), ["pail", "sheet", "found", "row"], ["pail", "sheet"]⟩
def de37 : De := ⟨"_law_part", "_law_part", defArgs (top 67), defBody (top 67), defScope (top 67), ["top", "bottom", "turn", "one", "other"], ["top", "bottom"]⟩
def de38 : De := ⟨"_law_plus", "_law_plus", defArgs (top 68), defBody (top 68), defScope (top 68), ["one", "two"], ["one", "two"]⟩
def de39 : De := ⟨"_law_sums", "_law_sums", defArgs (top 69), defBody (top 69), defScope (top 69), ["stretches", "shares", "found", "stretch", "share", "later", "each", "number"], ["stretches", "shares"]⟩
def de40 : De := ⟨"_law_least", "_law_least", defArgs (top 70), defBody (top 70), defScope (top 70), ["some", "found", "each"], ["some"]⟩
def de41 : De := ⟨"_law_once_right", "_law_once_right", defArgs (top 71), defBody (top 71), defScope (top 71), ["pail", "sheet", "limits_here", "shares", "k", "told", "far", "due", "is_sure", "is_some", "some", "low", "high", "title", "each"], ["pail"]⟩
def de42 : De := ⟨"_law_right", "_law_right", defArgs (top 72), defBody (top 72), defScope (top 72), ["pail"], ["pail"]⟩
def de43 : De := ⟨"law", "law", defArgs (top 73), defBody (top 73), defScope (top 73), ["script", "turn"], ["script"]⟩
def o : Wo where
  ads := [.glo "is_whole", .glo "is_integer", .glo "is_name", .glo "is_tuple_of", .glo "common", .glo "lowest", .glo "plus", .glo "times", .glo "is_above", .glo "is_fraction", .glo "is_stretch", .glo "is_end_stretch", .glo "check_columns", .glo "is_row", .glo "check_rows", .meth "Table" "__init__", .prop "Table" "columns", .prop "Table" "rows", .meth "Table" "__len__", .glo "check_table", .glo "check_bounds", .glo "is_answer", .glo "check_answer", .glo "ends_with", .glo "all_row_ends", .glo "is_sure_for", .glo "is_possible_for", .glo "check_question", .glo "row_ends", .glo "is_sure_answer", .glo "is_possible_answer", .glo "_law_pail", .glo "_law_dip", .glo "_law_any", .glo "_law_stretch", .glo "_law_sheet", .glo "_law_limits", .glo "_law_part", .glo "_law_plus", .glo "_law_sums", .glo "_law_least", .glo "_law_once_right", .glo "_law_right", .glo "law", .glo "Table"]
  defs := [(0, de0), (1, de1), (2, de2), (3, de3), (4, de4), (5, de5), (6, de6), (7, de7), (8, de8), (9, de9), (10, de10), (11, de11), (12, de12), (13, de13), (14, de14), (15, de15), (16, de16), (17, de17), (18, de18), (19, de19), (20, de20), (21, de21), (22, de22), (23, de23), (24, de24), (25, de25), (26, de26), (27, de27), (28, de28), (29, de29), (30, de30), (31, de31), (32, de32), (33, de33), (34, de34), (35, de35), (36, de36), (37, de37), (38, de38), (39, de39), (40, de40), (41, de41), (42, de42), (43, de43)]
  meths := [(44, "__len__", 18)]
  flds := [(44, "heads"), (44, "lines")]
  props := [(44, "columns", 16), (44, "rows", 17)]
  inits := [(44, 15)]
  asks := [(.inl "int", .int, true), (.inl "int", .bool, false), (.inl "int", .str, false), (.inl "int", .tuple, false), (.inl "int", .list, false), (.inl "int", .dict, false), (.inl "bool", .int, true), (.inl "bool", .bool, true), (.inl "bool", .str, false), (.inl "bool", .tuple, false), (.inl "bool", .list, false), (.inl "bool", .dict, false), (.inl "str", .int, false), (.inl "str", .bool, false), (.inl "str", .str, true), (.inl "str", .tuple, false), (.inl "str", .list, false), (.inl "str", .dict, false), (.inl "tuple", .int, false), (.inl "tuple", .bool, false), (.inl "tuple", .str, false), (.inl "tuple", .tuple, true), (.inl "tuple", .list, false), (.inl "tuple", .dict, false), (.inl "list", .int, false), (.inl "list", .bool, false), (.inl "list", .str, false), (.inl "list", .tuple, false), (.inl "list", .list, true), (.inl "list", .dict, false), (.inl "dict", .int, false), (.inl "dict", .bool, false), (.inl "dict", .str, false), (.inl "dict", .tuple, false), (.inl "dict", .list, false), (.inl "dict", .dict, true), (.inr 44, .int, false), (.inr 44, .bool, false), (.inr 44, .str, false), (.inr 44, .tuple, false), (.inr 44, .list, false), (.inr 44, .dict, false), (.inl "int", .own 44, false), (.inl "bool", .own 44, false), (.inl "str", .own 44, false), (.inl "tuple", .own 44, false), (.inl "list", .own 44, false), (.inl "dict", .own 44, false), (.inr 44, .own 44, true)]
  gl := [((PySem.Str.ofString "is_whole"), Gv.fn 0), ((PySem.Str.ofString "is_integer"), Gv.fn 1), ((PySem.Str.ofString "is_name"), Gv.fn 2), ((PySem.Str.ofString "is_tuple_of"), Gv.fn 3), ((PySem.Str.ofString "common"), Gv.fn 4), ((PySem.Str.ofString "lowest"), Gv.fn 5), ((PySem.Str.ofString "plus"), Gv.fn 6), ((PySem.Str.ofString "times"), Gv.fn 7), ((PySem.Str.ofString "is_above"), Gv.fn 8), ((PySem.Str.ofString "is_fraction"), Gv.fn 9), ((PySem.Str.ofString "is_stretch"), Gv.fn 10), ((PySem.Str.ofString "is_end_stretch"), Gv.fn 11), ((PySem.Str.ofString "check_columns"), Gv.fn 12), ((PySem.Str.ofString "is_row"), Gv.fn 13), ((PySem.Str.ofString "check_rows"), Gv.fn 14), ((PySem.Str.ofString "check_table"), Gv.fn 19), ((PySem.Str.ofString "check_bounds"), Gv.fn 20), ((PySem.Str.ofString "is_answer"), Gv.fn 21), ((PySem.Str.ofString "check_answer"), Gv.fn 22), ((PySem.Str.ofString "ends_with"), Gv.fn 23), ((PySem.Str.ofString "all_row_ends"), Gv.fn 24), ((PySem.Str.ofString "is_sure_for"), Gv.fn 25), ((PySem.Str.ofString "is_possible_for"), Gv.fn 26), ((PySem.Str.ofString "check_question"), Gv.fn 27), ((PySem.Str.ofString "row_ends"), Gv.fn 28), ((PySem.Str.ofString "is_sure_answer"), Gv.fn 29), ((PySem.Str.ofString "is_possible_answer"), Gv.fn 30), ((PySem.Str.ofString "_law_pail"), Gv.fn 31), ((PySem.Str.ofString "_law_dip"), Gv.fn 32), ((PySem.Str.ofString "_law_any"), Gv.fn 33), ((PySem.Str.ofString "_law_stretch"), Gv.fn 34), ((PySem.Str.ofString "_law_sheet"), Gv.fn 35), ((PySem.Str.ofString "_law_limits"), Gv.fn 36), ((PySem.Str.ofString "_law_part"), Gv.fn 37), ((PySem.Str.ofString "_law_plus"), Gv.fn 38), ((PySem.Str.ofString "_law_sums"), Gv.fn 39), ((PySem.Str.ofString "_law_least"), Gv.fn 40), ((PySem.Str.ofString "_law_once_right"), Gv.fn 41), ((PySem.Str.ofString "_law_right"), Gv.fn 42), ((PySem.Str.ofString "law"), Gv.fn 43), ((PySem.Str.ofString "Table"), Gv.cls 44), ((PySem.Str.ofString "LETTERS"), Gv.con (.str [97, 98, 99, 100, 101, 102, 103, 104, 105, 106, 107, 108, 109, 110, 111, 112, 113, 114, 115, 116, 117, 118, 119, 120, 121, 122])), ((PySem.Str.ofString "LONGEST_NAME"), Gv.con (.int (8))), ((PySem.Str.ofString "MOST_COLUMNS"), Gv.con (.int (4))), ((PySem.Str.ofString "MOST_END"), Gv.con (.int (10000))), ((PySem.Str.ofString "MOST_ROWS"), Gv.con (.int (8))), ((PySem.Str.ofString "ZERO"), Gv.con (.tup [.int (0), .int (1)])), ((PySem.Str.ofString "len"), Gv.bi .len), ((PySem.Str.ofString "abs"), Gv.bi .abs), ((PySem.Str.ofString "all"), Gv.bi .all), ((PySem.Str.ofString "any"), Gv.bi .any), ((PySem.Str.ofString "repr"), Gv.bi .repr), ((PySem.Str.ofString "divmod"), Gv.bi .divmod), ((PySem.Str.ofString "int"), Gv.ty .int), ((PySem.Str.ofString "bool"), Gv.ty .bool), ((PySem.Str.ofString "str"), Gv.ty .str), ((PySem.Str.ofString "tuple"), Gv.ty .tuple), ((PySem.Str.ofString "isinstance"), Gv.isi), ((PySem.Str.ofString "range"), Gv.rng), ((PySem.Str.ofString "enumerate"), Gv.enm), ((PySem.Str.ofString "zip"), Gv.zipp)]
  fl := [((PySem.Str.ofString "answer"), "answer"), ((PySem.Str.ofString "bounds"), "bounds"), ((PySem.Str.ofString "columns"), "columns"), ((PySem.Str.ofString "given"), "given"), ((PySem.Str.ofString "heads"), "heads"), ((PySem.Str.ofString "lines"), "lines"), ((PySem.Str.ofString "rows"), "rows"), ((PySem.Str.ofString "table"), "table")]
  mb := [("append", .append), ("index", .index)]
  kwl := [(30, 0, ["answer", "bounds", "table"], [2, 1, 0]), (29, 0, ["answer", "bounds", "table"], [2, 1, 0]), (28, 0, ["answer", "table"], [1, 0])]
  fu := 60
theorem sc0 : FnScope de0.N de0.ps de0.scope := ⟨rfl, rfl, rfl, by decide +kernel, rfl, by decide +kernel, by decide +kernel⟩
theorem kw0 : ∀ z ∈ o.kwl, z.1 = 0 → ∀ (kV doc pm : Value) (an : Option Addr) (cdv ct : Value) (us ws : List Value), us.length = z.2.1 → ws.length = z.2.2.1.length → bindArgs (PySem.W.fnOf de0.name de0.qual de0.params de0.body de0.scope .none kV doc pm an cdv ct) { pos := us, kw := (z.2.2.1.map PySem.Str.ofString).zip ws } = pure (de0.ps.zip (permV .none z.2.2.2 (us ++ ws))) := by
  intro z hz
  simp only [o, List.mem_cons, List.mem_nil_iff, or_false] at hz
  rcases hz with rfl | rfl | rfl
  · intro h; cases h
  · intro h; cases h
  · intro h; cases h
theorem ok0 : DeOk o 0 de0 := {
  sc := sc0
  b := fun _ _ _ _ _ _ us hl => match us, hl with | [_], _ => rfl
  kw := kw0 }
theorem sc1 : FnScope de1.N de1.ps de1.scope := ⟨rfl, rfl, rfl, by decide +kernel, rfl, by decide +kernel, by decide +kernel⟩
theorem kw1 : ∀ z ∈ o.kwl, z.1 = 1 → ∀ (kV doc pm : Value) (an : Option Addr) (cdv ct : Value) (us ws : List Value), us.length = z.2.1 → ws.length = z.2.2.1.length → bindArgs (PySem.W.fnOf de1.name de1.qual de1.params de1.body de1.scope .none kV doc pm an cdv ct) { pos := us, kw := (z.2.2.1.map PySem.Str.ofString).zip ws } = pure (de1.ps.zip (permV .none z.2.2.2 (us ++ ws))) := by
  intro z hz
  simp only [o, List.mem_cons, List.mem_nil_iff, or_false] at hz
  rcases hz with rfl | rfl | rfl
  · intro h; cases h
  · intro h; cases h
  · intro h; cases h
theorem ok1 : DeOk o 1 de1 := {
  sc := sc1
  b := fun _ _ _ _ _ _ us hl => match us, hl with | [_, _, _], _ => rfl
  kw := kw1 }
theorem sc2 : FnScope de2.N de2.ps de2.scope := ⟨rfl, rfl, rfl, by decide +kernel, rfl, by decide +kernel, by decide +kernel⟩
theorem kw2 : ∀ z ∈ o.kwl, z.1 = 2 → ∀ (kV doc pm : Value) (an : Option Addr) (cdv ct : Value) (us ws : List Value), us.length = z.2.1 → ws.length = z.2.2.1.length → bindArgs (PySem.W.fnOf de2.name de2.qual de2.params de2.body de2.scope .none kV doc pm an cdv ct) { pos := us, kw := (z.2.2.1.map PySem.Str.ofString).zip ws } = pure (de2.ps.zip (permV .none z.2.2.2 (us ++ ws))) := by
  intro z hz
  simp only [o, List.mem_cons, List.mem_nil_iff, or_false] at hz
  rcases hz with rfl | rfl | rfl
  · intro h; cases h
  · intro h; cases h
  · intro h; cases h
theorem ok2 : DeOk o 2 de2 := {
  sc := sc2
  b := fun _ _ _ _ _ _ us hl => match us, hl with | [_], _ => rfl
  kw := kw2 }
theorem sc3 : FnScope de3.N de3.ps de3.scope := ⟨rfl, rfl, rfl, by decide +kernel, rfl, by decide +kernel, by decide +kernel⟩
theorem kw3 : ∀ z ∈ o.kwl, z.1 = 3 → ∀ (kV doc pm : Value) (an : Option Addr) (cdv ct : Value) (us ws : List Value), us.length = z.2.1 → ws.length = z.2.2.1.length → bindArgs (PySem.W.fnOf de3.name de3.qual de3.params de3.body de3.scope .none kV doc pm an cdv ct) { pos := us, kw := (z.2.2.1.map PySem.Str.ofString).zip ws } = pure (de3.ps.zip (permV .none z.2.2.2 (us ++ ws))) := by
  intro z hz
  simp only [o, List.mem_cons, List.mem_nil_iff, or_false] at hz
  rcases hz with rfl | rfl | rfl
  · intro h; cases h
  · intro h; cases h
  · intro h; cases h
theorem ok3 : DeOk o 3 de3 := {
  sc := sc3
  b := fun _ _ _ _ _ _ us hl => match us, hl with | [_, _], _ => rfl
  kw := kw3 }
theorem sc4 : FnScope de4.N de4.ps de4.scope := ⟨rfl, rfl, rfl, by decide +kernel, rfl, by decide +kernel, by decide +kernel⟩
theorem kw4 : ∀ z ∈ o.kwl, z.1 = 4 → ∀ (kV doc pm : Value) (an : Option Addr) (cdv ct : Value) (us ws : List Value), us.length = z.2.1 → ws.length = z.2.2.1.length → bindArgs (PySem.W.fnOf de4.name de4.qual de4.params de4.body de4.scope .none kV doc pm an cdv ct) { pos := us, kw := (z.2.2.1.map PySem.Str.ofString).zip ws } = pure (de4.ps.zip (permV .none z.2.2.2 (us ++ ws))) := by
  intro z hz
  simp only [o, List.mem_cons, List.mem_nil_iff, or_false] at hz
  rcases hz with rfl | rfl | rfl
  · intro h; cases h
  · intro h; cases h
  · intro h; cases h
theorem ok4 : DeOk o 4 de4 := {
  sc := sc4
  b := fun _ _ _ _ _ _ us hl => match us, hl with | [_, _], _ => rfl
  kw := kw4 }
theorem sc5 : FnScope de5.N de5.ps de5.scope := ⟨rfl, rfl, rfl, by decide +kernel, rfl, by decide +kernel, by decide +kernel⟩
theorem kw5 : ∀ z ∈ o.kwl, z.1 = 5 → ∀ (kV doc pm : Value) (an : Option Addr) (cdv ct : Value) (us ws : List Value), us.length = z.2.1 → ws.length = z.2.2.1.length → bindArgs (PySem.W.fnOf de5.name de5.qual de5.params de5.body de5.scope .none kV doc pm an cdv ct) { pos := us, kw := (z.2.2.1.map PySem.Str.ofString).zip ws } = pure (de5.ps.zip (permV .none z.2.2.2 (us ++ ws))) := by
  intro z hz
  simp only [o, List.mem_cons, List.mem_nil_iff, or_false] at hz
  rcases hz with rfl | rfl | rfl
  · intro h; cases h
  · intro h; cases h
  · intro h; cases h
theorem ok5 : DeOk o 5 de5 := {
  sc := sc5
  b := fun _ _ _ _ _ _ us hl => match us, hl with | [_, _], _ => rfl
  kw := kw5 }
theorem sc6 : FnScope de6.N de6.ps de6.scope := ⟨rfl, rfl, rfl, by decide +kernel, rfl, by decide +kernel, by decide +kernel⟩
theorem kw6 : ∀ z ∈ o.kwl, z.1 = 6 → ∀ (kV doc pm : Value) (an : Option Addr) (cdv ct : Value) (us ws : List Value), us.length = z.2.1 → ws.length = z.2.2.1.length → bindArgs (PySem.W.fnOf de6.name de6.qual de6.params de6.body de6.scope .none kV doc pm an cdv ct) { pos := us, kw := (z.2.2.1.map PySem.Str.ofString).zip ws } = pure (de6.ps.zip (permV .none z.2.2.2 (us ++ ws))) := by
  intro z hz
  simp only [o, List.mem_cons, List.mem_nil_iff, or_false] at hz
  rcases hz with rfl | rfl | rfl
  · intro h; cases h
  · intro h; cases h
  · intro h; cases h
theorem ok6 : DeOk o 6 de6 := {
  sc := sc6
  b := fun _ _ _ _ _ _ us hl => match us, hl with | [_, _], _ => rfl
  kw := kw6 }
theorem sc7 : FnScope de7.N de7.ps de7.scope := ⟨rfl, rfl, rfl, by decide +kernel, rfl, by decide +kernel, by decide +kernel⟩
theorem kw7 : ∀ z ∈ o.kwl, z.1 = 7 → ∀ (kV doc pm : Value) (an : Option Addr) (cdv ct : Value) (us ws : List Value), us.length = z.2.1 → ws.length = z.2.2.1.length → bindArgs (PySem.W.fnOf de7.name de7.qual de7.params de7.body de7.scope .none kV doc pm an cdv ct) { pos := us, kw := (z.2.2.1.map PySem.Str.ofString).zip ws } = pure (de7.ps.zip (permV .none z.2.2.2 (us ++ ws))) := by
  intro z hz
  simp only [o, List.mem_cons, List.mem_nil_iff, or_false] at hz
  rcases hz with rfl | rfl | rfl
  · intro h; cases h
  · intro h; cases h
  · intro h; cases h
theorem ok7 : DeOk o 7 de7 := {
  sc := sc7
  b := fun _ _ _ _ _ _ us hl => match us, hl with | [_, _], _ => rfl
  kw := kw7 }
theorem sc8 : FnScope de8.N de8.ps de8.scope := ⟨rfl, rfl, rfl, by decide +kernel, rfl, by decide +kernel, by decide +kernel⟩
theorem kw8 : ∀ z ∈ o.kwl, z.1 = 8 → ∀ (kV doc pm : Value) (an : Option Addr) (cdv ct : Value) (us ws : List Value), us.length = z.2.1 → ws.length = z.2.2.1.length → bindArgs (PySem.W.fnOf de8.name de8.qual de8.params de8.body de8.scope .none kV doc pm an cdv ct) { pos := us, kw := (z.2.2.1.map PySem.Str.ofString).zip ws } = pure (de8.ps.zip (permV .none z.2.2.2 (us ++ ws))) := by
  intro z hz
  simp only [o, List.mem_cons, List.mem_nil_iff, or_false] at hz
  rcases hz with rfl | rfl | rfl
  · intro h; cases h
  · intro h; cases h
  · intro h; cases h
theorem ok8 : DeOk o 8 de8 := {
  sc := sc8
  b := fun _ _ _ _ _ _ us hl => match us, hl with | [_, _], _ => rfl
  kw := kw8 }
theorem sc9 : FnScope de9.N de9.ps de9.scope := ⟨rfl, rfl, rfl, by decide +kernel, rfl, by decide +kernel, by decide +kernel⟩
theorem kw9 : ∀ z ∈ o.kwl, z.1 = 9 → ∀ (kV doc pm : Value) (an : Option Addr) (cdv ct : Value) (us ws : List Value), us.length = z.2.1 → ws.length = z.2.2.1.length → bindArgs (PySem.W.fnOf de9.name de9.qual de9.params de9.body de9.scope .none kV doc pm an cdv ct) { pos := us, kw := (z.2.2.1.map PySem.Str.ofString).zip ws } = pure (de9.ps.zip (permV .none z.2.2.2 (us ++ ws))) := by
  intro z hz
  simp only [o, List.mem_cons, List.mem_nil_iff, or_false] at hz
  rcases hz with rfl | rfl | rfl
  · intro h; cases h
  · intro h; cases h
  · intro h; cases h
theorem ok9 : DeOk o 9 de9 := {
  sc := sc9
  b := fun _ _ _ _ _ _ us hl => match us, hl with | [_], _ => rfl
  kw := kw9 }
theorem sc10 : FnScope de10.N de10.ps de10.scope := ⟨rfl, rfl, rfl, by decide +kernel, rfl, by decide +kernel, by decide +kernel⟩
theorem kw10 : ∀ z ∈ o.kwl, z.1 = 10 → ∀ (kV doc pm : Value) (an : Option Addr) (cdv ct : Value) (us ws : List Value), us.length = z.2.1 → ws.length = z.2.2.1.length → bindArgs (PySem.W.fnOf de10.name de10.qual de10.params de10.body de10.scope .none kV doc pm an cdv ct) { pos := us, kw := (z.2.2.1.map PySem.Str.ofString).zip ws } = pure (de10.ps.zip (permV .none z.2.2.2 (us ++ ws))) := by
  intro z hz
  simp only [o, List.mem_cons, List.mem_nil_iff, or_false] at hz
  rcases hz with rfl | rfl | rfl
  · intro h; cases h
  · intro h; cases h
  · intro h; cases h
theorem ok10 : DeOk o 10 de10 := {
  sc := sc10
  b := fun _ _ _ _ _ _ us hl => match us, hl with | [_, _, _], _ => rfl
  kw := kw10 }
theorem sc11 : FnScope de11.N de11.ps de11.scope := ⟨rfl, rfl, rfl, by decide +kernel, rfl, by decide +kernel, by decide +kernel⟩
theorem kw11 : ∀ z ∈ o.kwl, z.1 = 11 → ∀ (kV doc pm : Value) (an : Option Addr) (cdv ct : Value) (us ws : List Value), us.length = z.2.1 → ws.length = z.2.2.1.length → bindArgs (PySem.W.fnOf de11.name de11.qual de11.params de11.body de11.scope .none kV doc pm an cdv ct) { pos := us, kw := (z.2.2.1.map PySem.Str.ofString).zip ws } = pure (de11.ps.zip (permV .none z.2.2.2 (us ++ ws))) := by
  intro z hz
  simp only [o, List.mem_cons, List.mem_nil_iff, or_false] at hz
  rcases hz with rfl | rfl | rfl
  · intro h; cases h
  · intro h; cases h
  · intro h; cases h
theorem ok11 : DeOk o 11 de11 := {
  sc := sc11
  b := fun _ _ _ _ _ _ us hl => match us, hl with | [_], _ => rfl
  kw := kw11 }
theorem sc12 : FnScope de12.N de12.ps de12.scope := ⟨rfl, rfl, rfl, by decide +kernel, rfl, by decide +kernel, by decide +kernel⟩
theorem kw12 : ∀ z ∈ o.kwl, z.1 = 12 → ∀ (kV doc pm : Value) (an : Option Addr) (cdv ct : Value) (us ws : List Value), us.length = z.2.1 → ws.length = z.2.2.1.length → bindArgs (PySem.W.fnOf de12.name de12.qual de12.params de12.body de12.scope .none kV doc pm an cdv ct) { pos := us, kw := (z.2.2.1.map PySem.Str.ofString).zip ws } = pure (de12.ps.zip (permV .none z.2.2.2 (us ++ ws))) := by
  intro z hz
  simp only [o, List.mem_cons, List.mem_nil_iff, or_false] at hz
  rcases hz with rfl | rfl | rfl
  · intro h; cases h
  · intro h; cases h
  · intro h; cases h
theorem ok12 : DeOk o 12 de12 := {
  sc := sc12
  b := fun _ _ _ _ _ _ us hl => match us, hl with | [_], _ => rfl
  kw := kw12 }
theorem sc13 : FnScope de13.N de13.ps de13.scope := ⟨rfl, rfl, rfl, by decide +kernel, rfl, by decide +kernel, by decide +kernel⟩
theorem kw13 : ∀ z ∈ o.kwl, z.1 = 13 → ∀ (kV doc pm : Value) (an : Option Addr) (cdv ct : Value) (us ws : List Value), us.length = z.2.1 → ws.length = z.2.2.1.length → bindArgs (PySem.W.fnOf de13.name de13.qual de13.params de13.body de13.scope .none kV doc pm an cdv ct) { pos := us, kw := (z.2.2.1.map PySem.Str.ofString).zip ws } = pure (de13.ps.zip (permV .none z.2.2.2 (us ++ ws))) := by
  intro z hz
  simp only [o, List.mem_cons, List.mem_nil_iff, or_false] at hz
  rcases hz with rfl | rfl | rfl
  · intro h; cases h
  · intro h; cases h
  · intro h; cases h
theorem ok13 : DeOk o 13 de13 := {
  sc := sc13
  b := fun _ _ _ _ _ _ us hl => match us, hl with | [_, _, _], _ => rfl
  kw := kw13 }
theorem sc14 : FnScope de14.N de14.ps de14.scope := ⟨rfl, rfl, rfl, by decide +kernel, rfl, by decide +kernel, by decide +kernel⟩
theorem kw14 : ∀ z ∈ o.kwl, z.1 = 14 → ∀ (kV doc pm : Value) (an : Option Addr) (cdv ct : Value) (us ws : List Value), us.length = z.2.1 → ws.length = z.2.2.1.length → bindArgs (PySem.W.fnOf de14.name de14.qual de14.params de14.body de14.scope .none kV doc pm an cdv ct) { pos := us, kw := (z.2.2.1.map PySem.Str.ofString).zip ws } = pure (de14.ps.zip (permV .none z.2.2.2 (us ++ ws))) := by
  intro z hz
  simp only [o, List.mem_cons, List.mem_nil_iff, or_false] at hz
  rcases hz with rfl | rfl | rfl
  · intro h; cases h
  · intro h; cases h
  · intro h; cases h
theorem ok14 : DeOk o 14 de14 := {
  sc := sc14
  b := fun _ _ _ _ _ _ us hl => match us, hl with | [_, _], _ => rfl
  kw := kw14 }
theorem sc15 : FnScope de15.N de15.ps de15.scope := ⟨rfl, rfl, rfl, by decide +kernel, rfl, by decide +kernel, by decide +kernel⟩
theorem kw15 : ∀ z ∈ o.kwl, z.1 = 15 → ∀ (kV doc pm : Value) (an : Option Addr) (cdv ct : Value) (us ws : List Value), us.length = z.2.1 → ws.length = z.2.2.1.length → bindArgs (PySem.W.fnOf de15.name de15.qual de15.params de15.body de15.scope .none kV doc pm an cdv ct) { pos := us, kw := (z.2.2.1.map PySem.Str.ofString).zip ws } = pure (de15.ps.zip (permV .none z.2.2.2 (us ++ ws))) := by
  intro z hz
  simp only [o, List.mem_cons, List.mem_nil_iff, or_false] at hz
  rcases hz with rfl | rfl | rfl
  · intro h; cases h
  · intro h; cases h
  · intro h; cases h
theorem ok15 : DeOk o 15 de15 := {
  sc := sc15
  b := fun _ _ _ _ _ _ us hl => match us, hl with | [_, _, _], _ => rfl
  kw := kw15 }
theorem sc16 : FnScope de16.N de16.ps de16.scope := ⟨rfl, rfl, rfl, by decide +kernel, rfl, by decide +kernel, by decide +kernel⟩
theorem kw16 : ∀ z ∈ o.kwl, z.1 = 16 → ∀ (kV doc pm : Value) (an : Option Addr) (cdv ct : Value) (us ws : List Value), us.length = z.2.1 → ws.length = z.2.2.1.length → bindArgs (PySem.W.fnOf de16.name de16.qual de16.params de16.body de16.scope .none kV doc pm an cdv ct) { pos := us, kw := (z.2.2.1.map PySem.Str.ofString).zip ws } = pure (de16.ps.zip (permV .none z.2.2.2 (us ++ ws))) := by
  intro z hz
  simp only [o, List.mem_cons, List.mem_nil_iff, or_false] at hz
  rcases hz with rfl | rfl | rfl
  · intro h; cases h
  · intro h; cases h
  · intro h; cases h
theorem ok16 : DeOk o 16 de16 := {
  sc := sc16
  b := fun _ _ _ _ _ _ us hl => match us, hl with | [_], _ => rfl
  kw := kw16 }
theorem sc17 : FnScope de17.N de17.ps de17.scope := ⟨rfl, rfl, rfl, by decide +kernel, rfl, by decide +kernel, by decide +kernel⟩
theorem kw17 : ∀ z ∈ o.kwl, z.1 = 17 → ∀ (kV doc pm : Value) (an : Option Addr) (cdv ct : Value) (us ws : List Value), us.length = z.2.1 → ws.length = z.2.2.1.length → bindArgs (PySem.W.fnOf de17.name de17.qual de17.params de17.body de17.scope .none kV doc pm an cdv ct) { pos := us, kw := (z.2.2.1.map PySem.Str.ofString).zip ws } = pure (de17.ps.zip (permV .none z.2.2.2 (us ++ ws))) := by
  intro z hz
  simp only [o, List.mem_cons, List.mem_nil_iff, or_false] at hz
  rcases hz with rfl | rfl | rfl
  · intro h; cases h
  · intro h; cases h
  · intro h; cases h
theorem ok17 : DeOk o 17 de17 := {
  sc := sc17
  b := fun _ _ _ _ _ _ us hl => match us, hl with | [_], _ => rfl
  kw := kw17 }
theorem sc18 : FnScope de18.N de18.ps de18.scope := ⟨rfl, rfl, rfl, by decide +kernel, rfl, by decide +kernel, by decide +kernel⟩
theorem kw18 : ∀ z ∈ o.kwl, z.1 = 18 → ∀ (kV doc pm : Value) (an : Option Addr) (cdv ct : Value) (us ws : List Value), us.length = z.2.1 → ws.length = z.2.2.1.length → bindArgs (PySem.W.fnOf de18.name de18.qual de18.params de18.body de18.scope .none kV doc pm an cdv ct) { pos := us, kw := (z.2.2.1.map PySem.Str.ofString).zip ws } = pure (de18.ps.zip (permV .none z.2.2.2 (us ++ ws))) := by
  intro z hz
  simp only [o, List.mem_cons, List.mem_nil_iff, or_false] at hz
  rcases hz with rfl | rfl | rfl
  · intro h; cases h
  · intro h; cases h
  · intro h; cases h
theorem ok18 : DeOk o 18 de18 := {
  sc := sc18
  b := fun _ _ _ _ _ _ us hl => match us, hl with | [_], _ => rfl
  kw := kw18 }
theorem sc19 : FnScope de19.N de19.ps de19.scope := ⟨rfl, rfl, rfl, by decide +kernel, rfl, by decide +kernel, by decide +kernel⟩
theorem kw19 : ∀ z ∈ o.kwl, z.1 = 19 → ∀ (kV doc pm : Value) (an : Option Addr) (cdv ct : Value) (us ws : List Value), us.length = z.2.1 → ws.length = z.2.2.1.length → bindArgs (PySem.W.fnOf de19.name de19.qual de19.params de19.body de19.scope .none kV doc pm an cdv ct) { pos := us, kw := (z.2.2.1.map PySem.Str.ofString).zip ws } = pure (de19.ps.zip (permV .none z.2.2.2 (us ++ ws))) := by
  intro z hz
  simp only [o, List.mem_cons, List.mem_nil_iff, or_false] at hz
  rcases hz with rfl | rfl | rfl
  · intro h; cases h
  · intro h; cases h
  · intro h; cases h
theorem ok19 : DeOk o 19 de19 := {
  sc := sc19
  b := fun _ _ _ _ _ _ us hl => match us, hl with | [_], _ => rfl
  kw := kw19 }
theorem sc20 : FnScope de20.N de20.ps de20.scope := ⟨rfl, rfl, rfl, by decide +kernel, rfl, by decide +kernel, by decide +kernel⟩
theorem kw20 : ∀ z ∈ o.kwl, z.1 = 20 → ∀ (kV doc pm : Value) (an : Option Addr) (cdv ct : Value) (us ws : List Value), us.length = z.2.1 → ws.length = z.2.2.1.length → bindArgs (PySem.W.fnOf de20.name de20.qual de20.params de20.body de20.scope .none kV doc pm an cdv ct) { pos := us, kw := (z.2.2.1.map PySem.Str.ofString).zip ws } = pure (de20.ps.zip (permV .none z.2.2.2 (us ++ ws))) := by
  intro z hz
  simp only [o, List.mem_cons, List.mem_nil_iff, or_false] at hz
  rcases hz with rfl | rfl | rfl
  · intro h; cases h
  · intro h; cases h
  · intro h; cases h
theorem ok20 : DeOk o 20 de20 := {
  sc := sc20
  b := fun _ _ _ _ _ _ us hl => match us, hl with | [_, _], _ => rfl
  kw := kw20 }
theorem sc21 : FnScope de21.N de21.ps de21.scope := ⟨rfl, rfl, rfl, by decide +kernel, rfl, by decide +kernel, by decide +kernel⟩
theorem kw21 : ∀ z ∈ o.kwl, z.1 = 21 → ∀ (kV doc pm : Value) (an : Option Addr) (cdv ct : Value) (us ws : List Value), us.length = z.2.1 → ws.length = z.2.2.1.length → bindArgs (PySem.W.fnOf de21.name de21.qual de21.params de21.body de21.scope .none kV doc pm an cdv ct) { pos := us, kw := (z.2.2.1.map PySem.Str.ofString).zip ws } = pure (de21.ps.zip (permV .none z.2.2.2 (us ++ ws))) := by
  intro z hz
  simp only [o, List.mem_cons, List.mem_nil_iff, or_false] at hz
  rcases hz with rfl | rfl | rfl
  · intro h; cases h
  · intro h; cases h
  · intro h; cases h
theorem ok21 : DeOk o 21 de21 := {
  sc := sc21
  b := fun _ _ _ _ _ _ us hl => match us, hl with | [_, _], _ => rfl
  kw := kw21 }
theorem sc22 : FnScope de22.N de22.ps de22.scope := ⟨rfl, rfl, rfl, by decide +kernel, rfl, by decide +kernel, by decide +kernel⟩
theorem kw22 : ∀ z ∈ o.kwl, z.1 = 22 → ∀ (kV doc pm : Value) (an : Option Addr) (cdv ct : Value) (us ws : List Value), us.length = z.2.1 → ws.length = z.2.2.1.length → bindArgs (PySem.W.fnOf de22.name de22.qual de22.params de22.body de22.scope .none kV doc pm an cdv ct) { pos := us, kw := (z.2.2.1.map PySem.Str.ofString).zip ws } = pure (de22.ps.zip (permV .none z.2.2.2 (us ++ ws))) := by
  intro z hz
  simp only [o, List.mem_cons, List.mem_nil_iff, or_false] at hz
  rcases hz with rfl | rfl | rfl
  · intro h; cases h
  · intro h; cases h
  · intro h; cases h
theorem ok22 : DeOk o 22 de22 := {
  sc := sc22
  b := fun _ _ _ _ _ _ us hl => match us, hl with | [_, _], _ => rfl
  kw := kw22 }
theorem sc23 : FnScope de23.N de23.ps de23.scope := ⟨rfl, rfl, rfl, by decide +kernel, rfl, by decide +kernel, by decide +kernel⟩
theorem kw23 : ∀ z ∈ o.kwl, z.1 = 23 → ∀ (kV doc pm : Value) (an : Option Addr) (cdv ct : Value) (us ws : List Value), us.length = z.2.1 → ws.length = z.2.2.1.length → bindArgs (PySem.W.fnOf de23.name de23.qual de23.params de23.body de23.scope .none kV doc pm an cdv ct) { pos := us, kw := (z.2.2.1.map PySem.Str.ofString).zip ws } = pure (de23.ps.zip (permV .none z.2.2.2 (us ++ ws))) := by
  intro z hz
  simp only [o, List.mem_cons, List.mem_nil_iff, or_false] at hz
  rcases hz with rfl | rfl | rfl
  · intro h; cases h
  · intro h; cases h
  · intro h; cases h
theorem ok23 : DeOk o 23 de23 := {
  sc := sc23
  b := fun _ _ _ _ _ _ us hl => match us, hl with | [_, _], _ => rfl
  kw := kw23 }
theorem sc24 : FnScope de24.N de24.ps de24.scope := ⟨rfl, rfl, rfl, by decide +kernel, rfl, by decide +kernel, by decide +kernel⟩
theorem kw24 : ∀ z ∈ o.kwl, z.1 = 24 → ∀ (kV doc pm : Value) (an : Option Addr) (cdv ct : Value) (us ws : List Value), us.length = z.2.1 → ws.length = z.2.2.1.length → bindArgs (PySem.W.fnOf de24.name de24.qual de24.params de24.body de24.scope .none kV doc pm an cdv ct) { pos := us, kw := (z.2.2.1.map PySem.Str.ofString).zip ws } = pure (de24.ps.zip (permV .none z.2.2.2 (us ++ ws))) := by
  intro z hz
  simp only [o, List.mem_cons, List.mem_nil_iff, or_false] at hz
  rcases hz with rfl | rfl | rfl
  · intro h; cases h
  · intro h; cases h
  · intro h; cases h
theorem ok24 : DeOk o 24 de24 := {
  sc := sc24
  b := fun _ _ _ _ _ _ us hl => match us, hl with | [_, _], _ => rfl
  kw := kw24 }
theorem sc25 : FnScope de25.N de25.ps de25.scope := ⟨rfl, rfl, rfl, by decide +kernel, rfl, by decide +kernel, by decide +kernel⟩
theorem kw25 : ∀ z ∈ o.kwl, z.1 = 25 → ∀ (kV doc pm : Value) (an : Option Addr) (cdv ct : Value) (us ws : List Value), us.length = z.2.1 → ws.length = z.2.2.1.length → bindArgs (PySem.W.fnOf de25.name de25.qual de25.params de25.body de25.scope .none kV doc pm an cdv ct) { pos := us, kw := (z.2.2.1.map PySem.Str.ofString).zip ws } = pure (de25.ps.zip (permV .none z.2.2.2 (us ++ ws))) := by
  intro z hz
  simp only [o, List.mem_cons, List.mem_nil_iff, or_false] at hz
  rcases hz with rfl | rfl | rfl
  · intro h; cases h
  · intro h; cases h
  · intro h; cases h
theorem ok25 : DeOk o 25 de25 := {
  sc := sc25
  b := fun _ _ _ _ _ _ us hl => match us, hl with | [_, _, _], _ => rfl
  kw := kw25 }
theorem sc26 : FnScope de26.N de26.ps de26.scope := ⟨rfl, rfl, rfl, by decide +kernel, rfl, by decide +kernel, by decide +kernel⟩
theorem kw26 : ∀ z ∈ o.kwl, z.1 = 26 → ∀ (kV doc pm : Value) (an : Option Addr) (cdv ct : Value) (us ws : List Value), us.length = z.2.1 → ws.length = z.2.2.1.length → bindArgs (PySem.W.fnOf de26.name de26.qual de26.params de26.body de26.scope .none kV doc pm an cdv ct) { pos := us, kw := (z.2.2.1.map PySem.Str.ofString).zip ws } = pure (de26.ps.zip (permV .none z.2.2.2 (us ++ ws))) := by
  intro z hz
  simp only [o, List.mem_cons, List.mem_nil_iff, or_false] at hz
  rcases hz with rfl | rfl | rfl
  · intro h; cases h
  · intro h; cases h
  · intro h; cases h
theorem ok26 : DeOk o 26 de26 := {
  sc := sc26
  b := fun _ _ _ _ _ _ us hl => match us, hl with | [_, _, _], _ => rfl
  kw := kw26 }
theorem sc27 : FnScope de27.N de27.ps de27.scope := ⟨rfl, rfl, rfl, by decide +kernel, rfl, by decide +kernel, by decide +kernel⟩
theorem kw27 : ∀ z ∈ o.kwl, z.1 = 27 → ∀ (kV doc pm : Value) (an : Option Addr) (cdv ct : Value) (us ws : List Value), us.length = z.2.1 → ws.length = z.2.2.1.length → bindArgs (PySem.W.fnOf de27.name de27.qual de27.params de27.body de27.scope .none kV doc pm an cdv ct) { pos := us, kw := (z.2.2.1.map PySem.Str.ofString).zip ws } = pure (de27.ps.zip (permV .none z.2.2.2 (us ++ ws))) := by
  intro z hz
  simp only [o, List.mem_cons, List.mem_nil_iff, or_false] at hz
  rcases hz with rfl | rfl | rfl
  · intro h; cases h
  · intro h; cases h
  · intro h; cases h
theorem ok27 : DeOk o 27 de27 := {
  sc := sc27
  b := fun _ _ _ _ _ _ us hl => match us, hl with | [_, _], _ => rfl
  kw := kw27 }
theorem sc28 : FnScope de28.N de28.ps de28.scope := ⟨rfl, rfl, rfl, by decide +kernel, rfl, by decide +kernel, by decide +kernel⟩
theorem kw28 : ∀ z ∈ o.kwl, z.1 = 28 → ∀ (kV doc pm : Value) (an : Option Addr) (cdv ct : Value) (us ws : List Value), us.length = z.2.1 → ws.length = z.2.2.1.length → bindArgs (PySem.W.fnOf de28.name de28.qual de28.params de28.body de28.scope .none kV doc pm an cdv ct) { pos := us, kw := (z.2.2.1.map PySem.Str.ofString).zip ws } = pure (de28.ps.zip (permV .none z.2.2.2 (us ++ ws))) := by
  intro z hz
  simp only [o, List.mem_cons, List.mem_nil_iff, or_false] at hz
  rcases hz with rfl | rfl | rfl
  · intro h; cases h
  · intro h; cases h
  · exact fun _ _ _ _ _ _ _ us ws h1 h2 => match us, ws, h1, h2 with | [], [_, _], _, _ => rfl
theorem ok28 : DeOk o 28 de28 := {
  sc := sc28
  b := fun _ _ _ _ _ _ us hl => match us, hl with | [_, _], _ => rfl
  kw := kw28 }
theorem sc29 : FnScope de29.N de29.ps de29.scope := ⟨rfl, rfl, rfl, by decide +kernel, rfl, by decide +kernel, by decide +kernel⟩
theorem kw29 : ∀ z ∈ o.kwl, z.1 = 29 → ∀ (kV doc pm : Value) (an : Option Addr) (cdv ct : Value) (us ws : List Value), us.length = z.2.1 → ws.length = z.2.2.1.length → bindArgs (PySem.W.fnOf de29.name de29.qual de29.params de29.body de29.scope .none kV doc pm an cdv ct) { pos := us, kw := (z.2.2.1.map PySem.Str.ofString).zip ws } = pure (de29.ps.zip (permV .none z.2.2.2 (us ++ ws))) := by
  intro z hz
  simp only [o, List.mem_cons, List.mem_nil_iff, or_false] at hz
  rcases hz with rfl | rfl | rfl
  · intro h; cases h
  · exact fun _ _ _ _ _ _ _ us ws h1 h2 => match us, ws, h1, h2 with | [], [_, _, _], _, _ => rfl
  · intro h; cases h
theorem ok29 : DeOk o 29 de29 := {
  sc := sc29
  b := fun _ _ _ _ _ _ us hl => match us, hl with | [_, _, _], _ => rfl
  kw := kw29 }
theorem sc30 : FnScope de30.N de30.ps de30.scope := ⟨rfl, rfl, rfl, by decide +kernel, rfl, by decide +kernel, by decide +kernel⟩
theorem kw30 : ∀ z ∈ o.kwl, z.1 = 30 → ∀ (kV doc pm : Value) (an : Option Addr) (cdv ct : Value) (us ws : List Value), us.length = z.2.1 → ws.length = z.2.2.1.length → bindArgs (PySem.W.fnOf de30.name de30.qual de30.params de30.body de30.scope .none kV doc pm an cdv ct) { pos := us, kw := (z.2.2.1.map PySem.Str.ofString).zip ws } = pure (de30.ps.zip (permV .none z.2.2.2 (us ++ ws))) := by
  intro z hz
  simp only [o, List.mem_cons, List.mem_nil_iff, or_false] at hz
  rcases hz with rfl | rfl | rfl
  · exact fun _ _ _ _ _ _ _ us ws h1 h2 => match us, ws, h1, h2 with | [], [_, _, _], _, _ => rfl
  · intro h; cases h
  · intro h; cases h
theorem ok30 : DeOk o 30 de30 := {
  sc := sc30
  b := fun _ _ _ _ _ _ us hl => match us, hl with | [_, _, _], _ => rfl
  kw := kw30 }
theorem sc31 : FnScope de31.N de31.ps de31.scope := ⟨rfl, rfl, rfl, by decide +kernel, rfl, by decide +kernel, by decide +kernel⟩
theorem kw31 : ∀ z ∈ o.kwl, z.1 = 31 → ∀ (kV doc pm : Value) (an : Option Addr) (cdv ct : Value) (us ws : List Value), us.length = z.2.1 → ws.length = z.2.2.1.length → bindArgs (PySem.W.fnOf de31.name de31.qual de31.params de31.body de31.scope .none kV doc pm an cdv ct) { pos := us, kw := (z.2.2.1.map PySem.Str.ofString).zip ws } = pure (de31.ps.zip (permV .none z.2.2.2 (us ++ ws))) := by
  intro z hz
  simp only [o, List.mem_cons, List.mem_nil_iff, or_false] at hz
  rcases hz with rfl | rfl | rfl
  · intro h; cases h
  · intro h; cases h
  · intro h; cases h
theorem ok31 : DeOk o 31 de31 := {
  sc := sc31
  b := fun _ _ _ _ _ _ us hl => match us, hl with | [_, _], _ => rfl
  kw := kw31 }
theorem sc32 : FnScope de32.N de32.ps de32.scope := ⟨rfl, rfl, rfl, by decide +kernel, rfl, by decide +kernel, by decide +kernel⟩
theorem kw32 : ∀ z ∈ o.kwl, z.1 = 32 → ∀ (kV doc pm : Value) (an : Option Addr) (cdv ct : Value) (us ws : List Value), us.length = z.2.1 → ws.length = z.2.2.1.length → bindArgs (PySem.W.fnOf de32.name de32.qual de32.params de32.body de32.scope .none kV doc pm an cdv ct) { pos := us, kw := (z.2.2.1.map PySem.Str.ofString).zip ws } = pure (de32.ps.zip (permV .none z.2.2.2 (us ++ ws))) := by
  intro z hz
  simp only [o, List.mem_cons, List.mem_nil_iff, or_false] at hz
  rcases hz with rfl | rfl | rfl
  · intro h; cases h
  · intro h; cases h
  · intro h; cases h
theorem ok32 : DeOk o 32 de32 := {
  sc := sc32
  b := fun _ _ _ _ _ _ us hl => match us, hl with | [_, _], _ => rfl
  kw := kw32 }
theorem sc33 : FnScope de33.N de33.ps de33.scope := ⟨rfl, rfl, rfl, by decide +kernel, rfl, by decide +kernel, by decide +kernel⟩
theorem kw33 : ∀ z ∈ o.kwl, z.1 = 33 → ∀ (kV doc pm : Value) (an : Option Addr) (cdv ct : Value) (us ws : List Value), us.length = z.2.1 → ws.length = z.2.2.1.length → bindArgs (PySem.W.fnOf de33.name de33.qual de33.params de33.body de33.scope .none kV doc pm an cdv ct) { pos := us, kw := (z.2.2.1.map PySem.Str.ofString).zip ws } = pure (de33.ps.zip (permV .none z.2.2.2 (us ++ ws))) := by
  intro z hz
  simp only [o, List.mem_cons, List.mem_nil_iff, or_false] at hz
  rcases hz with rfl | rfl | rfl
  · intro h; cases h
  · intro h; cases h
  · intro h; cases h
theorem ok33 : DeOk o 33 de33 := {
  sc := sc33
  b := fun _ _ _ _ _ _ us hl => match us, hl with | [_, _], _ => rfl
  kw := kw33 }
theorem sc34 : FnScope de34.N de34.ps de34.scope := ⟨rfl, rfl, rfl, by decide +kernel, rfl, by decide +kernel, by decide +kernel⟩
theorem kw34 : ∀ z ∈ o.kwl, z.1 = 34 → ∀ (kV doc pm : Value) (an : Option Addr) (cdv ct : Value) (us ws : List Value), us.length = z.2.1 → ws.length = z.2.2.1.length → bindArgs (PySem.W.fnOf de34.name de34.qual de34.params de34.body de34.scope .none kV doc pm an cdv ct) { pos := us, kw := (z.2.2.1.map PySem.Str.ofString).zip ws } = pure (de34.ps.zip (permV .none z.2.2.2 (us ++ ws))) := by
  intro z hz
  simp only [o, List.mem_cons, List.mem_nil_iff, or_false] at hz
  rcases hz with rfl | rfl | rfl
  · intro h; cases h
  · intro h; cases h
  · intro h; cases h
theorem ok34 : DeOk o 34 de34 := {
  sc := sc34
  b := fun _ _ _ _ _ _ us hl => match us, hl with | [_, _], _ => rfl
  kw := kw34 }
theorem sc35 : FnScope de35.N de35.ps de35.scope := ⟨rfl, rfl, rfl, by decide +kernel, rfl, by decide +kernel, by decide +kernel⟩
theorem kw35 : ∀ z ∈ o.kwl, z.1 = 35 → ∀ (kV doc pm : Value) (an : Option Addr) (cdv ct : Value) (us ws : List Value), us.length = z.2.1 → ws.length = z.2.2.1.length → bindArgs (PySem.W.fnOf de35.name de35.qual de35.params de35.body de35.scope .none kV doc pm an cdv ct) { pos := us, kw := (z.2.2.1.map PySem.Str.ofString).zip ws } = pure (de35.ps.zip (permV .none z.2.2.2 (us ++ ws))) := by
  intro z hz
  simp only [o, List.mem_cons, List.mem_nil_iff, or_false] at hz
  rcases hz with rfl | rfl | rfl
  · intro h; cases h
  · intro h; cases h
  · intro h; cases h
theorem ok35 : DeOk o 35 de35 := {
  sc := sc35
  b := fun _ _ _ _ _ _ us hl => match us, hl with | [_, _, _], _ => rfl
  kw := kw35 }
theorem sc36 : FnScope de36.N de36.ps de36.scope := ⟨rfl, rfl, rfl, by decide +kernel, rfl, by decide +kernel, by decide +kernel⟩
theorem kw36 : ∀ z ∈ o.kwl, z.1 = 36 → ∀ (kV doc pm : Value) (an : Option Addr) (cdv ct : Value) (us ws : List Value), us.length = z.2.1 → ws.length = z.2.2.1.length → bindArgs (PySem.W.fnOf de36.name de36.qual de36.params de36.body de36.scope .none kV doc pm an cdv ct) { pos := us, kw := (z.2.2.1.map PySem.Str.ofString).zip ws } = pure (de36.ps.zip (permV .none z.2.2.2 (us ++ ws))) := by
  intro z hz
  simp only [o, List.mem_cons, List.mem_nil_iff, or_false] at hz
  rcases hz with rfl | rfl | rfl
  · intro h; cases h
  · intro h; cases h
  · intro h; cases h
theorem ok36 : DeOk o 36 de36 := {
  sc := sc36
  b := fun _ _ _ _ _ _ us hl => match us, hl with | [_, _], _ => rfl
  kw := kw36 }
theorem sc37 : FnScope de37.N de37.ps de37.scope := ⟨rfl, rfl, rfl, by decide +kernel, rfl, by decide +kernel, by decide +kernel⟩
theorem kw37 : ∀ z ∈ o.kwl, z.1 = 37 → ∀ (kV doc pm : Value) (an : Option Addr) (cdv ct : Value) (us ws : List Value), us.length = z.2.1 → ws.length = z.2.2.1.length → bindArgs (PySem.W.fnOf de37.name de37.qual de37.params de37.body de37.scope .none kV doc pm an cdv ct) { pos := us, kw := (z.2.2.1.map PySem.Str.ofString).zip ws } = pure (de37.ps.zip (permV .none z.2.2.2 (us ++ ws))) := by
  intro z hz
  simp only [o, List.mem_cons, List.mem_nil_iff, or_false] at hz
  rcases hz with rfl | rfl | rfl
  · intro h; cases h
  · intro h; cases h
  · intro h; cases h
theorem ok37 : DeOk o 37 de37 := {
  sc := sc37
  b := fun _ _ _ _ _ _ us hl => match us, hl with | [_, _], _ => rfl
  kw := kw37 }
theorem sc38 : FnScope de38.N de38.ps de38.scope := ⟨rfl, rfl, rfl, by decide +kernel, rfl, by decide +kernel, by decide +kernel⟩
theorem kw38 : ∀ z ∈ o.kwl, z.1 = 38 → ∀ (kV doc pm : Value) (an : Option Addr) (cdv ct : Value) (us ws : List Value), us.length = z.2.1 → ws.length = z.2.2.1.length → bindArgs (PySem.W.fnOf de38.name de38.qual de38.params de38.body de38.scope .none kV doc pm an cdv ct) { pos := us, kw := (z.2.2.1.map PySem.Str.ofString).zip ws } = pure (de38.ps.zip (permV .none z.2.2.2 (us ++ ws))) := by
  intro z hz
  simp only [o, List.mem_cons, List.mem_nil_iff, or_false] at hz
  rcases hz with rfl | rfl | rfl
  · intro h; cases h
  · intro h; cases h
  · intro h; cases h
theorem ok38 : DeOk o 38 de38 := {
  sc := sc38
  b := fun _ _ _ _ _ _ us hl => match us, hl with | [_, _], _ => rfl
  kw := kw38 }
theorem sc39 : FnScope de39.N de39.ps de39.scope := ⟨rfl, rfl, rfl, by decide +kernel, rfl, by decide +kernel, by decide +kernel⟩
theorem kw39 : ∀ z ∈ o.kwl, z.1 = 39 → ∀ (kV doc pm : Value) (an : Option Addr) (cdv ct : Value) (us ws : List Value), us.length = z.2.1 → ws.length = z.2.2.1.length → bindArgs (PySem.W.fnOf de39.name de39.qual de39.params de39.body de39.scope .none kV doc pm an cdv ct) { pos := us, kw := (z.2.2.1.map PySem.Str.ofString).zip ws } = pure (de39.ps.zip (permV .none z.2.2.2 (us ++ ws))) := by
  intro z hz
  simp only [o, List.mem_cons, List.mem_nil_iff, or_false] at hz
  rcases hz with rfl | rfl | rfl
  · intro h; cases h
  · intro h; cases h
  · intro h; cases h
theorem ok39 : DeOk o 39 de39 := {
  sc := sc39
  b := fun _ _ _ _ _ _ us hl => match us, hl with | [_, _], _ => rfl
  kw := kw39 }
theorem sc40 : FnScope de40.N de40.ps de40.scope := ⟨rfl, rfl, rfl, by decide +kernel, rfl, by decide +kernel, by decide +kernel⟩
theorem kw40 : ∀ z ∈ o.kwl, z.1 = 40 → ∀ (kV doc pm : Value) (an : Option Addr) (cdv ct : Value) (us ws : List Value), us.length = z.2.1 → ws.length = z.2.2.1.length → bindArgs (PySem.W.fnOf de40.name de40.qual de40.params de40.body de40.scope .none kV doc pm an cdv ct) { pos := us, kw := (z.2.2.1.map PySem.Str.ofString).zip ws } = pure (de40.ps.zip (permV .none z.2.2.2 (us ++ ws))) := by
  intro z hz
  simp only [o, List.mem_cons, List.mem_nil_iff, or_false] at hz
  rcases hz with rfl | rfl | rfl
  · intro h; cases h
  · intro h; cases h
  · intro h; cases h
theorem ok40 : DeOk o 40 de40 := {
  sc := sc40
  b := fun _ _ _ _ _ _ us hl => match us, hl with | [_], _ => rfl
  kw := kw40 }
theorem sc41 : FnScope de41.N de41.ps de41.scope := ⟨rfl, rfl, rfl, by decide +kernel, rfl, by decide +kernel, by decide +kernel⟩
theorem kw41 : ∀ z ∈ o.kwl, z.1 = 41 → ∀ (kV doc pm : Value) (an : Option Addr) (cdv ct : Value) (us ws : List Value), us.length = z.2.1 → ws.length = z.2.2.1.length → bindArgs (PySem.W.fnOf de41.name de41.qual de41.params de41.body de41.scope .none kV doc pm an cdv ct) { pos := us, kw := (z.2.2.1.map PySem.Str.ofString).zip ws } = pure (de41.ps.zip (permV .none z.2.2.2 (us ++ ws))) := by
  intro z hz
  simp only [o, List.mem_cons, List.mem_nil_iff, or_false] at hz
  rcases hz with rfl | rfl | rfl
  · intro h; cases h
  · intro h; cases h
  · intro h; cases h
theorem ok41 : DeOk o 41 de41 := {
  sc := sc41
  b := fun _ _ _ _ _ _ us hl => match us, hl with | [_], _ => rfl
  kw := kw41 }
theorem sc42 : FnScope de42.N de42.ps de42.scope := ⟨rfl, rfl, rfl, by decide +kernel, rfl, by decide +kernel, by decide +kernel⟩
theorem kw42 : ∀ z ∈ o.kwl, z.1 = 42 → ∀ (kV doc pm : Value) (an : Option Addr) (cdv ct : Value) (us ws : List Value), us.length = z.2.1 → ws.length = z.2.2.1.length → bindArgs (PySem.W.fnOf de42.name de42.qual de42.params de42.body de42.scope .none kV doc pm an cdv ct) { pos := us, kw := (z.2.2.1.map PySem.Str.ofString).zip ws } = pure (de42.ps.zip (permV .none z.2.2.2 (us ++ ws))) := by
  intro z hz
  simp only [o, List.mem_cons, List.mem_nil_iff, or_false] at hz
  rcases hz with rfl | rfl | rfl
  · intro h; cases h
  · intro h; cases h
  · intro h; cases h
theorem ok42 : DeOk o 42 de42 := {
  sc := sc42
  b := fun _ _ _ _ _ _ us hl => match us, hl with | [_], _ => rfl
  kw := kw42 }
theorem sc43 : FnScope de43.N de43.ps de43.scope := ⟨rfl, rfl, rfl, by decide +kernel, rfl, by decide +kernel, by decide +kernel⟩
theorem kw43 : ∀ z ∈ o.kwl, z.1 = 43 → ∀ (kV doc pm : Value) (an : Option Addr) (cdv ct : Value) (us ws : List Value), us.length = z.2.1 → ws.length = z.2.2.1.length → bindArgs (PySem.W.fnOf de43.name de43.qual de43.params de43.body de43.scope .none kV doc pm an cdv ct) { pos := us, kw := (z.2.2.1.map PySem.Str.ofString).zip ws } = pure (de43.ps.zip (permV .none z.2.2.2 (us ++ ws))) := by
  intro z hz
  simp only [o, List.mem_cons, List.mem_nil_iff, or_false] at hz
  rcases hz with rfl | rfl | rfl
  · intro h; cases h
  · intro h; cases h
  · intro h; cases h
theorem ok43 : DeOk o 43 de43 := {
  sc := sc43
  b := fun _ _ _ _ _ _ us hl => match us, hl with | [_], _ => rfl
  kw := kw43 }
theorem dsOk : ∀ z ∈ o.defs, DeOk o z.1 z.2 := fun z hz => by
  simp only [o, List.mem_cons, List.mem_nil_iff, or_false] at hz
  rcases hz with rfl | rfl | rfl | rfl | rfl | rfl | rfl | rfl | rfl | rfl | rfl | rfl | rfl | rfl | rfl | rfl | rfl | rfl | rfl | rfl | rfl | rfl | rfl | rfl | rfl | rfl | rfl | rfl | rfl | rfl | rfl | rfl | rfl | rfl | rfl | rfl | rfl | rfl | rfl | rfl | rfl | rfl | rfl | rfl
  · exact ok0
  · exact ok1
  · exact ok2
  · exact ok3
  · exact ok4
  · exact ok5
  · exact ok6
  · exact ok7
  · exact ok8
  · exact ok9
  · exact ok10
  · exact ok11
  · exact ok12
  · exact ok13
  · exact ok14
  · exact ok15
  · exact ok16
  · exact ok17
  · exact ok18
  · exact ok19
  · exact ok20
  · exact ok21
  · exact ok22
  · exact ok23
  · exact ok24
  · exact ok25
  · exact ok26
  · exact ok27
  · exact ok28
  · exact ok29
  · exact ok30
  · exact ok31
  · exact ok32
  · exact ok33
  · exact ok34
  · exact ok35
  · exact ok36
  · exact ok37
  · exact ok38
  · exact ok39
  · exact ok40
  · exact ok41
  · exact ok42
  · exact ok43
theorem tabS : o.tabS = true := by decide +kernel
end Mi.L
set_option maxRecDepth 100000
set_option maxHeartbeats 0
namespace Mi.L
open PySem PySem.Spec PyProof.Rows L2
abbrev R : PySem.W.OpenRow := PySem.W.OpenLaw.row PySem.Challenge.rw_cornerhall_k39_whole_rows_by_answers
abbrev hk : PySem.W.Hook := o.hook 5
def ob (s : PySem.W.SharedT) : AlM := o.obsG 5 (HandSHeadRun.getT s)
theorem ob_eq (s : PySem.W.SharedT) : ob s = hk.obs s.abs := Wo.obsG_eq (HandSHeadRun.getT_eq s)
def loose : List PySem.Str := ([PySem.Str.ofString "_wall", PySem.Str.ofString "WrongValue", PySem.Str.ofString "WrongName", PySem.Str.ofString "NotPossible", PySem.Str.ofString "InvalidText", PySem.Str.ofString "InvalidColumn", PySem.Str.ofString "InvalidBounds", PySem.Str.ofString "InvalidAnswer", PySem.Str.ofString "NotATable", PySem.Str.ofString "InvalidColumns", PySem.Str.ofString "InvalidRows", PySem.Str.ofString "UnknownName", PySem.Str.ofString "TooFew", PySem.Str.ofString "LETTERS", PySem.Str.ofString "DIGITS", PySem.Str.ofString "LONGEST_NAME", PySem.Str.ofString "LONGEST_NUMBER", PySem.Str.ofString "ZERO", PySem.Str.ofString "is_whole", PySem.Str.ofString "is_integer", PySem.Str.ofString "is_name", PySem.Str.ofString "is_tuple_of", PySem.Str.ofString "written", PySem.Str.ofString "common", PySem.Str.ofString "lowest", PySem.Str.ofString "plus", PySem.Str.ofString "times", PySem.Str.ofString "is_above", PySem.Str.ofString "signed", PySem.Str.ofString "is_fraction", PySem.Str.ofString "is_stretch", PySem.Str.ofString "MOST_END", PySem.Str.ofString "MOST_COLUMNS", PySem.Str.ofString "MOST_ROWS", PySem.Str.ofString "is_end_stretch", PySem.Str.ofString "check_columns", PySem.Str.ofString "is_row", PySem.Str.ofString "check_rows", PySem.Str.ofString "row_told", PySem.Str.ofString "table_told"] : List PySem.Str) ++ ([PySem.Str.ofString "Table", PySem.Str.ofString "stretch_at", PySem.Str.ofString "check_table", PySem.Str.ofString "check_name", PySem.Str.ofString "check_column", PySem.Str.ofString "check_bounds", PySem.Str.ofString "is_answer", PySem.Str.ofString "check_answer", PySem.Str.ofString "ends_with", PySem.Str.ofString "all_row_ends", PySem.Str.ofString "is_sure_for", PySem.Str.ofString "is_possible_for", PySem.Str.ofString "check_question", PySem.Str.ofString "row_ends", PySem.Str.ofString "is_sure_answer", PySem.Str.ofString "is_possible_answer", PySem.Str.ofString "_law_pail", PySem.Str.ofString "_law_dip", PySem.Str.ofString "_law_any", PySem.Str.ofString "_law_stretch", PySem.Str.ofString "_law_sheet", PySem.Str.ofString "_law_limits", PySem.Str.ofString "_law_part", PySem.Str.ofString "_law_plus", PySem.Str.ofString "_law_sums", PySem.Str.ofString "_law_least", PySem.Str.ofString "_law_once_right", PySem.Str.ofString "_law_right"] : List PySem.Str)
theorem run (w : World) : HandSHeadRun.RunEq R (PySem.W.view R.prog [73]) hk ob 40000 loose w := by
  intro os
  kernel_rfl
end Mi.L
set_option maxRecDepth 100000
namespace Mk
open Mi Mv
/-- is_whole -/
def f0 : Fn := ⟨1, 1, (.cons (.ret (.andE (.bi (.isinst [.int]) (.cons (.var 0) .nil)) (.notE (.bi (.isinst [.bool]) (.cons (.var 0) .nil))))) .nil)⟩
/-- is_integer -/
def f1 : Fn := ⟨3, 3, (.cons (.ret (.andE (.call 0 [] (.cons (.var 0) .nil)) (.cmp2 .le .le (.var 1) (.var 0) (.var 2)))) .nil)⟩
def f2C1 : E := (.lc (.cmp .inn (.var 1) (.con (.str [97, 98, 99, 100, 101, 102, 103, 104, 105, 106, 107, 108, 109, 110, 111, 112, 113, 114, 115, 116, 117, 118, 119, 120, 121, 122]))) (.name 1) (.val (.var 0)) .nil [1])
/-- is_name -/
def f2 : Fn := ⟨1, 2, (.cons (.ret (.andE (.bi (.isinst [.str]) (.cons (.var 0) .nil)) (.andE (.cmp2 .le .le (.int 1) (.bi .len (.cons (.var 0) .nil)) (.con (.int 8))) (.bi .allL (.cons f2C1 .nil))))) .nil)⟩
/-- is_tuple_of -/
def f3 : Fn := ⟨2, 2, (.cons (.ret (.andE (.bi (.isinst [.tuple]) (.cons (.var 0) .nil)) (.cmp .eq (.bi .len (.cons (.var 0) .nil)) (.var 1)))) .nil)⟩
def f4B1 : Sts := (.cons (.asg (.tup (.cons (.name 0) (.cons (.name 1) .nil))) (.tup (.cons (.var 1) (.cons (.bin .mod (.var 0) (.var 1)) .nil)))) .nil)
def f4L1 : St := (.while_ (.cmp .gt (.var 1) (.int 0)) f4B1)
/-- common -/
def f4 : Fn := ⟨2, 2, (.cons f4L1 (.cons (.ret (.var 0)) .nil))⟩
/-- lowest -/
def f5 : Fn := ⟨2, 3, (.cons (.asg (.name 2) (.call 4 [] (.cons (.bi .abs (.cons (.var 0) .nil)) (.cons (.var 1) .nil)))) (.cons (.ret (.tup (.cons (.bin .fdiv (.var 0) (.var 2)) (.cons (.bin .fdiv (.var 1) (.var 2)) .nil)))) .nil))⟩
/-- plus -/
def f6 : Fn := ⟨2, 2, (.cons (.ret (.call 5 [] (.cons (.bin .add (.bin .mul (.idx (.var 0) (.int 0)) (.idx (.var 1) (.int 1))) (.bin .mul (.idx (.var 1) (.int 0)) (.idx (.var 0) (.int 1)))) (.cons (.bin .mul (.idx (.var 0) (.int 1)) (.idx (.var 1) (.int 1))) .nil)))) .nil)⟩
/-- times -/
def f7 : Fn := ⟨2, 2, (.cons (.ret (.call 5 [] (.cons (.bin .mul (.idx (.var 0) (.int 0)) (.idx (.var 1) (.int 0))) (.cons (.bin .mul (.idx (.var 0) (.int 1)) (.idx (.var 1) (.int 1))) .nil)))) .nil)⟩
/-- is_above -/
def f8 : Fn := ⟨2, 2, (.cons (.ret (.cmp .gt (.bin .mul (.idx (.var 0) (.int 0)) (.idx (.var 1) (.int 1))) (.bin .mul (.idx (.var 1) (.int 0)) (.idx (.var 0) (.int 1))))) .nil)⟩
/-- is_fraction -/
def f9 : Fn := ⟨1, 1, (.cons (.ifs (.orE (.notE (.call 3 [] (.cons (.var 0) (.cons (.int 2) .nil)))) (.orE (.notE (.call 0 [] (.cons (.idx (.var 0) (.int 0)) .nil))) (.notE (.call 0 [] (.cons (.idx (.var 0) (.int 1)) .nil))))) (.cons (.ret (.bl false)) .nil) .nil) (.cons (.ret (.andE (.cmp .gt (.idx (.var 0) (.int 1)) (.int 0)) (.cmp .eq (.call 4 [] (.cons (.bi .abs (.cons (.idx (.var 0) (.int 0)) .nil)) (.cons (.idx (.var 0) (.int 1)) .nil))) (.int 1)))) .nil))⟩
def f10C1 : E := (.lc (.call 1 [] (.cons (.var 3) (.cons (.var 1) (.cons (.var 2) .nil)))) (.name 3) (.val (.var 0)) .nil [3])
/-- is_stretch -/
def f10 : Fn := ⟨3, 4, (.cons (.ifs (.orE (.notE (.call 3 [] (.cons (.var 0) (.cons (.int 2) .nil)))) (.notE (.bi .allL (.cons f10C1 .nil)))) (.cons (.ret (.bl false)) .nil) .nil) (.cons (.ret (.cmp .le (.idx (.var 0) (.int 0)) (.idx (.var 0) (.int 1)))) .nil))⟩
/-- is_end_stretch -/
def f11 : Fn := ⟨1, 1, (.cons (.ret (.call 10 [] (.cons (.var 0) (.cons (.bin .sub (.int 0) (.con (.int 10000))) (.cons (.con (.int 10000)) .nil))))) .nil)⟩
def f12B1 : Sts := (.cons (.ifs (.orE (.cmp .eq (.var 1) (.con (.int 4))) (.orE (.notE (.call 2 [] (.cons (.var 2) .nil))) (.cmp .inn (.var 2) (.sli (.var 0) .none (.some (.var 1)) .none)))) (.cons .never .nil) .nil) .nil)
def f12L1 : St := (.for_ (.tup (.cons (.name 1) (.cons (.name 2) .nil))) (.enum (.var 0)) f12B1)
/-- check_columns -/
def f12 : Fn := ⟨1, 3, (.cons (.ifs (.orE (.notE (.bi (.isinst [.tuple]) (.cons (.var 0) .nil))) (.cmp .eq (.var 0) (.tup .nil))) (.cons .never .nil) .nil) (.cons f12L1 .nil))⟩
def f13C1 : E := (.lc (.call 11 [] (.cons (.var 3) .nil)) (.name 3) (.val (.idx (.var 0) (.int 1))) .nil [3])
/-- is_row -/
def f13 : Fn := ⟨3, 4, (.cons (.ifs (.orE (.notE (.call 3 [] (.cons (.var 0) (.cons (.int 2) .nil)))) (.orE (.notE (.call 2 [] (.cons (.idx (.var 0) (.int 0)) .nil))) (.cmp .inn (.idx (.var 0) (.int 0)) (.var 2)))) (.cons (.ret (.bl false)) .nil) .nil) (.cons (.ret (.andE (.call 3 [] (.cons (.idx (.var 0) (.int 1)) (.cons (.var 1) .nil))) (.bi .allL (.cons f13C1 .nil)))) .nil))⟩
def f14C1 : E := (.lc (.idx (.var 4) (.int 0)) (.name 4) (.val (.sli (.var 1) .none (.some (.var 2)) .none)) .nil [4])
def f14B1 : Sts := (.cons (.ifs (.orE (.cmp .eq (.var 2) (.con (.int 8))) (.notE (.call 13 [] (.cons (.var 3) (.cons (.var 0) (.cons f14C1 .nil)))))) (.cons .never .nil) .nil) .nil)
def f14L1 : St := (.for_ (.tup (.cons (.name 2) (.cons (.name 3) .nil))) (.enum (.var 1)) f14B1)
/-- check_rows -/
def f14 : Fn := ⟨2, 5, (.cons (.ifs (.orE (.notE (.bi (.isinst [.tuple]) (.cons (.var 1) .nil))) (.cmp .eq (.var 1) (.tup .nil))) (.cons .never .nil) .nil) (.cons f14L1 .nil))⟩
/-- Table.__init__ -/
def f15 : Fn := ⟨3, 3, (.cons (.expr (.call 12 [] (.cons (.var 1) .nil))) (.cons (.expr (.call 14 [] (.cons (.bi .len (.cons (.var 1) .nil)) (.cons (.var 2) .nil)))) (.cons (.asg (.attr (.var 0) "heads") (.var 1)) (.cons (.asg (.attr (.var 0) "lines") (.var 2)) .nil))))⟩
/-- Table.columns -/
def f16 : Fn := ⟨1, 1, (.cons (.ret (.fld (.var 0) "heads")) .nil)⟩
/-- Table.rows -/
def f17 : Fn := ⟨1, 1, (.cons (.ret (.fld (.var 0) "lines")) .nil)⟩
/-- Table.__len__ -/
def f18 : Fn := ⟨1, 1, (.cons (.ret (.bi .len (.cons (.fld (.var 0) "lines") .nil))) .nil)⟩
/-- check_table -/
def f19 : Fn := ⟨1, 1, (.cons (.ifs (.notE (.bi (.isinst [(.own 44)]) (.cons (.var 0) .nil))) (.cons .never .nil) .nil) .nil)⟩
def f20C1 : E := (.lc (.call 10 [] (.cons (.var 2) (.cons (.bin .sub (.int 0) (.con (.int 10000))) (.cons (.con (.int 10000)) .nil)))) (.name 2) (.val (.var 1)) .nil [2])
/-- check_bounds -/
def f20 : Fn := ⟨2, 3, (.cons (.ifs (.notE (.call 3 [] (.cons (.var 1) (.cons (.bi .len (.cons (.fld (.var 0) "rows") .nil)) .nil)))) (.cons .never .nil) .nil) (.cons (.ifs (.notE (.bi .allL (.cons f20C1 .nil))) (.cons .never .nil) .nil) .nil))⟩
def f21C1 : E := (.lc (.call 9 [] (.cons (.var 2) .nil)) (.name 2) (.val (.var 1)) .nil [2])
/-- is_answer -/
def f21 : Fn := ⟨2, 3, (.cons (.ret (.andE (.call 3 [] (.cons (.var 1) (.cons (.bi .len (.cons (.fld (.var 0) "columns") .nil)) .nil))) (.bi .allL (.cons f21C1 .nil)))) .nil)⟩
/-- check_answer -/
def f22 : Fn := ⟨2, 2, (.cons (.ifs (.notE (.call 21 [] (.cons (.var 0) (.cons (.var 1) .nil)))) (.cons .never .nil) .nil) .nil)⟩
def f23B1 : Sts := (.cons (.asg (.tup (.cons (.name 7) (.cons (.name 8) .nil))) (.tup (.cons (.call 7 [] (.cons (.var 4) (.cons (.tup (.cons (.var 5) (.cons (.int 1) .nil))) .nil))) (.cons (.call 7 [] (.cons (.var 4) (.cons (.tup (.cons (.var 6) (.cons (.int 1) .nil))) .nil))) .nil)))) (.cons (.asg (.name 2) (.call 6 [] (.cons (.var 2) (.cons (.ite (.call 8 [] (.cons (.var 7) (.cons (.var 8) .nil))) (.var 8) (.var 7)) .nil)))) (.cons (.asg (.name 3) (.call 6 [] (.cons (.var 3) (.cons (.ite (.call 8 [] (.cons (.var 7) (.cons (.var 8) .nil))) (.var 7) (.var 8)) .nil)))) .nil)))
def f23L1 : St := (.for_ (.tup (.cons (.tup (.cons (.name 5) (.cons (.name 6) .nil))) (.cons (.name 4) .nil))) (.zip (.var 0) (.var 1)) f23B1)
/-- ends_with -/
def f23 : Fn := ⟨2, 9, (.cons (.asg (.tup (.cons (.name 2) (.cons (.name 3) .nil))) (.tup (.cons (.con (.tup [(.int 0), (.int 1)])) (.cons (.con (.tup [(.int 0), (.int 1)])) .nil)))) (.cons f23L1 (.cons (.ret (.tup (.cons (.var 2) (.cons (.var 3) .nil)))) .nil)))⟩
def f24C1 : E := (.lc (.call 23 [] (.cons (.var 3) (.cons (.var 1) .nil))) (.tup (.cons (.name 2) (.cons (.name 3) .nil))) (.val (.fld (.var 0) "rows")) .nil [2, 3])
/-- all_row_ends -/
def f24 : Fn := ⟨2, 4, (.cons (.ret (.bi .tuple1 (.cons f24C1 .nil))) .nil)⟩
def f25C1 : E := (.lc (.call 8 [] (.cons (.var 5) (.cons (.tup (.cons (.var 6) (.cons (.int 1) .nil))) .nil))) (.tup (.cons (.tup (.cons (.name 4) (.cons (.name 5) .nil))) (.cons (.tup (.cons (.name 6) (.cons (.name 7) .nil))) .nil))) (.zip (.var 3) (.var 1)) .nil [4, 5, 6, 7])
/-- is_sure_for -/
def f25 : Fn := ⟨3, 8, (.cons (.asg (.name 3) (.call 24 [] (.cons (.var 0) (.cons (.var 2) .nil)))) (.cons (.ret (.notE (.bi .anyL (.cons f25C1 .nil)))) .nil))⟩
def f26C1 : E := (.lc (.call 8 [] (.cons (.var 4) (.cons (.tup (.cons (.var 7) (.cons (.int 1) .nil))) .nil))) (.tup (.cons (.tup (.cons (.name 4) (.cons (.name 5) .nil))) (.cons (.tup (.cons (.name 6) (.cons (.name 7) .nil))) .nil))) (.zip (.var 3) (.var 1)) .nil [4, 5, 6, 7])
/-- is_possible_for -/
def f26 : Fn := ⟨3, 8, (.cons (.asg (.name 3) (.call 24 [] (.cons (.var 0) (.cons (.var 2) .nil)))) (.cons (.ret (.notE (.bi .anyL (.cons f26C1 .nil)))) .nil))⟩
/-- check_question -/
def f27 : Fn := ⟨2, 2, (.cons (.expr (.call 19 [] (.cons (.var 0) .nil))) (.cons (.expr (.call 20 [] (.cons (.var 0) (.cons (.var 1) .nil)))) .nil))⟩
/-- row_ends -/
def f28 : Fn := ⟨2, 2, (.cons (.expr (.call 19 [] (.cons (.var 0) .nil))) (.cons (.expr (.call 22 [] (.cons (.var 0) (.cons (.var 1) .nil)))) (.cons (.ret (.call 24 [] (.cons (.var 0) (.cons (.var 1) .nil)))) .nil)))⟩
/-- is_sure_answer -/
def f29 : Fn := ⟨3, 3, (.cons (.expr (.call 27 [] (.cons (.var 0) (.cons (.var 1) .nil)))) (.cons (.expr (.call 22 [] (.cons (.var 0) (.cons (.var 2) .nil)))) (.cons (.ret (.call 25 [] (.cons (.var 0) (.cons (.var 1) (.cons (.var 2) .nil))))) .nil)))⟩
/-- is_possible_answer -/
def f30 : Fn := ⟨3, 3, (.cons (.expr (.call 27 [] (.cons (.var 0) (.cons (.var 1) .nil)))) (.cons (.expr (.call 22 [] (.cons (.var 0) (.cons (.var 2) .nil)))) (.cons (.ret (.call 26 [] (.cons (.var 0) (.cons (.var 1) (.cons (.var 2) .nil))))) .nil)))⟩
def f31B1 : Sts := (.cons (.asg (.name 2) (.bin .mod (.bi .int1 (.cons (.bin .add (.bin .add (.bin .mul (.var 2) (.int 38327)) (.bin .mul (.bi .int1 (.cons (.var 3) .nil)) (.int 53))) (.int 31)) .nil)) (.int 2147483497))) .nil)
def f31L1 : St := (.for_ (.name 3) (.val (.sli (.var 0) .none (.some (.int 47)) .none)) f31B1)
/-- _law_pail -/
def f31 : Fn := ⟨2, 6, (.cons (.asg (.name 2) (.bin .add (.int 1414213) (.bin .mul (.int 156917) (.var 1)))) (.cons f31L1 (.cons (.asg (.name 4) (.ite (.cmp .lt (.var 1) (.bi .len (.cons (.var 0) .nil))) (.bi .int1 (.cons (.idx (.var 0) (.var 1)) .nil)) (.bin .add (.bin .mul (.int 67) (.var 1)) (.int 41)))) (.cons (.asg (.name 5) (.ite (.orE (.cmp .lt (.var 4) (.int 0)) (.cmp .ge (.var 4) (.bin .pow (.int 10) (.int 18)))) (.bi .abs (.cons (.var 4) .nil)) (.int 0))) (.cons (.ret (.lst (.cons (.var 5) (.cons (.bin .mod (.bi .int1 (.cons (.bin .add (.bin .mul (.var 2) (.int 3)) (.var 4)) .nil)) (.int 2147483489)) (.cons (.int 0) .nil))))) .nil)))))⟩
/-- _law_dip -/
def f32 : Fn := ⟨2, 4, (.cons (.asg (.sub (.var 0) (.int 2)) (.bin .add (.idx (.var 0) (.int 2)) (.int 1))) (.cons (.ifs (.cmp .gt (.idx (.var 0) (.int 0)) (.int 0)) (.cons (.asg (.tup (.cons (.sub (.var 0) (.int 0)) (.cons (.name 3) .nil))) (.bi .divmod (.cons (.idx (.var 0) (.int 0)) (.cons (.var 1) .nil)))) (.cons (.ret (.var 3)) .nil)) .nil) (.cons (.asg (.name 2) (.bin .add (.bin .mul (.int 9311) (.idx (.var 0) (.int 2))) (.bin .mul (.bin .mul (.int 5) (.idx (.var 0) (.int 2))) (.idx (.var 0) (.int 2))))) (.cons (.asg (.sub (.var 0) (.int 1)) (.bin .mod (.bi .int1 (.cons (.bin .add (.bin .mul (.idx (.var 0) (.int 1)) (.int 48383)) (.var 2)) .nil)) (.int 2147483489))) (.cons (.ret (.bin .mod (.bi .int1 (.cons (.bin .fdiv (.idx (.var 0) (.int 1)) (.int 1811)) .nil)) (.var 1))) .nil)))))⟩
/-- _law_any -/
def f33 : Fn := ⟨2, 2, (.cons (.ret (.idx (.var 1) (.call 32 [] (.cons (.var 0) (.cons (.bi .len (.cons (.var 1) .nil)) .nil))))) .nil)⟩
/-- _law_stretch -/
def f34 : Fn := ⟨2, 3, (.cons (.asg (.name 2) (.bin .sub (.call 32 [] (.cons (.var 0) (.cons (.int 9) .nil))) (.int 4))) (.cons (.ifs (.cmp .eq (.call 32 [] (.cons (.var 0) (.cons (.int 30) .nil))) (.int 0)) (.cons (.asg (.name 2) (.call 33 [] (.cons (.var 0) (.cons (.lst (.cons (.neg (.int 10000)) (.cons (.int 9997) (.cons (.neg (.int 1000)) (.cons (.int 500) .nil))))) .nil)))) .nil) .nil) (.cons (.ret (.tup (.cons (.var 2) (.cons (.bin .add (.var 2) (.call 32 [] (.cons (.var 0) (.cons (.var 1) .nil)))) .nil)))) .nil)))⟩
def f35C1 : E := (.lc (.call 34 [] (.cons (.var 0) (.cons (.int 4) .nil))) (.name 6) (.val (.var 3)) .nil [6])
def f35B1 : Sts := (.cons (.expr (.mb .append (.var 4) (.cons (.tup (.cons (.idx (.tup (.cons (.str [110, 101, 101, 100]) (.cons (.str [114, 111, 111, 109]) (.cons (.str [99]) (.cons (.str [100, 117, 116, 121]) .nil))))) (.var 5)) (.cons (.bi .tuple1 (.cons f35C1 .nil)) .nil))) .nil))) .nil)
def f35L1 : St := (.for_ (.name 5) (.rng1 (.bin .add (.int 1) (.call 32 [] (.cons (.var 0) (.cons (.var 2) .nil))))) f35B1)
/-- _law_sheet -/
def f35 : Fn := ⟨3, 7, (.cons (.asg (.name 3) (.sli (.tup (.cons (.str [120]) (.cons (.str [121]) (.cons (.str [122, 101, 116, 97]) (.cons (.str [119]) .nil))))) .none (.some (.bin .add (.int 1) (.call 32 [] (.cons (.var 0) (.cons (.var 1) .nil))))) .none)) (.cons (.asg (.name 4) (.lst .nil)) (.cons f35L1 (.cons (.ret (.mk 44 [] (.cons (.var 3) (.cons (.bi .tuple1 (.cons (.var 4) .nil)) .nil)))) .nil))))⟩
def f36B1 : Sts := (.cons (.expr (.mb .append (.var 2) (.cons (.ite (.cmp .eq (.call 32 [] (.cons (.var 0) (.cons (.int 3) .nil))) (.int 0)) (.call 34 [] (.cons (.var 0) (.cons (.int 4) .nil))) (.tup (.cons (.int 2) (.cons (.bin .add (.int 3) (.call 32 [] (.cons (.var 0) (.cons (.int 6) .nil)))) .nil)))) .nil))) .nil)
def f36L1 : St := (.for_ (.name 3) (.val (.fld (.var 1) "rows")) f36B1)
/-- _law_limits -/
def f36 : Fn := ⟨2, 4, (.cons (.asg (.name 2) (.lst .nil)) (.cons f36L1 (.cons (.ret (.bi .tuple1 (.cons (.var 2) .nil))) .nil)))⟩
def f37B1 : Sts := (.cons (.asg (.tup (.cons (.name 3) (.cons (.name 4) .nil))) (.ite (.cmp .gt (.var 4) (.int 0)) (.tup (.cons (.var 4) (.cons (.bin .mod (.bi .int1 (.cons (.var 3) .nil)) (.var 4)) .nil))) (.tup (.cons (.var 3) (.cons (.var 4) .nil))))) .nil)
def f37L1 : St := (.for_ (.name 2) (.rng1 (.int 200)) f37B1)
/-- _law_part -/
def f37 : Fn := ⟨2, 5, (.cons (.asg (.tup (.cons (.name 3) (.cons (.name 4) .nil))) (.tup (.cons (.bi .abs (.cons (.var 0) .nil)) (.cons (.var 1) .nil)))) (.cons f37L1 (.cons (.ret (.tup (.cons (.bin .fdiv (.var 0) (.var 3)) (.cons (.bin .fdiv (.var 1) (.var 3)) .nil)))) .nil)))⟩
/-- _law_plus -/
def f38 : Fn := ⟨2, 2, (.cons (.ret (.call 37 [] (.cons (.bin .add (.bin .mul (.idx (.var 0) (.int 0)) (.idx (.var 1) (.int 1))) (.bin .mul (.idx (.var 1) (.int 0)) (.idx (.var 0) (.int 1)))) (.cons (.bin .mul (.idx (.var 0) (.int 1)) (.idx (.var 1) (.int 1))) .nil)))) .nil)⟩
def f39C1 : E := (.lc (.call 38 [] (.cons (.var 6) (.cons (.call 37 [] (.cons (.bin .mul (.var 7) (.idx (.var 4) (.int 0))) (.cons (.idx (.var 4) (.int 1)) .nil))) .nil))) (.name 7) (.val (.var 3)) .nil [7])
def f39B1 : Sts := (.cons (.asg (.name 5) (.bin .add (.var 5) f39C1)) .nil)
def f39L1 : St := (.for_ (.name 6) (.val (.var 2)) f39B1)
def f39B2 : Sts := (.cons (.asg (.name 5) (.lst .nil)) (.cons f39L1 (.cons (.asg (.name 2) (.var 5)) .nil)))
def f39L2 : St := (.for_ (.tup (.cons (.name 3) (.cons (.name 4) .nil))) (.zip (.var 0) (.var 1)) f39B2)
/-- _law_sums -/
def f39 : Fn := ⟨2, 8, (.cons (.asg (.name 2) (.lst (.cons (.tup (.cons (.int 0) (.cons (.int 1) .nil))) .nil))) (.cons f39L2 (.cons (.ret (.var 2)) .nil)))⟩
def f40B1 : Sts := (.cons (.asg (.name 1) (.ite (.cmp .lt (.bin .mul (.idx (.var 2) (.int 0)) (.idx (.var 1) (.int 1))) (.bin .mul (.idx (.var 1) (.int 0)) (.idx (.var 2) (.int 1)))) (.var 2) (.var 1))) .nil)
def f40L1 : St := (.for_ (.name 2) (.val (.var 0)) f40B1)
/-- _law_least -/
def f40 : Fn := ⟨1, 3, (.cons (.asg (.name 1) (.idx (.var 0) (.int 0))) (.cons f40L1 (.cons (.ret (.var 1)) .nil)))⟩
def f41C1 : E := (.lc (.call 37 [] (.cons (.bin .sub (.call 32 [] (.cons (.var 0) (.cons (.int 9) .nil))) (.int 4)) (.cons (.bin .add (.int 1) (.call 32 [] (.cons (.var 0) (.cons (.int 3) .nil)))) .nil))) (.name 13) (.val (.fld (.var 1) "columns")) .nil [13])
def f41C2 : E := (.lc (.tup (.cons (.bin .sub (.int 0) (.idx (.var 14) (.int 0))) (.cons (.idx (.var 14) (.int 1)) .nil))) (.name 14) (.val (.var 10)) .nil [14])
def f41B1 : Sts := (.cons (.asg (.name 10) (.call 39 [] (.cons (.idx (.idx (.fld (.var 1) "rows") (.var 4)) (.int 1)) (.cons (.var 3) .nil)))) (.cons (.asg (.name 11) (.call 40 [] (.cons (.var 10) .nil))) (.cons (.asg (.name 12) (.call 40 [] (.cons f41C2 .nil))) (.cons (.expr (.mb .append (.var 7) (.cons (.tup (.cons (.var 11) (.cons (.tup (.cons (.bin .sub (.int 0) (.idx (.var 12) (.int 0))) (.cons (.idx (.var 12) (.int 1)) .nil))) .nil))) .nil))) (.cons (.asg (.name 8) (.andE (.var 8) (.cmp .le (.bin .sub (.int 0) (.idx (.var 12) (.int 0))) (.bin .mul (.idx (.idx (.var 2) (.var 4)) (.int 0)) (.idx (.var 12) (.int 1)))))) (.cons (.asg (.name 9) (.andE (.var 9) (.cmp .le (.idx (.var 11) (.int 0)) (.bin .mul (.idx (.idx (.var 2) (.var 4)) (.int 1)) (.idx (.var 11) (.int 1)))))) .nil))))))
def f41L1 : St := (.for_ (.name 4) (.rng1 (.bi .len (.cons (.var 1) .nil))) f41B1)
/-- _law_once_right -/
def f41 : Fn := ⟨1, 15, (.cons (.asg (.name 1) (.call 35 [] (.cons (.var 0) (.cons (.int 4) (.cons (.int 4) .nil))))) (.cons (.asg (.name 2) (.call 36 [] (.cons (.var 0) (.cons (.var 1) .nil)))) (.cons (.asg (.name 3) (.bi .tuple1 (.cons f41C1 .nil))) (.cons (.asg (.tup (.cons (.name 7) (.cons (.name 8) (.cons (.name 9) .nil)))) (.tup (.cons (.lst .nil) (.cons (.bl true) (.cons (.bl true) .nil))))) (.cons f41L1 (.cons (.ifs (.cmp .ne (.bi .repr1 (.cons (.lst (.cons (.call 28 [] (.cons (.var 1) (.cons (.var 3) .nil))) (.cons (.call 28 [1, 0] (.cons (.var 3) (.cons (.var 1) .nil))) .nil))) .nil)) (.bi .repr1 (.cons (.bin .mul (.lst (.cons (.bi .tuple1 (.cons (.var 7) .nil)) .nil)) (.int 2)) .nil))) (.cons (.ret (.bl false)) .nil) .nil) (.cons (.asg (.name 5) (.lst (.cons (.call 29 [] (.cons (.var 1) (.cons (.var 2) (.cons (.var 3) .nil)))) (.cons (.call 30 [] (.cons (.var 1) (.cons (.var 2) (.cons (.var 3) .nil)))) .nil)))) (.cons (.ifs (.orE (.cmp .ne (.bi .repr1 (.cons (.var 5) .nil)) (.bi .repr1 (.cons (.lst (.cons (.var 8) (.cons (.var 9) .nil))) .nil))) (.andE (.var 8) (.notE (.var 9)))) (.cons (.ret (.bl false)) .nil) .nil) (.cons (.asg (.name 6) (.lst (.cons (.call 29 [2, 1, 0] (.cons (.var 3) (.cons (.var 2) (.cons (.var 1) .nil)))) .nil))) (.cons (.expr (.mb .append (.var 6) (.cons (.call 30 [2, 1, 0] (.cons (.var 3) (.cons (.var 2) (.cons (.var 1) .nil)))) .nil))) (.cons (.ret (.cmp .eq (.bi .repr1 (.cons (.var 6) .nil)) (.bi .repr1 (.cons (.var 5) .nil)))) .nil)))))))))))⟩
/-- _law_right -/
def f42 : Fn := ⟨1, 1, (.cons (.ret (.andE (.call 41 [] (.cons (.var 0) .nil)) (.call 41 [] (.cons (.var 0) .nil)))) .nil)⟩
def f43C1 : E := (.lc (.call 42 [] (.cons (.call 31 [] (.cons (.var 0) (.cons (.var 1) .nil))) .nil)) (.name 1) (.rng1 (.int 2)) .nil [1])
/-- law -/
def f43 : Fn := ⟨1, 2, (.cons (.ret (.bi .allL (.cons f43C1 .nil))) .nil)⟩
class Pk (P : Prg) : Prop where
  fn0 : P.fn 0 = some f0
  fn1 : P.fn 1 = some f1
  fn2 : P.fn 2 = some f2
  fn3 : P.fn 3 = some f3
  fn4 : P.fn 4 = some f4
  fn5 : P.fn 5 = some f5
  fn6 : P.fn 6 = some f6
  fn7 : P.fn 7 = some f7
  fn8 : P.fn 8 = some f8
  fn9 : P.fn 9 = some f9
  fn10 : P.fn 10 = some f10
  fn11 : P.fn 11 = some f11
  fn12 : P.fn 12 = some f12
  fn13 : P.fn 13 = some f13
  fn14 : P.fn 14 = some f14
  fn15 : P.fn 15 = some f15
  fn16 : P.fn 16 = some f16
  fn17 : P.fn 17 = some f17
  fn18 : P.fn 18 = some f18
  fn19 : P.fn 19 = some f19
  fn20 : P.fn 20 = some f20
  fn21 : P.fn 21 = some f21
  fn22 : P.fn 22 = some f22
  fn23 : P.fn 23 = some f23
  fn24 : P.fn 24 = some f24
  fn25 : P.fn 25 = some f25
  fn26 : P.fn 26 = some f26
  fn27 : P.fn 27 = some f27
  fn28 : P.fn 28 = some f28
  fn29 : P.fn 29 = some f29
  fn30 : P.fn 30 = some f30
  fn31 : P.fn 31 = some f31
  fn32 : P.fn 32 = some f32
  fn33 : P.fn 33 = some f33
  fn34 : P.fn 34 = some f34
  fn35 : P.fn 35 = some f35
  fn36 : P.fn 36 = some f36
  fn37 : P.fn 37 = some f37
  fn38 : P.fn 38 = some f38
  fn39 : P.fn 39 = some f39
  fn40 : P.fn 40 = some f40
  fn41 : P.fn 41 = some f41
  fn42 : P.fn 42 = some f42
  fn43 : P.fn 43 = some f43
  fld_44_heads : P.fld 44 "heads" = true
  fld_44_lines : P.fld 44 "lines" = true
  nprop_44_heads : P.prop 44 "heads" = none
  nprop_44_lines : P.prop 44 "lines" = none
  prop_44_columns : P.prop 44 "columns" = some 16
  prop_44_rows : P.prop 44 "rows" = some 17
  meth_44___len__ : P.meth 44 "__len__" = some 18
  init_44 : P.init 44 = some 15
  ask0 : P.ask (.inl "int") (.int) = some true
  ask1 : P.ask (.inl "int") (.bool) = some false
  ask2 : P.ask (.inl "int") (.str) = some false
  ask3 : P.ask (.inl "int") (.tuple) = some false
  ask4 : P.ask (.inl "int") (.list) = some false
  ask5 : P.ask (.inl "int") (.dict) = some false
  ask6 : P.ask (.inl "bool") (.int) = some true
  ask7 : P.ask (.inl "bool") (.bool) = some true
  ask8 : P.ask (.inl "bool") (.str) = some false
  ask9 : P.ask (.inl "bool") (.tuple) = some false
  ask10 : P.ask (.inl "bool") (.list) = some false
  ask11 : P.ask (.inl "bool") (.dict) = some false
  ask12 : P.ask (.inl "str") (.int) = some false
  ask13 : P.ask (.inl "str") (.bool) = some false
  ask14 : P.ask (.inl "str") (.str) = some true
  ask15 : P.ask (.inl "str") (.tuple) = some false
  ask16 : P.ask (.inl "str") (.list) = some false
  ask17 : P.ask (.inl "str") (.dict) = some false
  ask18 : P.ask (.inl "tuple") (.int) = some false
  ask19 : P.ask (.inl "tuple") (.bool) = some false
  ask20 : P.ask (.inl "tuple") (.str) = some false
  ask21 : P.ask (.inl "tuple") (.tuple) = some true
  ask22 : P.ask (.inl "tuple") (.list) = some false
  ask23 : P.ask (.inl "tuple") (.dict) = some false
  ask24 : P.ask (.inl "list") (.int) = some false
  ask25 : P.ask (.inl "list") (.bool) = some false
  ask26 : P.ask (.inl "list") (.str) = some false
  ask27 : P.ask (.inl "list") (.tuple) = some false
  ask28 : P.ask (.inl "list") (.list) = some true
  ask29 : P.ask (.inl "list") (.dict) = some false
  ask30 : P.ask (.inl "dict") (.int) = some false
  ask31 : P.ask (.inl "dict") (.bool) = some false
  ask32 : P.ask (.inl "dict") (.str) = some false
  ask33 : P.ask (.inl "dict") (.tuple) = some false
  ask34 : P.ask (.inl "dict") (.list) = some false
  ask35 : P.ask (.inl "dict") (.dict) = some true
  ask36 : P.ask (.inr 44) (.int) = some false
  ask37 : P.ask (.inr 44) (.bool) = some false
  ask38 : P.ask (.inr 44) (.str) = some false
  ask39 : P.ask (.inr 44) (.tuple) = some false
  ask40 : P.ask (.inr 44) (.list) = some false
  ask41 : P.ask (.inr 44) (.dict) = some false
  ask42 : P.ask (.inl "int") (.own 44) = some false
  ask43 : P.ask (.inl "bool") (.own 44) = some false
  ask44 : P.ask (.inl "str") (.own 44) = some false
  ask45 : P.ask (.inl "tuple") (.own 44) = some false
  ask46 : P.ask (.inl "list") (.own 44) = some false
  ask47 : P.ask (.inl "dict") (.own 44) = some false
  ask48 : P.ask (.inr 44) (.own 44) = some true
/-- slots that are changed, makers -/
def A : An where
  ms := fun g => match g with
    | 35 => [4]
    | 36 => [2]
    | 41 => [6, 7]
    | _ => []
  maker := fun g => match g with
    | 31 => true
    | _ => false
section
variable {P : Prg} [H : Pk P] {k : Nat} {M : MS}
@[simp] theorem k_fld_44_heads : P.fld 44 "heads" = true := H.fld_44_heads
@[simp] theorem k_fld_44_lines : P.fld 44 "lines" = true := H.fld_44_lines
@[simp] theorem k_nprop_44_heads : P.prop 44 "heads" = none := H.nprop_44_heads
@[simp] theorem k_nprop_44_lines : P.prop 44 "lines" = none := H.nprop_44_lines
@[simp] theorem k_prop_44_columns : P.prop 44 "columns" = some 16 := H.prop_44_columns
@[simp] theorem k_prop_44_rows : P.prop 44 "rows" = some 17 := H.prop_44_rows
@[simp] theorem k_meth_44___len__ : P.meth 44 "__len__" = some 18 := H.meth_44___len__
@[simp] theorem k_init_44 : P.init 44 = some 15 := H.init_44
@[simp] theorem k_ask0 : P.ask (.inl "int") (.int) = some true := H.ask0
@[simp] theorem k_ask1 : P.ask (.inl "int") (.bool) = some false := H.ask1
@[simp] theorem k_ask2 : P.ask (.inl "int") (.str) = some false := H.ask2
@[simp] theorem k_ask3 : P.ask (.inl "int") (.tuple) = some false := H.ask3
@[simp] theorem k_ask4 : P.ask (.inl "int") (.list) = some false := H.ask4
@[simp] theorem k_ask5 : P.ask (.inl "int") (.dict) = some false := H.ask5
@[simp] theorem k_ask6 : P.ask (.inl "bool") (.int) = some true := H.ask6
@[simp] theorem k_ask7 : P.ask (.inl "bool") (.bool) = some true := H.ask7
@[simp] theorem k_ask8 : P.ask (.inl "bool") (.str) = some false := H.ask8
@[simp] theorem k_ask9 : P.ask (.inl "bool") (.tuple) = some false := H.ask9
@[simp] theorem k_ask10 : P.ask (.inl "bool") (.list) = some false := H.ask10
@[simp] theorem k_ask11 : P.ask (.inl "bool") (.dict) = some false := H.ask11
@[simp] theorem k_ask12 : P.ask (.inl "str") (.int) = some false := H.ask12
@[simp] theorem k_ask13 : P.ask (.inl "str") (.bool) = some false := H.ask13
@[simp] theorem k_ask14 : P.ask (.inl "str") (.str) = some true := H.ask14
@[simp] theorem k_ask15 : P.ask (.inl "str") (.tuple) = some false := H.ask15
@[simp] theorem k_ask16 : P.ask (.inl "str") (.list) = some false := H.ask16
@[simp] theorem k_ask17 : P.ask (.inl "str") (.dict) = some false := H.ask17
@[simp] theorem k_ask18 : P.ask (.inl "tuple") (.int) = some false := H.ask18
@[simp] theorem k_ask19 : P.ask (.inl "tuple") (.bool) = some false := H.ask19
@[simp] theorem k_ask20 : P.ask (.inl "tuple") (.str) = some false := H.ask20
@[simp] theorem k_ask21 : P.ask (.inl "tuple") (.tuple) = some true := H.ask21
@[simp] theorem k_ask22 : P.ask (.inl "tuple") (.list) = some false := H.ask22
@[simp] theorem k_ask23 : P.ask (.inl "tuple") (.dict) = some false := H.ask23
@[simp] theorem k_ask24 : P.ask (.inl "list") (.int) = some false := H.ask24
@[simp] theorem k_ask25 : P.ask (.inl "list") (.bool) = some false := H.ask25
@[simp] theorem k_ask26 : P.ask (.inl "list") (.str) = some false := H.ask26
@[simp] theorem k_ask27 : P.ask (.inl "list") (.tuple) = some false := H.ask27
@[simp] theorem k_ask28 : P.ask (.inl "list") (.list) = some true := H.ask28
@[simp] theorem k_ask29 : P.ask (.inl "list") (.dict) = some false := H.ask29
@[simp] theorem k_ask30 : P.ask (.inl "dict") (.int) = some false := H.ask30
@[simp] theorem k_ask31 : P.ask (.inl "dict") (.bool) = some false := H.ask31
@[simp] theorem k_ask32 : P.ask (.inl "dict") (.str) = some false := H.ask32
@[simp] theorem k_ask33 : P.ask (.inl "dict") (.tuple) = some false := H.ask33
@[simp] theorem k_ask34 : P.ask (.inl "dict") (.list) = some false := H.ask34
@[simp] theorem k_ask35 : P.ask (.inl "dict") (.dict) = some true := H.ask35
@[simp] theorem k_ask36 : P.ask (.inr 44) (.int) = some false := H.ask36
@[simp] theorem k_ask37 : P.ask (.inr 44) (.bool) = some false := H.ask37
@[simp] theorem k_ask38 : P.ask (.inr 44) (.str) = some false := H.ask38
@[simp] theorem k_ask39 : P.ask (.inr 44) (.tuple) = some false := H.ask39
@[simp] theorem k_ask40 : P.ask (.inr 44) (.list) = some false := H.ask40
@[simp] theorem k_ask41 : P.ask (.inr 44) (.dict) = some false := H.ask41
@[simp] theorem k_ask42 : P.ask (.inl "int") (.own 44) = some false := H.ask42
@[simp] theorem k_ask43 : P.ask (.inl "bool") (.own 44) = some false := H.ask43
@[simp] theorem k_ask44 : P.ask (.inl "str") (.own 44) = some false := H.ask44
@[simp] theorem k_ask45 : P.ask (.inl "tuple") (.own 44) = some false := H.ask45
@[simp] theorem k_ask46 : P.ask (.inl "list") (.own 44) = some false := H.ask46
@[simp] theorem k_ask47 : P.ask (.inl "dict") (.own 44) = some false := H.ask47
@[simp] theorem k_ask48 : P.ask (.inr 44) (.own 44) = some true := H.ask48
/-- is_whole -/
theorem c0 (a0 : V) : callV P A (k + 1) 0 [a0] M = (sVs P (callV P A k) [] false f0.body [some a0] M).fin false M.length := by
  simp only [callV, H.fn0]
  rfl
/-- is_integer -/
theorem c1 (a0 a1 a2 : V) : callV P A (k + 1) 1 [a0, a1, a2] M = (sVs P (callV P A k) [] false f1.body [some a0, some a1, some a2] M).fin false M.length := by
  simp only [callV, H.fn1]
  rfl
/-- is_name -/
theorem c2 (a0 : V) : callV P A (k + 1) 2 [a0] M = (sVs P (callV P A k) [] false f2.body [some a0, none] M).fin false M.length := by
  simp only [callV, H.fn2]
  rfl
/-- is_tuple_of -/
theorem c3 (a0 a1 : V) : callV P A (k + 1) 3 [a0, a1] M = (sVs P (callV P A k) [] false f3.body [some a0, some a1] M).fin false M.length := by
  simp only [callV, H.fn3]
  rfl
/-- common -/
theorem c4 (a0 a1 : V) : callV P A (k + 1) 4 [a0, a1] M = (sVs P (callV P A k) [] false f4.body [some a0, some a1] M).fin false M.length := by
  simp only [callV, H.fn4]
  rfl
/-- lowest -/
theorem c5 (a0 a1 : V) : callV P A (k + 1) 5 [a0, a1] M = (sVs P (callV P A k) [] false f5.body [some a0, some a1, none] M).fin false M.length := by
  simp only [callV, H.fn5]
  rfl
/-- plus -/
theorem c6 (a0 a1 : V) : callV P A (k + 1) 6 [a0, a1] M = (sVs P (callV P A k) [] false f6.body [some a0, some a1] M).fin false M.length := by
  simp only [callV, H.fn6]
  rfl
/-- times -/
theorem c7 (a0 a1 : V) : callV P A (k + 1) 7 [a0, a1] M = (sVs P (callV P A k) [] false f7.body [some a0, some a1] M).fin false M.length := by
  simp only [callV, H.fn7]
  rfl
/-- is_above -/
theorem c8 (a0 a1 : V) : callV P A (k + 1) 8 [a0, a1] M = (sVs P (callV P A k) [] false f8.body [some a0, some a1] M).fin false M.length := by
  simp only [callV, H.fn8]
  rfl
/-- is_fraction -/
theorem c9 (a0 : V) : callV P A (k + 1) 9 [a0] M = (sVs P (callV P A k) [] false f9.body [some a0] M).fin false M.length := by
  simp only [callV, H.fn9]
  rfl
/-- is_stretch -/
theorem c10 (a0 a1 a2 : V) : callV P A (k + 1) 10 [a0, a1, a2] M = (sVs P (callV P A k) [] false f10.body [some a0, some a1, some a2, none] M).fin false M.length := by
  simp only [callV, H.fn10]
  rfl
/-- is_end_stretch -/
theorem c11 (a0 : V) : callV P A (k + 1) 11 [a0] M = (sVs P (callV P A k) [] false f11.body [some a0] M).fin false M.length := by
  simp only [callV, H.fn11]
  rfl
/-- check_columns -/
theorem c12 (a0 : V) : callV P A (k + 1) 12 [a0] M = (sVs P (callV P A k) [] false f12.body [some a0, none, none] M).fin false M.length := by
  simp only [callV, H.fn12]
  rfl
/-- is_row -/
theorem c13 (a0 a1 a2 : V) : callV P A (k + 1) 13 [a0, a1, a2] M = (sVs P (callV P A k) [] false f13.body [some a0, some a1, some a2, none] M).fin false M.length := by
  simp only [callV, H.fn13]
  rfl
/-- check_rows -/
theorem c14 (a0 a1 : V) : callV P A (k + 1) 14 [a0, a1] M = (sVs P (callV P A k) [] false f14.body [some a0, some a1, none, none, none] M).fin false M.length := by
  simp only [callV, H.fn14]
  rfl
/-- Table.__init__ -/
theorem c15 (a0 a1 a2 : V) : callV P A (k + 1) 15 [a0, a1, a2] M = (sVs P (callV P A k) [] false f15.body [some a0, some a1, some a2] M).fin false M.length := by
  simp only [callV, H.fn15]
  rfl
/-- Table.columns -/
theorem c16 (a0 : V) : callV P A (k + 1) 16 [a0] M = (sVs P (callV P A k) [] false f16.body [some a0] M).fin false M.length := by
  simp only [callV, H.fn16]
  rfl
/-- Table.rows -/
theorem c17 (a0 : V) : callV P A (k + 1) 17 [a0] M = (sVs P (callV P A k) [] false f17.body [some a0] M).fin false M.length := by
  simp only [callV, H.fn17]
  rfl
/-- Table.__len__ -/
theorem c18 (a0 : V) : callV P A (k + 1) 18 [a0] M = (sVs P (callV P A k) [] false f18.body [some a0] M).fin false M.length := by
  simp only [callV, H.fn18]
  rfl
/-- check_table -/
theorem c19 (a0 : V) : callV P A (k + 1) 19 [a0] M = (sVs P (callV P A k) [] false f19.body [some a0] M).fin false M.length := by
  simp only [callV, H.fn19]
  rfl
/-- check_bounds -/
theorem c20 (a0 a1 : V) : callV P A (k + 1) 20 [a0, a1] M = (sVs P (callV P A k) [] false f20.body [some a0, some a1, none] M).fin false M.length := by
  simp only [callV, H.fn20]
  rfl
/-- is_answer -/
theorem c21 (a0 a1 : V) : callV P A (k + 1) 21 [a0, a1] M = (sVs P (callV P A k) [] false f21.body [some a0, some a1, none] M).fin false M.length := by
  simp only [callV, H.fn21]
  rfl
/-- check_answer -/
theorem c22 (a0 a1 : V) : callV P A (k + 1) 22 [a0, a1] M = (sVs P (callV P A k) [] false f22.body [some a0, some a1] M).fin false M.length := by
  simp only [callV, H.fn22]
  rfl
/-- ends_with -/
theorem c23 (a0 a1 : V) : callV P A (k + 1) 23 [a0, a1] M = (sVs P (callV P A k) [] false f23.body [some a0, some a1, none, none, none, none, none, none, none] M).fin false M.length := by
  simp only [callV, H.fn23]
  rfl
/-- all_row_ends -/
theorem c24 (a0 a1 : V) : callV P A (k + 1) 24 [a0, a1] M = (sVs P (callV P A k) [] false f24.body [some a0, some a1, none, none] M).fin false M.length := by
  simp only [callV, H.fn24]
  rfl
/-- is_sure_for -/
theorem c25 (a0 a1 a2 : V) : callV P A (k + 1) 25 [a0, a1, a2] M = (sVs P (callV P A k) [] false f25.body [some a0, some a1, some a2, none, none, none, none, none] M).fin false M.length := by
  simp only [callV, H.fn25]
  rfl
/-- is_possible_for -/
theorem c26 (a0 a1 a2 : V) : callV P A (k + 1) 26 [a0, a1, a2] M = (sVs P (callV P A k) [] false f26.body [some a0, some a1, some a2, none, none, none, none, none] M).fin false M.length := by
  simp only [callV, H.fn26]
  rfl
/-- check_question -/
theorem c27 (a0 a1 : V) : callV P A (k + 1) 27 [a0, a1] M = (sVs P (callV P A k) [] false f27.body [some a0, some a1] M).fin false M.length := by
  simp only [callV, H.fn27]
  rfl
/-- row_ends -/
theorem c28 (a0 a1 : V) : callV P A (k + 1) 28 [a0, a1] M = (sVs P (callV P A k) [] false f28.body [some a0, some a1] M).fin false M.length := by
  simp only [callV, H.fn28]
  rfl
/-- is_sure_answer -/
theorem c29 (a0 a1 a2 : V) : callV P A (k + 1) 29 [a0, a1, a2] M = (sVs P (callV P A k) [] false f29.body [some a0, some a1, some a2] M).fin false M.length := by
  simp only [callV, H.fn29]
  rfl
/-- is_possible_answer -/
theorem c30 (a0 a1 a2 : V) : callV P A (k + 1) 30 [a0, a1, a2] M = (sVs P (callV P A k) [] false f30.body [some a0, some a1, some a2] M).fin false M.length := by
  simp only [callV, H.fn30]
  rfl
/-- _law_pail -/
theorem c31 (a0 a1 : V) : callV P A (k + 1) 31 [a0, a1] M = (sVs P (callV P A k) [] true f31.body [some a0, some a1, none, none, none, none] M).fin true M.length := by
  simp only [callV, H.fn31]
  rfl
/-- _law_dip -/
theorem c32 (a0 a1 : V) : callV P A (k + 1) 32 [a0, a1] M = (sVs P (callV P A k) [] false f32.body [some a0, some a1, none, none] M).fin false M.length := by
  simp only [callV, H.fn32]
  rfl
/-- _law_any -/
theorem c33 (a0 a1 : V) : callV P A (k + 1) 33 [a0, a1] M = (sVs P (callV P A k) [] false f33.body [some a0, some a1] M).fin false M.length := by
  simp only [callV, H.fn33]
  rfl
/-- _law_stretch -/
theorem c34 (a0 a1 : V) : callV P A (k + 1) 34 [a0, a1] M = (sVs P (callV P A k) [] false f34.body [some a0, some a1, none] M).fin false M.length := by
  simp only [callV, H.fn34]
  rfl
/-- _law_sheet -/
theorem c35 (a0 a1 a2 : V) : callV P A (k + 1) 35 [a0, a1, a2] M = (sVs P (callV P A k) [4] false f35.body [some a0, some a1, some a2, none, none, none, none] M).fin false M.length := by
  simp only [callV, H.fn35]
  rfl
/-- _law_limits -/
theorem c36 (a0 a1 : V) : callV P A (k + 1) 36 [a0, a1] M = (sVs P (callV P A k) [2] false f36.body [some a0, some a1, none, none] M).fin false M.length := by
  simp only [callV, H.fn36]
  rfl
/-- _law_part -/
theorem c37 (a0 a1 : V) : callV P A (k + 1) 37 [a0, a1] M = (sVs P (callV P A k) [] false f37.body [some a0, some a1, none, none, none] M).fin false M.length := by
  simp only [callV, H.fn37]
  rfl
/-- _law_plus -/
theorem c38 (a0 a1 : V) : callV P A (k + 1) 38 [a0, a1] M = (sVs P (callV P A k) [] false f38.body [some a0, some a1] M).fin false M.length := by
  simp only [callV, H.fn38]
  rfl
/-- _law_sums -/
theorem c39 (a0 a1 : V) : callV P A (k + 1) 39 [a0, a1] M = (sVs P (callV P A k) [] false f39.body [some a0, some a1, none, none, none, none, none, none] M).fin false M.length := by
  simp only [callV, H.fn39]
  rfl
/-- _law_least -/
theorem c40 (a0 : V) : callV P A (k + 1) 40 [a0] M = (sVs P (callV P A k) [] false f40.body [some a0, none, none] M).fin false M.length := by
  simp only [callV, H.fn40]
  rfl
/-- _law_once_right -/
theorem c41 (a0 : V) : callV P A (k + 1) 41 [a0] M = (sVs P (callV P A k) [6, 7] false f41.body [some a0, none, none, none, none, none, none, none, none, none, none, none, none, none, none] M).fin false M.length := by
  simp only [callV, H.fn41]
  rfl
/-- _law_right -/
theorem c42 (a0 : V) : callV P A (k + 1) 42 [a0] M = (sVs P (callV P A k) [] false f42.body [some a0] M).fin false M.length := by
  simp only [callV, H.fn42]
  rfl
/-- law -/
theorem c43 (a0 : V) : callV P A (k + 1) 43 [a0] M = (sVs P (callV P A k) [] false f43.body [some a0, none] M).fin false M.length := by
  simp only [callV, H.fn43]
  rfl
end
end Mk
set_option maxRecDepth 100000
/-! tables: names, stretches, rows, columns -/
namespace Mk
open Mi Mv
abbrev stV (p : Int × Int) : V := .tup [.int p.1, .int p.2]
abbrev Row := List Nat × List (Int × Int)
abbrev rowV (r : Row) : V := .tup [.str r.1, .tup (r.2.map stV)]
def letters : List Nat := [97, 98, 99, 100, 101, 102, 103, 104, 105, 106, 107, 108, 109, 110, 111, 112, 113, 114, 115, 116, 117, 118, 119, 120, 121, 122]
def isName (s : List Nat) : Bool := decide (1 ≤ s.length) && (decide (s.length ≤ 8) && s.all fun c => hasSub [c] letters)
def isSt (a b : Int) (p : Int × Int) : Bool := decide (a ≤ p.1 ∧ p.1 ≤ b ∧ a ≤ p.2 ∧ p.2 ≤ b ∧ p.1 ≤ p.2)
abbrev isEnd (p : Int × Int) : Bool := isSt (-10000) 10000 p
section
variable {P : Prg} [H : Pk P] {k : Nat} {M : MS}
theorem is_whole_int (i : Int) : callV P A (k + 1) 0 [.int i] M = .ok (.bl true) M := by
  simp [c0, f0, sVs, sV, eV, eVs, eVo, eVc, eVi, eVt, eVts, eVtt, asgV, setAll, vszl, fldM, mthM, fresh, ofD, ofDs, lookV, putV]
theorem is_integer_int (i a b : Int) : callV P A (k + 2) 1 [.int i, .int a, .int b] M = .ok (.bl (decide (a ≤ i) && decide (i ≤ b))) M := by
  simp [c1, f1, sVs, sV, eV, eVs, eVo, eVc, eVi, eVt, eVts, eVtt, asgV, setAll, vszl, fldM, mthM, fresh, ofD, ofDs, lookV, putV, is_whole_int]
theorem is_tuple_of_tup (l : List V) (i : Int) : callV P A (k + 1) 3 [.tup l, .int i] M = .ok (.bl ((l.length : Int) == i)) M := by
  simp [c3, f3, sVs, sV, eV, eVs, eVo, eVc, eVi, eVt, eVts, eVtt, asgV, setAll, vszl, fldM, mthM, fresh, ofD, ofDs, lookV, putV]
theorem is_stretch_st (p : Int × Int) (a b : Int) : callV P A (k + 3) 10 [stV p, .int a, .int b] M = .ok (.bl (isSt a b p)) M := by
  simp [c10, f10, f10C1, sVs, sV, eV, eVs, eVo, eVc, eVi, eVt, eVts, eVtt, asgV, setAll, vszl, fldM, mthM, fresh, ofD, ofDs, lookV, putV, is_integer_int, is_tuple_of_tup, lcV_cons, isSt]
  rw [Bool.eq_iff_iff]
  simp
  omega
theorem is_end_stretch_st (p : Int × Int) : callV P A (k + 4) 11 [stV p] M = .ok (.bl (isEnd p)) M := by
  simp [c11, f11, sVs, sV, eV, eVs, eVo, eVc, eVi, eVt, eVts, eVtt, asgV, setAll, vszl, fldM, mthM, fresh, ofD, ofDs, lookV, putV, is_stretch_st]
theorem is_name_str (s : List Nat) (h : s.length ≤ 16777216) : callV P A (k + 1) 2 [.str s] M = .ok (.bl (isName s)) M := by
  have e : eV P (callV P A k) f2C1 [some (.str s), none] M = .ok (.lst (s.map fun c => .bl (hasSub [c] letters))) M := by
    simp only [f2C1, sVs, sV, eV, eVs, eVo, eVc, eVi, eVt, eVts, eVtt, asgV, setAll, vszl, fldM, mthM, fresh, ofD, ofDs, lookV, putV]
    simp
    rw [lcV_map (fun c => V.str [c]) (fun c => V.bl (hasSub [c] letters)) s rfl (by intro x _; simp [sVs, sV, eV, eVs, eVo, eVc, eVi, eVt, eVts, eVtt, asgV, setAll, vszl, fldM, mthM, fresh, ofD, ofDs, lookV, putV, letters]) h]
    rfl
  simp [c2, f2, sVs, sV, eV, eVs, eVo, eVc, eVi, eVt, eVts, eVtt, asgV, setAll, vszl, fldM, mthM, fresh, ofD, ofDs, lookV, putV, isName, h, e]
  split
  · grind
  · rw [Bool.eq_iff_iff]
    simp
    omega
theorem check_columns_ok (all : List (List Nat)) (hne : all ≠ []) (hall : ∀ s ∈ all, s.length ≤ 8 ∧ isName s = true) (hn : all.Nodup) (hl : all.length ≤ 4) : callV P A (k + 2) 12 [.tup (all.map .str)] M = .ok .non M := by
  have loop : ∃ e M', sV P (callV P A (k + 1)) [] false f12L1 [some (.tup (all.map .str)), none, none] M = .ok (.next e) M' ∧ ∃ x y, e = [some (.tup (all.map .str)), x, y] ∧ M' = M := by
    unfold f12L1
    refine for_next (src := all.zipIdx.map fun z => .tup [.int z.2, .str z.1]) (lv := []) (by simp [sVs, sV, eV, eVs, eVo, eVc, eVi, eVt, eVts, eVtt, asgV, setAll, vszl, fldM, mthM, fresh, ofD, ofDs, lookV, putV]) (fun i env M' => ∃ x y, env = [some (.tup (all.map .str)), x, y] ∧ M' = M) ⟨_, _, rfl, rfl⟩ (fun _ _ _ _ _ => rfl) ?_
    rintro i v env M1 hv ⟨x, y, rfl, rfl⟩
    simp [List.getElem?_zipIdx] at hv
    obtain ⟨s, h1, rfl⟩ := hv
    have hi := (List.getElem?_eq_some_iff.mp h1).1
    have hs := hall s (List.mem_of_getElem? h1)
    refine ⟨[some (.tup (all.map .str)), some (.int i), some (.str s)], M1, [some (.tup (all.map .str)), some (.int i), some (.str s)], M1, by simp [sVs, sV, eV, eVs, eVo, eVc, eVi, eVt, eVts, eVtt, asgV, setAll, vszl, fldM, mthM, fresh, ofD, ofDs, lookV, putV, Tgs.len], ?_, _, _, rfl, rfl⟩
    have h4 : ¬ ((i : Int) = 4) := by omega
    have h5 : ¬ s ∈ all.take i := nodup_take hn h1
    simp [f12B1, sVs, sV, eV, eVs, eVo, eVc, eVi, eVt, eVts, eVtt, asgV, setAll, vszl, fldM, mthM, fresh, ofD, ofDs, lookV, putV, is_name_str, hs, h4, h5, show s.length ≤ 16777216 by omega]
  obtain ⟨e, M', h1, x, y, rfl, rfl⟩ := loop
  have : eqV (.tup (all.map .str)) (.tup []) = some false := by
    cases all with
    | nil => exact absurd rfl hne
    | cons a r =>
      unfold eqV
      simp only [deep, pdV, List.map_cons, mapO]
      rw [mapO_map _ V.str PD.str (by simp [pdV])]
      rfl
  simp [c12, f12, sVs, sV, eV, eVs, eVo, eVc, eVi, eVt, eVts, eVtt, asgV, setAll, vszl, fldM, mthM, fresh, ofD, ofDs, lookV, putV, this, h1]
theorem is_row_ok (r : Row) (hs : r.1.length ≤ 8) (hl : r.2.length ≤ 16777216) (m : Int) (names : List (List Nat)) : callV P A (k + 5) 13 [rowV r, .int m, .lst (names.map .str)] M = .ok (.bl (isName r.1 && !decide (r.1 ∈ names) && ((r.2.length : Int) == m) && r.2.all isEnd)) M := by
  have e : eV P (callV P A (k + 4)) f13C1 [some (rowV r), some (.int m), some (.lst (names.map .str)), none] M = .ok (.lst (r.2.map fun p => .bl (isEnd p))) M := by
    simp only [f13C1, sVs, sV, eV, eVs, eVo, eVc, eVi, eVt, eVts, eVtt, asgV, setAll, vszl, fldM, mthM, fresh, ofD, ofDs, lookV, putV]
    simp
    rw [lcV_map stV (fun p => V.bl (isEnd p)) r.2 rfl (by intro x _; simp [sVs, sV, eV, eVs, eVo, eVc, eVi, eVt, eVts, eVtt, asgV, setAll, vszl, fldM, mthM, fresh, ofD, ofDs, lookV, putV, is_end_stretch_st]) hl]
    rfl
  simp [c13, f13, sVs, sV, eV, eVs, eVo, eVc, eVi, eVt, eVts, eVtt, asgV, setAll, vszl, fldM, mthM, fresh, ofD, ofDs, lookV, putV, is_tuple_of_tup, is_name_str, show r.1.length ≤ 16777216 by omega, e]
  grind
/-- a table's rows are right -/
structure RowsOk (many : Nat) (rows : List Row) : Prop where
  ne : rows ≠ []
  len : rows.length ≤ 8
  name : ∀ r ∈ rows, r.1.length ≤ 8 ∧ isName r.1 = true
  wide : ∀ r ∈ rows, r.2.length = many
  ends : ∀ r ∈ rows, ∀ p ∈ r.2, isEnd p = true
  nd : (rows.map (·.1)).Nodup
theorem check_rows_ok (many : Nat) (hm : many ≤ 4) (rows : List Row) (h : RowsOk many rows) : callV P A (k + 6) 14 [.int many, .tup (rows.map rowV)] M = .ok .non M := by
  have cmp : ∀ (i : Nat) (x y z : Option V), eV P (callV P A (k + 5)) f14C1 [x, some (.tup (rows.map rowV)), some (.int i), y, z] M = .ok (.lst (((rows.map (·.1)).take i).map .str)) M := fun i x y z => by
    simp only [f14C1, sVs, sV, eV, eVs, eVo, eVc, eVi, eVt, eVts, eVtt, asgV, setAll, vszl, fldM, mthM, fresh, ofD, ofDs, lookV, putV]
    simp
    rw [← List.map_take, lcV_map rowV (fun r => V.str r.1) (rows.take i) rfl (by intro x _; simp [sVs, sV, eV, eVs, eVo, eVc, eVi, eVt, eVts, eVtt, asgV, setAll, vszl, fldM, mthM, fresh, ofD, ofDs, lookV, putV]) (by have := h.len; simp [vszl]; omega)]
    simp [List.map_take, Function.comp_def]
  have loop : ∃ e M', sV P (callV P A (k + 5)) [] false f14L1 [some (.int many), some (.tup (rows.map rowV)), none, none, none] M = .ok (.next e) M' ∧ ∃ x y, e = [some (.int many), some (.tup (rows.map rowV)), x, y, none] ∧ M' = M := by
    unfold f14L1
    refine for_next (src := rows.zipIdx.map fun z => .tup [.int z.2, rowV z.1]) (lv := []) (by simp [sVs, sV, eV, eVs, eVo, eVc, eVi, eVt, eVts, eVtt, asgV, setAll, vszl, fldM, mthM, fresh, ofD, ofDs, lookV, putV]) (fun i env M' => ∃ x y, env = [some (.int many), some (.tup (rows.map rowV)), x, y, none] ∧ M' = M) ⟨_, _, rfl, rfl⟩ (fun _ _ _ _ _ => rfl) ?_
    rintro i v env M1 hv ⟨x, y, rfl, rfl⟩
    simp [List.getElem?_zipIdx] at hv
    obtain ⟨s, t, h1, rfl⟩ := hv
    have hi := (List.getElem?_eq_some_iff.mp h1).1
    have hmem := List.mem_of_getElem? h1
    have hs := h.name _ hmem
    have hw := h.wide _ hmem
    have he := h.ends _ hmem
    have hlen := h.len
    refine ⟨[some (.int many), some (.tup (rows.map rowV)), some (.int i), some (rowV (s, t)), none], M1, [some (.int many), some (.tup (rows.map rowV)), some (.int i), some (rowV (s, t)), none], M1, by simp [sVs, sV, eV, eVs, eVo, eVc, eVi, eVt, eVts, eVtt, asgV, setAll, vszl, fldM, mthM, fresh, ofD, ofDs, lookV, putV, Tgs.len], ?_, _, _, rfl, rfl⟩
    have h4 : ¬ ((i : Int) = 8) := by omega
    have h5 : ¬ s ∈ (rows.map (·.1)).take i := nodup_take h.nd (by rw [List.getElem?_map, h1]; rfl)
    have e1 := fun y z => cmp i (some (.int many)) y z
    generalize (rows.map (·.1)).take i = nm at e1 h5
    have := is_row_ok (P := P) (k := k) (M := M1) (s, t) hs.1 (by simp at hw ⊢; omega) many nm
    simp at hs hw he
    simp [f14B1, sVs, sV, eV, eVs, eVo, eVc, eVi, eVt, eVts, eVtt, asgV, setAll, vszl, fldM, mthM, fresh, ofD, ofDs, lookV, putV, e1, this, h4, hs, h5, hw]
    exact he
  obtain ⟨e, M', h1, x, y, rfl, rfl⟩ := loop
  have : eqV (.tup (rows.map rowV)) (.tup []) = some false := eqV_ne_nil h.ne (fun r => ⟨.tup [.str r.1, .tup (r.2.map fun p => .tup [.int p.1, .int p.2])], by
    simp only [pdV, mapO]
    rw [mapO_map _ stV (fun p => .tup [.int p.1, .int p.2]) (by simp [pdV, mapO])]⟩)
  simp [c14, f14, sVs, sV, eV, eVs, eVo, eVc, eVi, eVt, eVts, eVtt, asgV, setAll, vszl, fldM, mthM, fresh, ofD, ofDs, lookV, putV, this, h1]
/-- a table -/
abbrev tabV (heads : List (List Nat)) (rows : List Row) : V := .ins 44 [("heads", .tup (heads.map .str)), ("lines", .tup (rows.map rowV))]
structure HeadsOk (heads : List (List Nat)) : Prop where
  ne : heads ≠ []
  len : heads.length ≤ 4
  name : ∀ s ∈ heads, s.length ≤ 8 ∧ isName s = true
  nd : heads.Nodup
theorem init_ok {heads : List (List Nat)} {rows : List Row} (h : HeadsOk heads) (h2 : RowsOk heads.length rows) : callV P A (k + 7) 15 [.ref M.length, .tup (heads.map .str), .tup (rows.map rowV)] (M ++ [⟨true, .ins 44 []⟩]) = .ok .non (M ++ [⟨true, tabV heads rows⟩]) := by
  have e1 := fun M => check_columns_ok (P := P) (k := k + 4) (M := M) heads h.ne h.name h.nd h.len
  have e2 := fun M => check_rows_ok (P := P) (k := k) (M := M) heads.length h.len rows h2
  simp [c15, f15, sVs, sV, eV, eVs, eVo, eVc, eVi, eVt, eVts, eVtt, asgV, setAll, vszl, fldM, mthM, fresh, ofD, ofDs, lookV, putV, e1, e2, setFldM]
/-- a table is made -/
theorem mk_ok {heads : List (List Nat)} {rows : List Row} (h : HeadsOk heads) (h2 : RowsOk heads.length rows) : mkM P (callV P A (k + 7)) 44 [] [.tup (heads.map .str), .tup (rows.map rowV)] M = .ok (tabV heads rows) M := by
  simp [mkM, init_ok h h2]
theorem columns_ok (heads : List (List Nat)) (rows : List Row) : callV P A (k + 1) 16 [tabV heads rows] M = .ok (.tup (heads.map .str)) M := by
  simp [c16, f16, sVs, sV, eV, eVs, eVo, eVc, eVi, eVt, eVts, eVtt, asgV, setAll, vszl, fldM, mthM, fresh, ofD, ofDs, lookV, putV]
theorem rows_ok (heads : List (List Nat)) (rows : List Row) : callV P A (k + 1) 17 [tabV heads rows] M = .ok (.tup (rows.map rowV)) M := by
  simp [c17, f17, sVs, sV, eV, eVs, eVo, eVc, eVi, eVt, eVts, eVtt, asgV, setAll, vszl, fldM, mthM, fresh, ofD, ofDs, lookV, putV]
theorem check_table_ok (heads : List (List Nat)) (rows : List Row) : callV P A (k + 1) 19 [tabV heads rows] M = .ok .non M := by
  simp [c19, f19, sVs, sV, eV, eVs, eVo, eVc, eVi, eVt, eVts, eVtt, asgV, setAll, vszl, fldM, mthM, fresh, ofD, ofDs, lookV, putV]
/-- the least and the greatest sum of a row -/
def lowSum (ps : List (Int × Int)) (ws : List Int) : Int := ((ws.zip ps).map fun z => z.1 * (if 0 < z.1 then z.2.1 else z.2.2)).sum
def highSum (ps : List (Int × Int)) (ws : List Int) : Int := ((ws.zip ps).map fun z => z.1 * (if 0 < z.1 then z.2.2 else z.2.1)).sum
abbrev endsV (ps : List (Int × Int)) (ws : List Int) : V := .tup [.int (lowSum ps ws), .int (highSum ps ws)]
/-- a table's weights -/
structure WsOk (n : Nat) (ws : List Int) : Prop where
  len : ws.length = n
  low : ∀ w ∈ ws, -1000 ≤ w ∧ w ≤ 1000
end
end Mk
set_option maxRecDepth 100000
/-! fractions: q stands as (q.num, q.den) -/
namespace Mk
open Mi Mv
abbrev qV (q : Rat) : V := .tup [.int q.num, .int q.den]
theorem abs_nat (i : Int) : (if i < 0 then -i else i) = (i.natAbs : Int) := by split <;> omega
theorem low_num (t : Int) (b : Nat) (hb : 0 < b) : t / ((Nat.gcd t.natAbs b : Nat) : Int) = (mkRat t b).num := by
  rw [Rat.num_mkRat, if_neg (by omega), Nat.gcd_comm]
theorem low_den (t : Int) (b : Nat) (hb : 0 < b) : (b : Int) / ((Nat.gcd t.natAbs b : Nat) : Int) = ((mkRat t b).den : Int) := by
  rw [Rat.den_mkRat, if_neg (by omega), Nat.gcd_comm]
  rfl
theorem mkRat_int (n : Int) : mkRat n 1 = (n : Rat) := Rat.ext (by rw [Rat.num_mkRat]; simp) (by rw [Rat.den_mkRat]; simp)
section
variable {P : Prg} [H : Pk P] {k : Nat} {M : MS}
theorem common_loop (cl : ClV) : ∀ (n b a fl : Nat), b ≤ n → n < fl → whileV (fun env M => (eV P cl (.cmp .gt (.var 1) (.int 0)) env M).bind fun x M => truthM x M) (fun env M => sVs P cl [] false f4B1 env M) fl [some (.int a), some (.int b)] M = .ok (.next [some (.int (Nat.gcd a b : Nat)), some (.int 0)]) M
  | n, 0, a, 0, _, h => by omega
  | n, 0, a, fl + 1, _, _ => by
    simp [whileV, sVs, sV, eV, eVs, eVo, eVc, eVi, eVt, eVts, eVtt, asgV, setAll, vszl, fldM, mthM, fresh, ofD, ofDs, lookV, putV, Tgs.len]
  | 0, b + 1, a, _, h, _ => by omega
  | n + 1, b + 1, a, 0, _, h => by omega
  | n + 1, b + 1, a, fl + 1, h, h2 => by
    have hm : a % (b + 1) < b + 1 := Nat.mod_lt _ (by omega)
    have ih := common_loop cl n (a % (b + 1)) (b + 1) fl (by omega) (by omega)
    have hg : Nat.gcd a (b + 1) = Nat.gcd (b + 1) (a % (b + 1)) := by
      rw [Nat.gcd_comm a, Nat.gcd_rec, Nat.gcd_comm]
    have hb : (0 : Int) < ((b + 1 : Nat) : Int) := by omega
    have hmod : bopV .mod (.int a) (.int (b + 1 : Nat)) = some (.int ((a % (b + 1) : Nat) : Int)) := by
      rw [bop_mod hb]
      rfl
    rw [hg, ← ih]
    generalize hc : b + 1 = c at *
    have hc0 : 0 < c := by omega
    simp [whileV, f4B1, sVs, sV, eV, eVs, eVo, eVc, eVi, eVt, eVts, eVtt, asgV, setAll, vszl, fldM, mthM, fresh, ofD, ofDs, lookV, putV, Tgs.len, hmod, hc0]
theorem common_ok (a b : Nat) (hb : b < 100000000000000000000) : callV P A (k + 1) 4 [.int a, .int b] M = .ok (.int (Nat.gcd a b : Nat)) M := by
  have := common_loop (P := P) (M := M) (callV P A k) b b a fuel (Nat.le_refl _) (by unfold fuel; omega)
  simp only [c4, f4, f4L1, sVs, sV]
  rw [this]
  simp [sVs, sV, eV, eVs, eVo, eVc, eVi, eVt, eVts, eVtt, asgV, setAll, vszl, fldM, mthM, fresh, ofD, ofDs, lookV, putV]
theorem lowest_ok (t : Int) (b : Nat) (h0 : 0 < b) (hb : b < 1073741824) : callV P A (k + 2) 5 [.int t, .int b] M = .ok (qV (mkRat t b)) M := by
  have e1 := fun M => common_ok (P := P) (k := k) (M := M) t.natAbs b (by omega)
  have hg : 0 < Nat.gcd t.natAbs b := Nat.gcd_pos_of_pos_right _ h0
  have hg2 : Nat.gcd t.natAbs b ≤ b := Nat.gcd_le_right _ h0
  have d1 := bop_fdiv (b := (Nat.gcd t.natAbs b : Nat)) (by omega) t
  have d2 := bop_fdiv (b := (Nat.gcd t.natAbs b : Nat)) (by omega) (b : Int)
  rw [low_num t b h0] at d1
  rw [low_den t b h0] at d2
  have ab := abs_nat t
  generalize Nat.gcd t.natAbs b = g at *
  simp [c5, f5, sVs, sV, eV, eVs, eVo, eVc, eVi, eVt, eVts, eVtt, asgV, setAll, vszl, fldM, mthM, fresh, ofD, ofDs, lookV, putV, ab, e1, d1, d2]
theorem plus_ok (p q : Rat) (hp : p.den < 32768) (hq : q.den < 32768) : callV P A (k + 3) 6 [qV p, qV q] M = .ok (qV (p + q)) M := by
  have hpp := p.den_pos
  have hqp := q.den_pos
  have hb : p.den * q.den < 1073741824 := Nat.lt_of_lt_of_le (Nat.mul_lt_mul'' hp hq) (by decide)
  have e1 := fun M => lowest_ok (P := P) (k := k) (M := M) (p.num * q.den + q.num * p.den) (p.den * q.den) (Nat.mul_pos hpp hqp) hb
  rw [← Rat.add_def', Int.natCast_mul] at e1
  have m1 := bop_mul_r (b := (q.den : Int)) (by omega) p.num
  have m2 := bop_mul_r (b := (p.den : Int)) (by omega) q.num
  have m3 := bop_mul_r (b := (q.den : Int)) (by omega) (p.den : Int)
  generalize (p + q) = r at *
  simp [c6, f6, sVs, sV, eV, eVs, eVo, eVc, eVi, eVt, eVts, eVtt, asgV, setAll, vszl, fldM, mthM, fresh, ofD, ofDs, lookV, putV, m1, m2, m3, e1]
theorem times_ok (p q : Rat) (hp : p.den < 32768) (hq : q.den < 32768) (hn : q.num.natAbs < 18446744073709551616) : callV P A (k + 3) 7 [qV p, qV q] M = .ok (qV (p * q)) M := by
  have hpp := p.den_pos
  have hqp := q.den_pos
  have hb : p.den * q.den < 1073741824 := Nat.lt_of_lt_of_le (Nat.mul_lt_mul'' hp hq) (by decide)
  have e1 := fun M => lowest_ok (P := P) (k := k) (M := M) (p.num * q.num) (p.den * q.den) (Nat.mul_pos hpp hqp) hb
  rw [← Rat.mul_def', Int.natCast_mul] at e1
  have m1 := bop_mul_r (b := q.num) (by omega) p.num
  have m3 := bop_mul_r (b := (q.den : Int)) (by omega) (p.den : Int)
  generalize (p * q) = r at *
  simp [c7, f7, sVs, sV, eV, eVs, eVo, eVc, eVi, eVt, eVts, eVtt, asgV, setAll, vszl, fldM, mthM, fresh, ofD, ofDs, lookV, putV, m1, m3, e1]
theorem is_above_ok (p q : Rat) (hp : p.den < 32768) (hq : q.den < 32768) : callV P A (k + 1) 8 [qV p, qV q] M = .ok (.bl (decide (q < p))) M := by
  have m1 := bop_mul_r (b := (q.den : Int)) (by omega) p.num
  have m2 := bop_mul_r (b := (p.den : Int)) (by omega) q.num
  have hlt : decide (q < p) = decide (p.num * q.den > q.num * p.den) := by
    rw [Bool.eq_iff_iff]
    simp only [decide_eq_true_eq]
    exact Rat.lt_iff q p
  rw [hlt]
  simp [c8, f8, sVs, sV, eV, eVs, eVo, eVc, eVi, eVt, eVts, eVtt, asgV, setAll, vszl, fldM, mthM, fresh, ofD, ofDs, lookV, putV, m1, m2]
theorem is_fraction_ok (q : Rat) (hq : q.den < 1073741824) : callV P A (k + 2) 9 [qV q] M = .ok (.bl true) M := by
  have e1 := fun M => common_ok (P := P) (k := k) (M := M) q.num.natAbs q.den (by omega)
  have hr : Nat.gcd q.num.natAbs q.den = 1 := q.reduced
  rw [hr] at e1
  have hp := q.den_pos
  have ab := abs_nat q.num
  have w1 := fun i M => is_whole_int (P := P) (k := k) (M := M) i
  have w2 := fun M => is_tuple_of_tup (P := P) (k := k) (M := M) [.int q.num, .int q.den] 2
  simp at w2
  simp [c9, f9, sVs, sV, eV, eVs, eVo, eVc, eVi, eVt, eVts, eVtt, asgV, setAll, vszl, fldM, mthM, fresh, ofD, ofDs, lookV, putV, w1, w2, ab, e1, hp]
end
end Mk
set_option maxRecDepth 100000
/-! pails -/
namespace Mk
open Mi Mv
abbrev pailV (a b c : Int) : V := .lst [.int a, .int b, .int c]
/-- a pail stands at i, so many draws from it at most -/
def Pa (M : MS) (i N : Nat) : Prop := ∃ a b c : Int, M[i]? = some ⟨true, pailV a b c⟩ ∧ 0 ≤ a ∧ 0 ≤ c ∧ c ≤ N
/-- what has changed: the pail, so many draws more at most -/
def Dr (i N : Nat) (M M' : MS) : Prop := (∃ o, M' = M.set i o) ∧ Pa M' i N
theorem Pa.lt {M : MS} {i N : Nat} (h : Pa M i N) : i < M.length := by
  obtain ⟨a, b, c, h, _⟩ := h
  exact (List.getElem?_eq_some_iff.mp h).1
theorem Dr.len {M M' : MS} {i N : Nat} (h : Dr i N M M') : M'.length = M.length := by
  obtain ⟨⟨o, rfl⟩, _⟩ := h
  simp
theorem Dr.trans {M M1 M2 : MS} {i N N2 : Nat} (h : Dr i N M M1) (h2 : Dr i N2 M1 M2) : Dr i N2 M M2 := by
  obtain ⟨⟨o, rfl⟩, _⟩ := h
  obtain ⟨⟨o2, rfl⟩, p⟩ := h2
  exact ⟨⟨o2, by simp⟩, p⟩
theorem Pa.mono {M : MS} {i N N' : Nat} (h : Pa M i N) (l : N ≤ N') : Pa M i N' := by
  obtain ⟨a, b, c, h, h1, h2, h3⟩ := h
  exact ⟨a, b, c, h, h1, h2, by omega⟩
theorem Dr.mono {M M' : MS} {i N N' : Nat} (h : Dr i N M M') (l : N ≤ N') : Dr i N' M M' := ⟨h.1, h.2.mono l⟩
theorem Dr.refl {M : MS} {i N : Nat} (h : Pa M i N) : Dr i N M M := by
  refine ⟨?_, h⟩
  have hl := h.lt
  exact ⟨M[i], by simp⟩
/-- with things of the def's own behind -/
theorem Pa.app {M : MS} {i N : Nat} (h : Pa M i N) (T : MS) : Pa (M ++ T) i N := by
  have hl := h.lt
  obtain ⟨a, b, c, h, h1⟩ := h
  exact ⟨a, b, c, by rw [app_getl hl]; exact h, h1⟩
theorem Dr.unapp {M T M2 : MS} {i N : Nat} (h : Dr i N (M ++ T) M2) (hl : i < M.length) : ∃ M', M2 = M' ++ T ∧ Dr i N M M' := by
  obtain ⟨⟨o, rfl⟩, a, b, c, h, h1⟩ := h
  rw [app_setl hl] at h ⊢
  refine ⟨_, rfl, ⟨o, rfl⟩, a, b, c, ?_, h1⟩
  rw [app_getl (by simpa using hl)] at h
  exact h
theorem perm_erase {X : Type} : ∀ {ls : List X} {x : X} {r : Nat}, ls[r]? = some x → (x :: ls.eraseIdx r).Perm ls
  | [], x, r, h => by simp at h
  | y :: l, x, 0, h => by
    simp only [List.getElem?_cons_zero, Option.some.injEq] at h
    subst h
    exact .refl _
  | y :: l, x, r + 1, h => by
    simp only [List.getElem?_cons_succ] at h
    exact (List.Perm.swap _ _ _).trans ((perm_erase h).cons y)
theorem perm_pop {X : Type} {fs ls all : List X} {x : X} {r : Nat} (h : (fs ++ ls).Perm all) (hr : ls[r]? = some x) : ((fs ++ [x]) ++ ls.eraseIdx r).Perm all := by
  refine List.Perm.trans ?_ h
  rw [List.append_assoc]
  exact List.Perm.append_left _ (perm_erase hr)
/-- things drawn one by one -/
theorem draws_ok {X : Type} {i : Nat} (enc : X → V) (Q : V → X → Prop) (c B : Nat) (f : V → MS → RV (Option V)) :
    ∀ (l : List V) (acc : List X) (N : Nat) (M : MS), (∀ v ∈ l, ∀ M N, Pa M i N → N < B → ∃ x M', f v M = .ok (some (enc x)) M' ∧ Q v x ∧ Dr i (N + c) M M') → Pa M i N → N + c * l.length < B → acc.length + l.length ≤ 1000 → ∃ (xs : List X) (M' : MS), lcV f (fun _ => true) (acc.map enc) l M = .ok ((acc ++ xs).map enc) M' ∧ xs.length = l.length ∧ (∀ z ∈ l.zip xs, Q z.1 z.2) ∧ Dr i (N + c * l.length) M M'
  | [], acc, N, M, hf, h, hN, hl => ⟨[], M, by simp, by simp, by simp, .refl h⟩
  | v :: r, acc, N, M, hf, h, hN, hl => by
    simp only [List.length_cons, Nat.mul_add, Nat.mul_one] at hN hl
    obtain ⟨x, M1, e1, h1, d1⟩ := hf v List.mem_cons_self M N h (by omega)
    obtain ⟨xs, M2, e2, h2, h3, d2⟩ := draws_ok enc Q c B f r (acc ++ [x]) (N + c) M1 (fun w hw => hf w (List.mem_cons_of_mem _ hw)) d1.2 (by omega) (by simp; omega)
    refine ⟨x :: xs, M2, ?_, by simp [h2], ?_, (d1.trans d2).mono (by simp only [List.length_cons, Nat.mul_add]; omega)⟩
    · rw [lcV_cons]
      have hlt : acc.length < 16777216 := by omega
      simp only [e1, vb_ok, calm_ok, if_true, List.length_map, vszl, hlt]
      have : acc.map enc ++ [enc x] = (acc ++ [x]).map enc := by simp
      rw [this, e2]
      simp
    · intro z hz
      rw [List.zip_cons_cons] at hz
      rcases List.mem_cons.mp hz with e | hz
      · subst e; exact h1
      · exact h3 z hz
theorem all_of_zip {X Y : Type} {Q : Y → Prop} : ∀ {l : List X} {xs : List Y}, xs.length = l.length → (∀ z ∈ l.zip xs, Q z.2) → ∀ x ∈ xs, Q x
  | [], [], _, _, x, hx => by cases hx
  | a :: l, b :: xs, h, hz, x, hx => by
    rcases List.mem_cons.mp hx with e | hx
    · subst e; exact hz (a, x) (by simp)
    · exact all_of_zip (by simpa using h) (fun z m => hz z (by rw [List.zip_cons_cons]; exact List.mem_cons_of_mem _ m)) x hx
  | [], _ :: _, h, _, _, _ => by simp at h
  | _ :: _, [], h, _, _, hx => by cases hx
end Mk
set_option maxRecDepth 100000
/-! draws of k39 -/
namespace Mk
open Mi Mv
section
variable {P : Prg} [H : Pk P] {k : Nat} {M : MS}
theorem dip_ok {i N : Nat} {n : Int} (h : Pa M i N) (hN : N < 2 ^ 60) (hn : 0 < n) (hn2 : n < 1073741824) : ∃ (r : Nat) (M' : MS), callV P A (k + 1) 32 [.ref i, .int n] M = .ok (.int r) M' ∧ (r : Int) < n ∧ Dr i (N + 1) M M' := by
  have hl := h.lt
  obtain ⟨a, b, c, e, h1, h2, h3⟩ := h
  have hs : ∀ o, (M.set i o)[i]? = some o := fun o => by simp [hl]
  by_cases ha : 0 < a
  · refine ⟨(a % n).toNat, M.set i ⟨true, pailV (a / n) b (c + 1)⟩, ?_, ?_, ⟨_, rfl⟩, a / n, b, c + 1, by simp [hl], ?_, by omega, by omega⟩
    · have := Int.emod_nonneg a (by omega : n ≠ 0)
      have h8 : max (a % n) 0 = a % n := by omega
      clear hl
      simp [c32, f32, sVs, sV, eV, eVs, eVo, eVc, eVi, eVt, eVts, eVtt, asgV, setAll, vszl, fldM, mthM, fresh, ofD, ofDs, lookV, putV, idxM, rd2, rd_ref e, rd_ref (hs _), ha, bi2V, hn, hn2, Tgs.len, setIdxM, e, hs]
      omega
    · have := Int.emod_nonneg a (by omega : n ≠ 0)
      have := Int.emod_lt_of_pos a hn
      omega
    · exact Int.ediv_nonneg h1 (by omega)
  · obtain ⟨b', hb⟩ : ∃ b', b' = (b * 48383 + (9311 * (c + 1) + 5 * (c + 1) * (c + 1))) % 2147483489 := ⟨_, rfl⟩
    refine ⟨(b' / 1811 % n).toNat, M.set i ⟨true, pailV a b' (c + 1)⟩, ?_, ?_, ⟨_, rfl⟩, a, b', c + 1, by simp [hl], h1, by omega, by omega⟩
    · have := Int.emod_nonneg (b' / 1811) (by omega : n ≠ 0)
      have h8 : max (b' / 1811 % n) 0 = b' / 1811 % n := by omega
      clear hl
      simp [← hb, c32, f32, sVs, sV, eV, eVs, eVo, eVc, eVi, eVt, eVts, eVtt, asgV, setAll, vszl, fldM, mthM, fresh, ofD, ofDs, lookV, putV, idxM, rd2, rd_ref e, rd_ref (hs _), ha, Tgs.len, setIdxM, e, hs, bop_mul_r (b := c + 1) (by omega), bop_mul_r (b := 48383), bop_mul_l (a := 9311), bop_mul_l (a := 5), bop_mod, bop_fdiv, bop_mod hn]
      omega
    · have := Int.emod_nonneg (b' / 1811) (by omega : n ≠ 0)
      have := Int.emod_lt_of_pos (b' / 1811) hn
      omega
theorem any_ok {i N : Nat} {l : List V} (h : Pa M i N) (hN : N < 2 ^ 60) (hl : 0 < l.length) (hl2 : l.length < 1000000) (hnr : ∀ v ∈ l, v.nr = true) : ∃ (v : V) (M' : MS), callV P A (k + 2) 33 [.ref i, .lst l] M = .ok v M' ∧ v ∈ l ∧ Dr i (N + 1) M M' := by
  obtain ⟨r, M', e, h1, h2⟩ := dip_ok (P := P) (k := k) (n := l.length) h hN (by omega) (by omega)
  have hr : r < l.length := by omega
  refine ⟨l[r], M', ?_, List.getElem_mem hr, h2⟩
  have hv := hnr _ (List.getElem_mem hr)
  simp [c33, f33, sVs, sV, eV, eVs, eVo, eVc, eVi, eVt, eVts, eVtt, asgV, setAll, vszl, fldM, mthM, fresh, ofD, ofDs, lookV, putV, e, hr, hv, ← h2.len]
theorem stretch_ok {i N : Nat} (h : Pa M i N) (hN : N < 2 ^ 59) : ∃ (p : Int × Int) (M' : MS), callV P A (k + 3) 34 [.ref i, .int 4] M = .ok (stV p) M' ∧ isEnd p = true ∧ Dr i (N + 4) M M' := by
  obtain ⟨r1, M1, e1, h1, d1⟩ := dip_ok (P := P) (k := k + 1) (n := 9) h (by omega) (by omega) (by omega)
  obtain ⟨r2, M2, e2, h2, d2⟩ := dip_ok (P := P) (k := k + 1) (n := 30) d1.2 (by omega) (by omega) (by omega)
  by_cases hr : r2 = 0
  · obtain ⟨v, M3, e3, h3, d3⟩ := any_ok (P := P) (k := k) (l := [.int (-10000), .int 9997, .int (-1000), .int 500]) d2.2 (by omega) (by simp) (by simp) (by simp)
    have ex : ∃ n : Int, v = .int n ∧ -10000 ≤ n ∧ n ≤ 9997 := by
      simp at h3
      rcases h3 with rfl | rfl | rfl | rfl <;> exact ⟨_, rfl, by omega, by omega⟩
    obtain ⟨n, rfl, hn⟩ := ex
    obtain ⟨r4, M4, e4, h4, d4⟩ := dip_ok (P := P) (k := k + 1) (n := 4) d3.2 (by omega) (by omega) (by omega)
    have hlen := (((d1.trans d2).trans d3).trans d4).len
    refine ⟨(n, n + r4), M4, ?_, by simp [isEnd, isSt]; omega, ((d1.trans d2).trans d3).trans d4⟩
    simp [c34, f34, sVs, sV, eV, eVs, eVo, eVc, eVi, eVt, eVts, eVtt, asgV, setAll, vszl, fldM, mthM, fresh, ofD, ofDs, lookV, putV, e1, e2, hr, e3, e4, ← hlen]
  · obtain ⟨r4, M4, e4, h4, d4⟩ := dip_ok (P := P) (k := k + 1) (n := 4) d2.2 (by omega) (by omega) (by omega)
    have hlen := ((d1.trans d2).trans d4).len
    refine ⟨((r1 : Int) - 4, (r1 : Int) - 4 + r4), M4, ?_, by simp [isEnd, isSt]; omega, ((d1.trans d2).trans d4).mono (by omega)⟩
    simp [c34, f34, sVs, sV, eV, eVs, eVo, eVc, eVi, eVt, eVts, eVtt, asgV, setAll, vszl, fldM, mthM, fresh, ofD, ofDs, lookV, putV, e1, e2, hr, e4, ← hlen]
end
end Mk
set_option maxRecDepth 100000
/-! the sheet, the limits -/
namespace Mk
open Mi Mv
def titles4 : List (List Nat) := [[120], [121], [122, 101, 116, 97], [119]]
def names4 : List (List Nat) := [[110, 101, 101, 100], [114, 111, 111, 109], [99], [100, 117, 116, 121]]
theorem titles4_ok : ∀ n, HeadsOk (titles4.take (n + 1)) := fun n => by
  have hd : titles4.Nodup ∧ ∀ s ∈ titles4, s.length ≤ 8 ∧ isName s = true := by decide +kernel
  refine ⟨by simp [titles4], by simp [titles4]; omega, fun s hs => hd.2 s (List.mem_of_mem_take hs), (List.take_sublist _ _).nodup hd.1⟩
theorem names4_ok : names4.Nodup ∧ ∀ s ∈ names4, s.length ≤ 8 ∧ isName s = true := by decide +kernel
section
variable {P : Prg} [H : Pk P] {k : Nat} {M : MS}
def SI (i N : Nat) (heads : List (List Nat)) (M : MS) (j : Nat) (e : VE) (M' : MS) : Prop := ∃ (x y : Option V) (Mp : MS) (fs : List Row), e = [some (.ref i), some (.int 4), some (.int 4), some (.tup (heads.map .str)), some (.ref M.length), x, y] ∧ M' = Mp ++ [⟨true, .lst (fs.map rowV)⟩] ∧ Dr i (N + 16 * j) M Mp ∧ fs.map (·.1) = names4.take j ∧ (∀ r ∈ fs, r.2.length = heads.length) ∧ ∀ r ∈ fs, ∀ p ∈ r.2, isEnd p = true
theorem sheet_ok {i N : Nat} (h : Pa M i N) (hN : N < 2 ^ 58) : ∃ (heads : List (List Nat)) (rows : List Row) (M' : MS), callV P A (k + 8) 35 [.ref i, .int 4, .int 4] M = .ok (tabV heads rows) M' ∧ HeadsOk heads ∧ RowsOk heads.length rows ∧ rows.length ≤ 4 ∧ Dr i (N + 66) M M' := by
  have hi := h.lt
  obtain ⟨r1, M1, e1, h1, d1⟩ := dip_ok (P := P) (k := k + 6) (n := 4) h (by omega) (by omega) (by omega)
  have hh := titles4_ok r1
  obtain ⟨heads, hheads⟩ : ∃ heads, heads = titles4.take (r1 + 1) := ⟨_, rfl⟩
  rw [← hheads] at hh
  have hl4 := hh.len
  have L1 := d1.len
  obtain ⟨r2, M2', e2, h2, d2'⟩ := dip_ok (P := P) (k := k + 6) (n := 4) (d1.2.app [⟨true, .lst []⟩]) (by omega) (by omega) (by omega)
  obtain ⟨M2, rfl, d2⟩ := d2'.unapp d1.2.lt
  clear d2'
  have loop : ∃ e M', sV P (callV P A (k + 7)) [4] false f35L1 [some (.ref i), some (.int 4), some (.int 4), some (.tup (heads.map .str)), some (.ref M.length), none, none] (M1 ++ [⟨true, .lst []⟩]) = .ok (.next e) M' ∧ SI i (N + 2) heads M (1 + r2) e M' := by
    have := for_next (P := P) (cl := callV P A (k + 7)) (ms := [4]) (mk := false) (t := .name 5) (it := .rng1 (.bin .add (.int 1) (.call 32 [] (.cons (.var 0) (.cons (.var 2) .nil))))) (b := f35B1)
      (src := (List.range (1 + r2)).map fun (j : Nat) => .int j) (lv := []) (M := M1 ++ [⟨true, .lst []⟩]) (M0 := M2 ++ [⟨true, .lst []⟩]) (env := [some (.ref i), some (.int 4), some (.int 4), some (.tup (heads.map .str)), some (.ref M.length), none, none]) ?_ (SI i (N + 2) heads M) ?_ (fun _ _ _ _ _ => rfl) ?_
    · simpa [f35L1] using this
    · exact eVi_rng1 (by simp [sVs, sV, eV, eVs, eVo, eVc, eVi, eVt, eVts, eVtt, asgV, setAll, vszl, fldM, mthM, fresh, ofD, ofDs, lookV, putV, e2]) (by omega)
    · exact ⟨none, none, M2, [], rfl, rfl, (d1.trans d2), by simp, by simp, by simp⟩
    · rintro j v e M' hv ⟨x, y, Mp, fs, rfl, rfl, d, hf, hw, he⟩
      simp only [List.getElem?_map, Option.map_eq_some_iff] at hv
      obtain ⟨j', hj', rfl⟩ := hv
      have hj : j < 1 + r2 := by
        have := (List.getElem?_eq_some_iff.mp hj').1
        simpa using this
      have hjj : j' = j := by
        have := (List.getElem?_eq_some_iff.mp hj').2
        simpa using this.symm
      subst hjj
      have hL := d.len
      have hfl : fs.length ≤ 4 := by
        have := congrArg List.length hf
        simp [names4] at this
        omega
      obtain ⟨nm, hnm⟩ : ∃ nm, names4[j']? = some nm := ⟨names4[j']'(by simp [names4]; omega), by simp⟩
      have hcmp := draws_ok (i := i) stV (fun _ p => isEnd p = true) 4 (2 ^ 59) (lcF P (callV P A (k + 7)) (.call 34 [] (.cons (.var 0) (.cons (.int 4) .nil))) (.name 6) .nil [6] [some (.ref i), some (.int 4), some (.int 4), some (.tup (heads.map .str)), some (.ref M.length), some (.int j'), y]) (heads.map .str) [] (N + 2 + 16 * j') (Mp ++ [⟨true, .lst (fs.map rowV)⟩]) (fun v _ M N h hN => by
        obtain ⟨p, M', e, h1, d⟩ := stretch_ok (P := P) (k := k + 4) (M := M) h hN
        exact ⟨p, M', by simp [lcF, sVs, sV, eV, eVs, eVo, eVc, eVi, eVt, eVts, eVtt, asgV, setAll, vszl, fldM, mthM, fresh, ofD, ofDs, lookV, putV, e], h1, d⟩) (d.2.app _) (by simp; omega) (by simp; omega)
      obtain ⟨ps, M3', e3, h3, h4, d3'⟩ := hcmp
      have h4 := all_of_zip (Q := fun p => isEnd p = true) h3 h4
      simp only [List.length_map] at h3 d3'
      obtain ⟨M3, rfl, d3⟩ := d3'.unapp (by omega)
      clear d3'
      have hL3 := (d.trans d3).len
      have q0 : ∀ a : VO, (M3 ++ [a])[M.length]? = some a := fun a => app_get0 hL3
      have g0 : ∀ a : VO, (Mp ++ [a])[M.length]? = some a := fun a => app_get0 hL
      have s0 : ∀ a c : VO, (M3 ++ [a]).set M.length c = M3 ++ [c] := fun a c => app_set0 hL3 c
      have p2 := append_ok (M := M3 ++ [⟨true, .lst (fs.map rowV)⟩]) (v := rowV (nm, ps)) (q0 _) rfl (by simp; omega)
      rw [s0] at p2
      have cmp : eV P (callV P A (k + 7)) f35C1 [some (.ref i), some (.int 4), some (.int 4), some (.tup (heads.map .str)), some (.ref M.length), some (.int j'), y] (Mp ++ [⟨true, .lst (fs.map rowV)⟩]) = .ok (.lst (ps.map stV)) (M3 ++ [⟨true, .lst (fs.map rowV)⟩]) := by
        unfold f35C1
        rw [eV_lc]
        have : ∀ x, eVi P (callV P A (k + 7)) (.val (.var 3)) [some (.ref i), some (.int 4), some (.int 4), some (.tup (heads.map .str)), some (.ref M.length), some (.int j'), y] x = .ok (heads.map .str, []) x := fun x => by simp [sVs, sV, eV, eVs, eVo, eVc, eVi, eVt, eVts, eVtt, asgV, setAll, vszl, fldM, mthM, fresh, ofD, ofDs, lookV, putV]
        rw [this, vb_ok]
        simp only [sameV_nil]
        simp only [List.map_nil, List.nil_append] at e3
        rw [e3]
        rfl
      have ix : atIx [V.str [110, 101, 101, 100], .str [114, 111, 111, 109], .str [99], .str [100, 117, 116, 121]] (j' : Int) = some (.str nm) := by
        have : (names4.map V.str)[j']? = some (.str nm) := by rw [List.getElem?_map, hnm]; rfl
        rw [atIx_nat]
        exact this
      refine ⟨_, _, [some (.ref i), some (.int 4), some (.int 4), some (.tup (heads.map .str)), some (.ref M.length), some (.int j'), y], M3 ++ [⟨true, .lst ((fs ++ [(nm, ps)]).map rowV)⟩], by simp [sVs, sV, eV, eVs, eVo, eVc, eVi, eVt, eVts, eVtt, asgV, setAll, vszl, fldM, mthM, fresh, ofD, ofDs, lookV, putV]; exact ⟨rfl, rfl⟩, ?_, ⟨_, y, M3, _, rfl, rfl, (d.trans d3).mono (by omega), ?_, ?_, ?_⟩⟩
      · simp only [atIx_nat] at ix
        simp [f35B1, sVs, sV, eV, eVs, eVo, eVc, eVi, eVt, eVts, eVtt, asgV, setAll, vszl, fldM, mthM, fresh, ofD, ofDs, lookV, putV, rd, g0, q0, Mb.ty, ix, cmp, bi1M, insV, p2]
      · rw [List.map_append, hf, List.take_add_one, hnm]
        rfl
      · intro r hrm
        rcases List.mem_append.mp hrm with hrm | hrm
        · exact hw r hrm
        · rw [List.mem_singleton.mp hrm]; exact h3
      · intro r hrm
        rcases List.mem_append.mp hrm with hrm | hrm
        · exact he r hrm
        · rw [List.mem_singleton.mp hrm]; exact h4
  obtain ⟨e, M', el, x, y, Mp, fs, rfl, rfl, d, hf, hw, he⟩ := loop
  have hL := d.len
  have g0 : ∀ a : VO, (Mp ++ [a])[M.length]? = some a := fun a => app_get0 hL
  have fl : fs.length = 1 + r2 := by
    have := congrArg List.length hf
    simp [names4] at this
    omega
  have hr : RowsOk heads.length fs := {
    ne := fun e => by rw [e] at fl; simp at fl; omega
    len := by omega
    name := fun r hr => names4_ok.2 r.1 (List.mem_of_mem_take (i := 1 + r2) (by rw [← hf]; exact List.mem_map.mpr ⟨r, hr, rfl⟩))
    wide := hw
    ends := he
    nd := by rw [hf]; exact (List.take_sublist _ _).nodup names4_ok.1 }
  have mk := fun M => mk_ok (P := P) (k := k) (M := M) hh hr
  refine ⟨heads, fs, Mp, ?_, hh, hr, by omega, d.mono (by omega)⟩
  have ht : ∀ T : MS, (Mp ++ T).take M.length = Mp := fun T => by rw [← hL]; simp
  have cut : cutL [V.str [120], .str [121], .str [122, 101, 116, 97], .str [119]] none (some (1 + (r1 : Int))) = heads.map .str := by
    have := cut_to (titles4.map V.str) (1 + r1)
    rw [hheads, Nat.add_comm, List.map_take, ← this]
    rfl
  simp [c35, f35, sVs, sV, eV, eVs, eVo, eVc, eVi, eVt, eVts, eVtt, asgV, setAll, vszl, fldM, mthM, fresh, ofD, ofDs, lookV, putV, e1, cut, L1, el, bi1M, insV, rd, g0, mk, ht]
theorem limits_ok {i N : Nat} {heads : List (List Nat)} {rows : List Row} (hr4 : rows.length ≤ 4) (h : Pa M i N) (hN : N < 2 ^ 58) : ∃ (bs : List (Int × Int)) (M' : MS), callV P A (k + 4) 36 [.ref i, tabV heads rows] M = .ok (.tup (bs.map stV)) M' ∧ bs.length = rows.length ∧ (∀ p ∈ bs, isEnd p = true) ∧ Dr i (N + 20) M M' := by
  have hi := h.lt
  have loop : ∃ e M', sV P (callV P A (k + 3)) [2] false f36L1 [some (.ref i), some (tabV heads rows), some (.ref M.length), none] (M ++ [⟨true, .lst []⟩]) = .ok (.next e) M' ∧ ∃ (x : Option V) (Mp : MS) (bs : List (Int × Int)), e = [some (.ref i), some (tabV heads rows), some (.ref M.length), x] ∧ M' = Mp ++ [⟨true, .lst (bs.map stV)⟩] ∧ Dr i (N + 5 * rows.length) M Mp ∧ bs.length = rows.length ∧ ∀ p ∈ bs, isEnd p = true := by
    have := for_next (P := P) (cl := callV P A (k + 3)) (ms := [2]) (mk := false) (t := .name 3) (it := .val (.fld (.var 1) "rows")) (b := f36B1)
      (src := rows.map rowV) (lv := []) (M := M ++ [⟨true, .lst []⟩]) (M0 := M ++ [⟨true, .lst []⟩]) (env := [some (.ref i), some (tabV heads rows), some (.ref M.length), none]) ?_ (fun j e M' => ∃ (x : Option V) (Mp : MS) (bs : List (Int × Int)), e = [some (.ref i), some (tabV heads rows), some (.ref M.length), x] ∧ M' = Mp ++ [⟨true, .lst (bs.map stV)⟩] ∧ Dr i (N + 5 * j) M Mp ∧ bs.length = j ∧ ∀ p ∈ bs, isEnd p = true) ?_ (fun _ _ _ _ _ => rfl) ?_
    · simpa [f36L1] using this
    · have := fun M => rows_ok (P := P) (k := k + 2) (M := M) heads rows
      simp [sVs, sV, eV, eVs, eVo, eVc, eVi, eVt, eVts, eVtt, asgV, setAll, vszl, fldM, mthM, fresh, ofD, ofDs, lookV, putV, this]
    · exact ⟨none, M, [], rfl, rfl, .refl h, rfl, by simp⟩
    · rintro j v e M' hv ⟨x, Mp, bs, rfl, rfl, d, hb, he⟩
      have hj : j < rows.length := by
        have := (List.getElem?_eq_some_iff.mp hv).1
        simpa using this
      have hL := d.len
      have g0 : ∀ a : VO, (Mp ++ [a])[M.length]? = some a := fun a => app_get0 hL
      obtain ⟨r1, M2', e2, h2, d2'⟩ := dip_ok (P := P) (k := k + 2) (n := 3) (d.2.app [⟨true, .lst (bs.map stV)⟩]) (by omega) (by omega) (by omega)
      obtain ⟨M2, rfl, d2⟩ := d2'.unapp (by omega)
      clear d2'
      by_cases hz : r1 = 0
      · obtain ⟨p, M3', e3, h3, d3'⟩ := stretch_ok (P := P) (k := k) (d2.2.app [⟨true, .lst (bs.map stV)⟩]) (by omega)
        obtain ⟨M3, rfl, d3⟩ := d3'.unapp (by rw [d2.len]; omega)
        clear d3'
        have hL3 := ((d.trans d2).trans d3).len
        have p2 := append_ok (M := M3 ++ [⟨true, .lst (bs.map stV)⟩]) (v := stV p) (app_get0 hL3) rfl (by simp; omega)
        rw [app_set0 hL3] at p2
        refine ⟨_, _, [some (.ref i), some (tabV heads rows), some (.ref M.length), some v], M3 ++ [⟨true, .lst ((bs ++ [p]).map stV)⟩], by simp [sVs, sV, eV, eVs, eVo, eVc, eVi, eVt, eVts, eVtt, asgV, setAll, vszl, fldM, mthM, fresh, ofD, ofDs, lookV, putV]; exact ⟨rfl, rfl⟩, ?_, ⟨_, M3, _, rfl, rfl, ((d.trans d2).trans d3).mono (by omega), by simp [hb], ?_⟩⟩
        · simp [f36B1, sVs, sV, eV, eVs, eVo, eVc, eVi, eVt, eVts, eVtt, asgV, setAll, vszl, fldM, mthM, fresh, ofD, ofDs, lookV, putV, rd, g0, Mb.ty, e2, hz, e3, p2]
        · intro q hq
          rcases List.mem_append.mp hq with hq | hq
          · exact he q hq
          · rw [List.mem_singleton.mp hq]; exact h3
      · obtain ⟨r3, M3', e3, h3, d3'⟩ := dip_ok (P := P) (k := k + 2) (n := 6) (d2.2.app [⟨true, .lst (bs.map stV)⟩]) (by omega) (by omega) (by omega)
        obtain ⟨M3, rfl, d3⟩ := d3'.unapp (by rw [d2.len]; omega)
        clear d3'
        have hL3 := ((d.trans d2).trans d3).len
        have p2 := append_ok (M := M3 ++ [⟨true, .lst (bs.map stV)⟩]) (v := stV (2, 3 + r3)) (app_get0 hL3) rfl (by simp; omega)
        rw [app_set0 hL3] at p2
        refine ⟨_, _, [some (.ref i), some (tabV heads rows), some (.ref M.length), some v], M3 ++ [⟨true, .lst ((bs ++ [(2, 3 + (r3 : Int))]).map stV)⟩], by simp [sVs, sV, eV, eVs, eVo, eVc, eVi, eVt, eVts, eVtt, asgV, setAll, vszl, fldM, mthM, fresh, ofD, ofDs, lookV, putV]; exact ⟨rfl, rfl⟩, ?_, ⟨_, M3, _, rfl, rfl, ((d.trans d2).trans d3).mono (by omega), by simp [hb], ?_⟩⟩
        · simp [f36B1, sVs, sV, eV, eVs, eVo, eVc, eVi, eVt, eVts, eVtt, asgV, setAll, vszl, fldM, mthM, fresh, ofD, ofDs, lookV, putV, rd, g0, Mb.ty, e2, hz, e3, p2]
        · intro q hq
          rcases List.mem_append.mp hq with hq | hq
          · exact he q hq
          · rw [List.mem_singleton.mp hq]; simp [isEnd, isSt]; omega
  obtain ⟨e, M', el, x, Mp, bs, rfl, rfl, d, hb, he⟩ := loop
  have hL := d.len
  have g0 : ∀ a : VO, (Mp ++ [a])[M.length]? = some a := fun a => app_get0 hL
  have ht : ∀ T : MS, (Mp ++ T).take M.length = Mp := fun T => by rw [← hL]; simp
  refine ⟨bs, Mp, ?_, hb, he, d.mono (by omega)⟩
  simp [c36, f36, sVs, sV, eV, eVs, eVo, eVc, eVi, eVt, eVts, eVtt, asgV, setAll, vszl, fldM, mthM, fresh, ofD, ofDs, lookV, putV, el, bi1M, insV, rd, g0, ht]
end
end Mk
set_option maxRecDepth 100000
/-! the law's own fractions -/
namespace Mk
open Mi Mv
/-- Euclid's turns -/
def eucS (p : Nat × Nat) : Nat × Nat := if 0 < p.2 then (p.2, p.1 % p.2) else p
def euc : Nat → Nat × Nat → Nat × Nat
  | 0, p => p
  | n + 1, p => eucS (euc n p)
theorem eucS_gcd (p : Nat × Nat) : Nat.gcd (eucS p).1 (eucS p).2 = Nat.gcd p.1 p.2 := by
  unfold eucS
  split
  · dsimp only
    rw [Nat.gcd_comm p.1, Nat.gcd_rec p.2 p.1, Nat.gcd_comm]
  · rfl
theorem euc_gcd (p : Nat × Nat) : ∀ n, Nat.gcd (euc n p).1 (euc n p).2 = Nat.gcd p.1 p.2
  | 0 => rfl
  | n + 1 => by
    simp only [euc]
    rw [eucS_gcd, euc_gcd p n]
theorem eucS_two (p : Nat × Nat) : (eucS (eucS p)).2 ≤ p.2 / 2 := by
  obtain ⟨a, b⟩ := p
  by_cases hb : 0 < b
  · have h1 : eucS (a, b) = (b, a % b) := by unfold eucS; rw [if_pos hb]
    rw [h1]
    have hr := Nat.mod_lt a hb
    generalize a % b = r at *
    unfold eucS
    split
    · rename_i h0
      dsimp only at h0 ⊢
      have h2 := Nat.mod_lt b h0
      have h3 := Nat.div_add_mod b r
      have h4 : r ≤ r * (b / r) := Nat.le_mul_of_pos_right _ (Nat.div_pos (by omega) h0)
      omega
    · dsimp only at *
      omega
  · have h1 : eucS (a, b) = (a, b) := by unfold eucS; rw [if_neg hb]
    rw [h1, h1]
    dsimp only
    omega
theorem euc_half (p : Nat × Nat) : ∀ j, (euc (2 * j) p).2 ≤ p.2 / 2 ^ j
  | 0 => by simp [euc]
  | j + 1 => by
    have h := euc_half p j
    have h2 := eucS_two (euc (2 * j) p)
    have e : euc (2 * (j + 1)) p = eucS (eucS (euc (2 * j) p)) := rfl
    rw [e, Nat.pow_succ, ← Nat.div_div_eq_div_mul]
    omega
theorem euc_done (a b : Nat) (hb : b < 1073741824) : euc 200 (a, b) = (Nat.gcd a b, 0) := by
  have h : (euc 200 (a, b)).2 ≤ b / 2 ^ 100 := euc_half (a, b) 100
  have h0 : b / 2 ^ 100 = 0 := Nat.div_eq_of_lt (Nat.lt_trans hb (by decide))
  have g := euc_gcd (a, b) 200
  have e : (euc 200 (a, b)).2 = 0 := by
    rw [h0] at h
    omega
  rw [e] at g
  simp only [Nat.gcd_zero_right] at g
  exact Prod.ext g e
/-- sixths -/
def six (B : Nat) (q : Rat) : Prop := ∃ n : Int, n.natAbs ≤ B ∧ q = mkRat n 6
theorem six_mono {B C : Nat} {q : Rat} (h : six B q) (l : B ≤ C) : six C q := by
  obtain ⟨n, h1, h2⟩ := h
  exact ⟨n, by omega, h2⟩
theorem six_add {B C : Nat} {p q : Rat} (h : six B p) (h2 : six C q) : six (B + C) (p + q) := by
  obtain ⟨n, h1, rfl⟩ := h
  obtain ⟨m, h3, rfl⟩ := h2
  refine ⟨n + m, by omega, ?_⟩
  rw [Rat.mkRat_add_mkRat n m (by decide) (by decide), show n * ((6 : Nat) : Int) + m * ((6 : Nat) : Int) = (n + m) * ((6 : Nat) : Int) by omega, Rat.mkRat_mul_right (by decide)]
theorem six_bound {B : Nat} {q : Rat} (h : six B q) : q.den ≤ 6 ∧ q.num.natAbs ≤ B := by
  obtain ⟨n, h1, rfl⟩ := h
  obtain ⟨m, h2, h3, h4⟩ := Rat.mkRat_num_den (n := n) (d := 6) (n' := (mkRat n 6).num) (d' := (mkRat n 6).den) (z' := (mkRat n 6).den_nz) (c := (mkRat n 6).reduced) (by decide) rfl
  have hm : 0 < m := Nat.pos_of_ne_zero h2
  constructor
  · calc (mkRat n 6).den ≤ (mkRat n 6).den * m := Nat.le_mul_of_pos_right _ hm
      _ = 6 := h4.symm
  · have : n.natAbs = (mkRat n 6).num.natAbs * m := by
      conv => lhs; rw [h3]
      rw [Int.natAbs_mul]
      simp
    have h5 : (mkRat n 6).num.natAbs ≤ (mkRat n 6).num.natAbs * m := Nat.le_mul_of_pos_right _ hm
    omega
theorem int_mul (n : Int) (q : Rat) : mkRat (n * q.num) q.den = (n : Rat) * q := by
  rw [Rat.mul_def']
  simp
theorem six_mul {B : Nat} {q : Rat} (n : Int) (h : six B q) : six (n.natAbs * B) ((n : Rat) * q) := by
  obtain ⟨m, h1, rfl⟩ := h
  refine ⟨n * m, ?_, ?_⟩
  · rw [Int.natAbs_mul]
    exact Nat.mul_le_mul_left _ h1
  · rw [← mkRat_int, Rat.mkRat_mul_mkRat]
theorem six_draw {a : Int} {b : Nat} (ha : a.natAbs ≤ 4) (hb : b = 1 ∨ b = 2 ∨ b = 3) : six 24 (mkRat a b) := by
  rcases hb with rfl | rfl | rfl
  · exact ⟨a * 6, by omega, (Rat.mkRat_mul_right (n := a) (d := 1) (a := 6) (by decide)).symm⟩
  · exact ⟨a * 3, by omega, (Rat.mkRat_mul_right (n := a) (d := 2) (a := 3) (by decide)).symm⟩
  · exact ⟨a * 2, by omega, (Rat.mkRat_mul_right (n := a) (d := 3) (a := 2) (by decide)).symm⟩
theorem six_zero : six 0 0 := ⟨0, by simp, by simp⟩
section
variable {P : Prg} [H : Pk P] {k : Nat} {M : MS}
theorem part_ok (t : Int) (b : Nat) (h0 : 0 < b) (hb : b < 1073741824) : callV P A (k + 1) 37 [.int t, .int b] M = .ok (qV (mkRat t b)) M := by
  have loop : ∃ e M', sV P (callV P A k) [] false f37L1 [some (.int t), some (.int b), none, some (.int t.natAbs), some (.int b)] M = .ok (.next e) M' ∧ ∃ x, e = [some (.int t), some (.int b), x, some (.int (euc 200 (t.natAbs, b)).1), some (.int (euc 200 (t.natAbs, b)).2)] ∧ M' = M := by
    have := for_next (P := P) (cl := callV P A k) (ms := []) (mk := false) (t := .name 2) (it := .rng1 (.int 200)) (b := f37B1)
      (src := (List.range 200).map fun (j : Nat) => .int j) (lv := []) (M := M) (M0 := M) (env := [some (.int t), some (.int b), none, some (.int t.natAbs), some (.int b)]) (eVi_rng1 (n := 200) (by simp [sVs, sV, eV, eVs, eVo, eVc, eVi, eVt, eVts, eVtt, asgV, setAll, vszl, fldM, mthM, fresh, ofD, ofDs, lookV, putV]) (by omega)) (fun j e M' => ∃ x, e = [some (.int t), some (.int b), x, some (.int (euc j (t.natAbs, b)).1), some (.int (euc j (t.natAbs, b)).2)] ∧ M' = M) ⟨none, rfl, rfl⟩ (fun _ _ _ _ _ => rfl) ?_
    · simpa only [f37L1, List.length_map, List.length_range] using this
    · rintro j v e M' hv ⟨x, rfl, rfl⟩
      have st : euc (j + 1) (t.natAbs, b) = eucS (euc j (t.natAbs, b)) := rfl
      rw [st]
      generalize euc j (t.natAbs, b) = p
      obtain ⟨c, d⟩ := p
      refine ⟨_, _, [some (.int t), some (.int b), some v, some (.int (eucS (c, d)).1), some (.int (eucS (c, d)).2)], M', by simp [sVs, sV, eV, eVs, eVo, eVc, eVi, eVt, eVts, eVtt, asgV, setAll, vszl, fldM, mthM, fresh, ofD, ofDs, lookV, putV]; exact ⟨rfl, rfl⟩, ?_, _, rfl, rfl⟩
      by_cases hd : 0 < d
      · have hd2 : (0 : Int) < (d : Int) := by omega
        have hm : bopV .mod (.int c) (.int d) = some (.int ((c % d : Nat) : Int)) := by
          rw [bop_mod hd2]
          rfl
        have es : eucS (c, d) = (d, c % d) := by unfold eucS; rw [if_pos hd]
        rw [es]
        simp [f37B1, sVs, sV, eV, eVs, eVo, eVc, eVi, eVt, eVts, eVtt, asgV, setAll, vszl, fldM, mthM, fresh, ofD, ofDs, lookV, putV, Tgs.len, hd, hm]
      · have es : eucS (c, d) = (c, d) := by unfold eucS; rw [if_neg hd]
        rw [es]
        simp [f37B1, sVs, sV, eV, eVs, eVo, eVc, eVi, eVt, eVts, eVtt, asgV, setAll, vszl, fldM, mthM, fresh, ofD, ofDs, lookV, putV, Tgs.len, hd]
  obtain ⟨e, M', el, x, rfl, rfl⟩ := loop
  rw [euc_done _ _ hb] at el
  have hg : 0 < Nat.gcd t.natAbs b := Nat.gcd_pos_of_pos_right _ h0
  have hg2 : Nat.gcd t.natAbs b ≤ b := Nat.gcd_le_right _ h0
  have d1 := bop_fdiv (b := (Nat.gcd t.natAbs b : Nat)) (by omega) t
  have d2 := bop_fdiv (b := (Nat.gcd t.natAbs b : Nat)) (by omega) (b : Int)
  rw [low_num t b h0] at d1
  rw [low_den t b h0] at d2
  have ab := abs_nat t
  generalize Nat.gcd t.natAbs b = g at *
  simp [c37, f37, sVs, sV, eV, eVs, eVo, eVc, eVi, eVt, eVts, eVtt, asgV, setAll, vszl, fldM, mthM, fresh, ofD, ofDs, lookV, putV, Tgs.len, ab, el, d1, d2]
theorem lplus_ok (p q : Rat) (hp : p.den < 32768) (hq : q.den < 32768) : callV P A (k + 2) 38 [qV p, qV q] M = .ok (qV (p + q)) M := by
  have hpp := p.den_pos
  have hqp := q.den_pos
  have hb : p.den * q.den < 1073741824 := Nat.lt_of_lt_of_le (Nat.mul_lt_mul'' hp hq) (by decide)
  have e1 := fun M => part_ok (P := P) (k := k) (M := M) (p.num * q.den + q.num * p.den) (p.den * q.den) (Nat.mul_pos hpp hqp) hb
  rw [← Rat.add_def', Int.natCast_mul] at e1
  have m1 := bop_mul_r (b := (q.den : Int)) (by omega) p.num
  have m2 := bop_mul_r (b := (p.den : Int)) (by omega) q.num
  have m3 := bop_mul_r (b := (q.den : Int)) (by omega) (p.den : Int)
  generalize (p + q) = r at *
  simp [c38, f38, sVs, sV, eV, eVs, eVo, eVc, eVi, eVt, eVts, eVtt, asgV, setAll, vszl, fldM, mthM, fresh, ofD, ofDs, lookV, putV, m1, m2, m3, e1]
end
end Mk
set_option maxRecDepth 100000
/-! ends of rows by answers -/
namespace Mk
open Mi Mv
def lo (z : (Int × Int) × Rat) : Rat := if z.2 * (z.1.2 : Rat) < z.2 * (z.1.1 : Rat) then z.2 * (z.1.2 : Rat) else z.2 * (z.1.1 : Rat)
def hi (z : (Int × Int) × Rat) : Rat := if z.2 * (z.1.2 : Rat) < z.2 * (z.1.1 : Rat) then z.2 * (z.1.1 : Rat) else z.2 * (z.1.2 : Rat)
def loS (zs : List ((Int × Int) × Rat)) : Rat := zs.foldl (fun a z => a + lo z) 0
def hiS (zs : List ((Int × Int) × Rat)) : Rat := zs.foldl (fun a z => a + hi z) 0
theorem six_end {n : Int} {q : Rat} (hn : -10000 ≤ n ∧ n ≤ 10000) (h : six 24 q) : six 240000 (q * (n : Rat)) := by
  rw [Rat.mul_comm]
  exact six_mono (six_mul n h) (by
    have : n.natAbs ≤ 10000 := by omega
    calc n.natAbs * 24 ≤ 10000 * 24 := Nat.mul_le_mul_right _ this
      _ = 240000 := by decide)
theorem end_low {p : Int × Int} (h : isEnd p = true) : (-10000 ≤ p.1 ∧ p.1 ≤ 10000) ∧ (-10000 ≤ p.2 ∧ p.2 ≤ 10000) ∧ p.1 ≤ p.2 := by
  simp [isEnd, isSt] at h
  omega
theorem six_lo {z : (Int × Int) × Rat} (h : isEnd z.1 = true) (h2 : six 24 z.2) : six 240000 (lo z) ∧ six 240000 (hi z) := by
  obtain ⟨a, b, _⟩ := end_low h
  unfold lo hi
  constructor <;> split <;> first | exact six_end a h2 | exact six_end b h2
theorem six_fold {f : (Int × Int) × Rat → Rat} {B : Nat} : ∀ (zs : List ((Int × Int) × Rat)) (a : Rat) (C : Nat), six C a → (∀ z ∈ zs, six B (f z)) → six (C + B * zs.length) (zs.foldl (fun a z => a + f z) a)
  | [], a, C, h, _ => by simpa using h
  | z :: r, a, C, h, hz => by
    have := six_fold r (a + f z) (C + B) (six_add h (hz z List.mem_cons_self)) fun y hy => hz y (List.mem_cons_of_mem _ hy)
    exact six_mono this (by simp only [List.length_cons, Nat.mul_add]; omega)
theorem six_S {zs : List ((Int × Int) × Rat)} (h : ∀ z ∈ zs, isEnd z.1 = true ∧ six 24 z.2) (hl : zs.length ≤ 4) : six 960000 (loS zs) ∧ six 960000 (hiS zs) := by
  have a := six_fold (f := lo) (B := 240000) zs 0 0 six_zero fun z hz => (six_lo (h z hz).1 (h z hz).2).1
  have b := six_fold (f := hi) (B := 240000) zs 0 0 six_zero fun z hz => (six_lo (h z hz).1 (h z hz).2).2
  exact ⟨six_mono a (by omega), six_mono b (by omega)⟩
abbrev pqV (e : Rat × Rat) : V := .tup [qV e.1, qV e.2]
def rowE (qs : List Rat) (r : Row) : Rat × Rat := (loS (r.2.zip qs), hiS (r.2.zip qs))
section
variable {P : Prg} [H : Pk P] {k : Nat} {M : MS}
theorem qV_int (n : Int) : V.tup [.int n, .int 1] = qV (n : Rat) := rfl
theorem ends_with_ok {ps : List (Int × Int)} {qs : List Rat} (hl : ps.length ≤ 4) (hp : ∀ p ∈ ps, isEnd p = true) (hq : ∀ q ∈ qs, six 24 q) : callV P A (k + 4) 23 [.tup (ps.map stV), .tup (qs.map qV)] M = .ok (pqV (loS (ps.zip qs), hiS (ps.zip qs))) M := by
  have hz : ∀ z ∈ ps.zip qs, isEnd z.1 = true ∧ six 24 z.2 := fun z m => ⟨hp _ (List.of_mem_zip m).1, hq _ (List.of_mem_zip m).2⟩
  have hzl : (ps.zip qs).length ≤ 4 := by simp; omega
  have loop : ∃ e M', sV P (callV P A (k + 3)) [] false f23L1 [some (.tup (ps.map stV)), some (.tup (qs.map qV)), some (qV 0), some (qV 0), none, none, none, none, none] M = .ok (.next e) M' ∧ ∃ a b c d f, e = [some (.tup (ps.map stV)), some (.tup (qs.map qV)), some (qV (loS ((ps.zip qs).take (ps.zip qs).length))), some (qV (hiS ((ps.zip qs).take (ps.zip qs).length))), a, b, c, d, f] ∧ M' = M := by
    unfold f23L1
    have := for_next (P := P) (cl := callV P A (k + 3)) (ms := []) (mk := false) (t := (.tup (.cons (.tup (.cons (.name 5) (.cons (.name 6) .nil))) (.cons (.name 4) .nil)))) (it := (.zip (.var 0) (.var 1))) (b := f23B1) (src := (ps.zip qs).map fun z => .tup [stV z.1, qV z.2]) (lv := []) (M := M) (M0 := M) (env := [some (.tup (ps.map stV)), some (.tup (qs.map qV)), some (qV 0), some (qV 0), none, none, none, none, none]) (by simp [sVs, sV, eV, eVs, eVo, eVc, eVi, eVt, eVts, eVtt, asgV, setAll, vszl, fldM, mthM, fresh, ofD, ofDs, lookV, putV]) (fun i e M' => ∃ a b c d f, e = [some (.tup (ps.map stV)), some (.tup (qs.map qV)), some (qV (loS ((ps.zip qs).take i))), some (qV (hiS ((ps.zip qs).take i))), a, b, c, d, f] ∧ M' = M) ⟨none, none, none, none, none, rfl, rfl⟩ (fun _ _ _ _ _ => rfl) ?_
    · simpa only [List.length_map] using this
    · rintro i v env M1 hv ⟨a, b, c, d, f, rfl, rfl⟩
      simp only [List.getElem?_map, Option.map_eq_some_iff] at hv
      obtain ⟨z, hi, rfl⟩ := hv
      have hm := List.mem_of_getElem? hi
      obtain ⟨he, hs⟩ := hz z hm
      obtain ⟨b1, b2, _⟩ := end_low he
      have stl : loS ((ps.zip qs).take (i + 1)) = loS ((ps.zip qs).take i) + lo z := by
        rw [List.take_add_one, hi]
        simp [loS, List.foldl_append]
      have sth : hiS ((ps.zip qs).take (i + 1)) = hiS ((ps.zip qs).take i) + Mk.hi z := by
        rw [List.take_add_one, hi]
        simp [hiS, List.foldl_append]
      obtain ⟨sl, sh⟩ := six_S (zs := (ps.zip qs).take i) (fun z hz' => hz z (List.mem_of_mem_take hz')) (by simp; omega)
      obtain ⟨zl, zh⟩ := six_lo he hs
      rw [stl, sth]
      generalize loS ((ps.zip qs).take i) = L at *
      generalize hiS ((ps.zip qs).take i) = U at *
      obtain ⟨⟨l, u⟩, q⟩ := z
      dsimp only at *
      have d0 := (six_bound hs).1
      have d1 := (six_bound (six_end b1 hs)).1
      have d2 := (six_bound (six_end b2 hs)).1
      have dl := (six_bound sl).1
      have du := (six_bound sh).1
      have el := (six_bound zl).1
      have eu := (six_bound zh).1
      have t1 := fun M => times_ok (P := P) (k := k) (M := M) q (l : Rat) (by omega) (by show (1 : Nat) < _; omega) (by show l.natAbs < _; omega)
      have t2 := fun M => times_ok (P := P) (k := k) (M := M) q (u : Rat) (by omega) (by show (1 : Nat) < _; omega) (by show u.natAbs < _; omega)
      have ab := fun M => is_above_ok (P := P) (k := k + 2) (M := M) (q * (l : Rat)) (q * (u : Rat)) (by omega) (by omega)
      have p1 := fun M => plus_ok (P := P) (k := k) (M := M) L (lo ((l, u), q)) (by omega) (by omega)
      have p2 := fun M => plus_ok (P := P) (k := k) (M := M) U (Mk.hi ((l, u), q)) (by omega) (by omega)
      simp only [← qV_int] at t1 t2
      have hlo : lo ((l, u), q) = if q * (u : Rat) < q * (l : Rat) then q * (u : Rat) else q * (l : Rat) := rfl
      have hhi : Mk.hi ((l, u), q) = if q * (u : Rat) < q * (l : Rat) then q * (l : Rat) else q * (u : Rat) := rfl
      generalize q * (l : Rat) = A1 at *
      generalize q * (u : Rat) = A2 at *
      refine ⟨_, _, [some (.tup (ps.map stV)), some (.tup (qs.map qV)), some (qV (L + lo ((l, u), q))), some (qV (U + Mk.hi ((l, u), q))), some (qV q), some (.int l), some (.int u), some (qV A1), some (qV A2)], M1, by simp [sVs, sV, eV, eVs, eVo, eVc, eVi, eVt, eVts, eVtt, asgV, setAll, vszl, fldM, mthM, fresh, ofD, ofDs, lookV, putV, Tgs.len]; exact ⟨rfl, rfl⟩, ?_, _, _, _, _, _, rfl, rfl⟩
      by_cases hc : A2 < A1
      · rw [if_pos hc] at hlo hhi
        rw [hlo] at p1 ⊢
        rw [hhi] at p2 ⊢
        have hcd : decide (A2 < A1) = true := by simpa using hc
        rw [hcd] at ab
        generalize L + A2 = R1 at *
        generalize U + A1 = R2 at *
        simp [f23B1, sVs, sV, eV, eVs, eVo, eVc, eVi, eVt, eVts, eVtt, asgV, setAll, vszl, fldM, mthM, fresh, ofD, ofDs, lookV, putV, Tgs.len, t1, t2, ab, p1, p2]
      · rw [if_neg hc] at hlo hhi
        rw [hlo] at p1 ⊢
        rw [hhi] at p2 ⊢
        have hcd : decide (A2 < A1) = false := by simpa using hc
        rw [hcd] at ab
        generalize L + A1 = R1 at *
        generalize U + A2 = R2 at *
        simp [f23B1, sVs, sV, eV, eVs, eVo, eVc, eVi, eVt, eVts, eVtt, asgV, setAll, vszl, fldM, mthM, fresh, ofD, ofDs, lookV, putV, Tgs.len, t1, t2, ab, p1, p2]
  obtain ⟨e, M', el, a, b, c, d, f, rfl, rfl⟩ := loop
  rw [List.take_length] at el
  have z0 : V.tup [.int 0, .int 1] = qV 0 := rfl
  generalize loS (ps.zip qs) = L at *
  generalize hiS (ps.zip qs) = U at *
  simp only [show qV 0 = V.tup [.int 0, .int 1] from rfl] at el
  simp [c23, f23, sVs, sV, eV, eVs, eVo, eVc, eVi, eVt, eVts, eVtt, asgV, setAll, vszl, fldM, mthM, fresh, ofD, ofDs, lookV, putV, Tgs.len, el]
end
end Mk
set_option maxRecDepth 100000
/-! answers -/
namespace Mk
open Mi Mv
abbrev ansV (qs : List Rat) : V := .tup (qs.map qV)
abbrev endsV' (rows : List Row) (qs : List Rat) : V := .tup ((rows.map (rowE qs)).map pqV)
def sureB (es : List (Rat × Rat)) (bs : List (Int × Int)) : Bool := !(es.zip bs).any fun z => decide ((z.2.1 : Rat) < z.1.2)
def possB (es : List (Rat × Rat)) (bs : List (Int × Int)) : Bool := !(es.zip bs).any fun z => decide ((z.2.2 : Rat) < z.1.1)
theorem row_six {heads : List (List Nat)} {rows : List Row} (hh : HeadsOk heads) (hr : RowsOk heads.length rows) {qs : List Rat} (hq : ∀ q ∈ qs, six 24 q) {r : Row} (hm : r ∈ rows) : six 960000 (rowE qs r).1 ∧ six 960000 (rowE qs r).2 := by
  have hw := hr.wide r hm
  have hl := hh.len
  exact six_S (fun z m => ⟨hr.ends r hm _ (List.of_mem_zip m).1, hq _ (List.of_mem_zip m).2⟩) (by simp; omega)
section
variable {P : Prg} [H : Pk P] {k : Nat} {M : MS}
theorem all_row_ends_ok {heads : List (List Nat)} {rows : List Row} (hh : HeadsOk heads) (hr : RowsOk heads.length rows) {qs : List Rat} (hq : ∀ q ∈ qs, six 24 q) : callV P A (k + 5) 24 [tabV heads rows, ansV qs] M = .ok (endsV' rows qs) M := by
  have hlen := hr.len
  have e2 := fun M => rows_ok (P := P) (k := k + 3) (M := M) heads rows
  have e : ∀ M, eV P (callV P A (k + 4)) f24C1 [some (tabV heads rows), some (ansV qs), none, none] M = .ok (.lst (rows.map fun r => pqV (rowE qs r))) M := fun M => by
    simp only [f24C1, sVs, sV, eV, eVs, eVo, eVc, eVi, eVt, eVts, eVtt, asgV, setAll, vszl, fldM, mthM, fresh, ofD, ofDs, lookV, putV]
    simp [sVs, sV, eV, eVs, eVo, eVc, eVi, eVt, eVts, eVtt, asgV, setAll, vszl, fldM, mthM, fresh, ofD, ofDs, lookV, putV, e2]
    rw [lcV_map rowV (fun r => pqV (rowE qs r)) rows rfl (by
      intro r hrm
      have := fun M => ends_with_ok (P := P) (k := k) (M := M) (ps := r.2) (qs := qs) (by have := hr.wide r hrm; have := hh.len; omega) (hr.ends r hrm) hq
      simp [sVs, sV, eV, eVs, eVo, eVc, eVi, eVt, eVts, eVtt, asgV, setAll, vszl, fldM, mthM, fresh, ofD, ofDs, lookV, putV, Tgs.len, this, rowE]) (by simp [vszl]; omega)]
    rfl
  simp [c24, f24, sVs, sV, eV, eVs, eVo, eVc, eVi, eVt, eVts, eVtt, asgV, setAll, vszl, fldM, mthM, fresh, ofD, ofDs, lookV, putV, e]
theorem is_sure_for_ok {heads : List (List Nat)} {rows : List Row} (hh : HeadsOk heads) (hr : RowsOk heads.length rows) {qs : List Rat} (hq : ∀ q ∈ qs, six 24 q) (bs : List (Int × Int)) : callV P A (k + 6) 25 [tabV heads rows, .tup (bs.map stV), ansV qs] M = .ok (.bl (sureB (rows.map (rowE qs)) bs)) M := by
  have hlen := hr.len
  have e2 := fun M => all_row_ends_ok (P := P) (k := k) (M := M) hh hr hq
  have hz : ∀ z ∈ (rows.map (rowE qs)).zip bs, six 960000 z.1.1 ∧ six 960000 z.1.2 := fun z m => by
    obtain ⟨r, hrm, e⟩ := List.mem_map.mp (List.of_mem_zip m).1
    rw [← e]
    exact row_six hh hr hq hrm
  have hl8 : (rows.map (rowE qs)).length ≤ 8 := by simpa using hlen
  simp only [endsV'] at e2
  generalize rows.map (rowE qs) = es at *
  have e : ∀ M, eV P (callV P A (k + 5)) f25C1 [some (tabV heads rows), some (.tup (bs.map stV)), some (ansV qs), some (.tup (es.map pqV)), none, none, none, none] M = .ok (.lst ((es.zip bs).map fun z => .bl (decide ((z.2.1 : Rat) < z.1.2)))) M := fun M => by
    simp only [f25C1, sVs, sV, eV, eVs, eVo, eVc, eVi, eVt, eVts, eVtt, asgV, setAll, vszl, fldM, mthM, fresh, ofD, ofDs, lookV, putV]
    simp [sVs, sV, eV, eVs, eVo, eVc, eVi, eVt, eVts, eVtt, asgV, setAll, vszl, fldM, mthM, fresh, ofD, ofDs, lookV, putV]
    rw [lcV_map (fun (z : (Rat × Rat) × (Int × Int)) => V.tup [pqV z.1, stV z.2]) (fun z => .bl (decide ((z.2.1 : Rat) < z.1.2))) (es.zip bs) rfl (by
      intro z hm
      have d := (six_bound (hz z hm).2).1
      have ab := fun M => is_above_ok (P := P) (k := k + 4) (M := M) z.1.2 (z.2.1 : Rat) (by omega) (by show (1 : Nat) < _; omega)
      simp only [← qV_int] at ab
      simp [sVs, sV, eV, eVs, eVo, eVc, eVi, eVt, eVts, eVtt, asgV, setAll, vszl, fldM, mthM, fresh, ofD, ofDs, lookV, putV, Tgs.len, ab]) (by simp [vszl]; omega)]
    rfl
  simp [c25, f25, sVs, sV, eV, eVs, eVo, eVc, eVi, eVt, eVts, eVtt, asgV, setAll, vszl, fldM, mthM, fresh, ofD, ofDs, lookV, putV, e2, e, sureB]
theorem is_possible_for_ok {heads : List (List Nat)} {rows : List Row} (hh : HeadsOk heads) (hr : RowsOk heads.length rows) {qs : List Rat} (hq : ∀ q ∈ qs, six 24 q) (bs : List (Int × Int)) : callV P A (k + 6) 26 [tabV heads rows, .tup (bs.map stV), ansV qs] M = .ok (.bl (possB (rows.map (rowE qs)) bs)) M := by
  have hlen := hr.len
  have e2 := fun M => all_row_ends_ok (P := P) (k := k) (M := M) hh hr hq
  have hz : ∀ z ∈ (rows.map (rowE qs)).zip bs, six 960000 z.1.1 ∧ six 960000 z.1.2 := fun z m => by
    obtain ⟨r, hrm, e⟩ := List.mem_map.mp (List.of_mem_zip m).1
    rw [← e]
    exact row_six hh hr hq hrm
  have hl8 : (rows.map (rowE qs)).length ≤ 8 := by simpa using hlen
  simp only [endsV'] at e2
  generalize rows.map (rowE qs) = es at *
  have e : ∀ M, eV P (callV P A (k + 5)) f26C1 [some (tabV heads rows), some (.tup (bs.map stV)), some (ansV qs), some (.tup (es.map pqV)), none, none, none, none] M = .ok (.lst ((es.zip bs).map fun z => .bl (decide ((z.2.2 : Rat) < z.1.1)))) M := fun M => by
    simp only [f26C1, sVs, sV, eV, eVs, eVo, eVc, eVi, eVt, eVts, eVtt, asgV, setAll, vszl, fldM, mthM, fresh, ofD, ofDs, lookV, putV]
    simp [sVs, sV, eV, eVs, eVo, eVc, eVi, eVt, eVts, eVtt, asgV, setAll, vszl, fldM, mthM, fresh, ofD, ofDs, lookV, putV]
    rw [lcV_map (fun (z : (Rat × Rat) × (Int × Int)) => V.tup [pqV z.1, stV z.2]) (fun z => .bl (decide ((z.2.2 : Rat) < z.1.1))) (es.zip bs) rfl (by
      intro z hm
      have d := (six_bound (hz z hm).1).1
      have ab := fun M => is_above_ok (P := P) (k := k + 4) (M := M) z.1.1 (z.2.2 : Rat) (by omega) (by show (1 : Nat) < _; omega)
      simp only [← qV_int] at ab
      simp [sVs, sV, eV, eVs, eVo, eVc, eVi, eVt, eVts, eVtt, asgV, setAll, vszl, fldM, mthM, fresh, ofD, ofDs, lookV, putV, Tgs.len, ab]) (by simp [vszl]; omega)]
    rfl
  simp [c26, f26, sVs, sV, eV, eVs, eVo, eVc, eVi, eVt, eVts, eVtt, asgV, setAll, vszl, fldM, mthM, fresh, ofD, ofDs, lookV, putV, e2, e, possB]
theorem check_bounds_ok (heads : List (List Nat)) (rows : List Row) {bs : List (Int × Int)} (hl : bs.length = rows.length) (h8 : rows.length ≤ 8) (hb : ∀ p ∈ bs, isEnd p = true) : callV P A (k + 4) 20 [tabV heads rows, .tup (bs.map stV)] M = .ok .non M := by
  have e2 := fun M => rows_ok (P := P) (k := k + 2) (M := M) heads rows
  have e1 := fun M => is_tuple_of_tup (P := P) (k := k + 2) (M := M) (bs.map stV) rows.length
  have e : ∀ M, eV P (callV P A (k + 3)) f20C1 [some (tabV heads rows), some (.tup (bs.map stV)), none] M = .ok (.lst (bs.map fun p => .bl (isEnd p))) M := fun M => by
    simp only [f20C1, sVs, sV, eV, eVs, eVo, eVc, eVi, eVt, eVts, eVtt, asgV, setAll, vszl, fldM, mthM, fresh, ofD, ofDs, lookV, putV]
    simp [sVs, sV, eV, eVs, eVo, eVc, eVi, eVt, eVts, eVtt, asgV, setAll, vszl, fldM, mthM, fresh, ofD, ofDs, lookV, putV]
    rw [lcV_map stV (fun p => .bl (isEnd p)) bs rfl (by
      intro p _
      have := fun M => is_stretch_st (P := P) (k := k) (M := M) p (-10000) 10000
      simp [sVs, sV, eV, eVs, eVo, eVc, eVi, eVt, eVts, eVtt, asgV, setAll, vszl, fldM, mthM, fresh, ofD, ofDs, lookV, putV, this, isEnd]) (by simp [vszl]; omega)]
    rfl
  simp at e1
  simp [c20, f20, sVs, sV, eV, eVs, eVo, eVc, eVi, eVt, eVts, eVtt, asgV, setAll, vszl, fldM, mthM, fresh, ofD, ofDs, lookV, putV, e2, e1, e, hl]
  grind
theorem check_answer_ok (heads : List (List Nat)) (rows : List Row) {qs : List Rat} (hl : qs.length = heads.length) (h4 : heads.length ≤ 4) (hq : ∀ q ∈ qs, six 24 q) : callV P A (k + 4) 22 [tabV heads rows, ansV qs] M = .ok .non M := by
  have e2 := fun M => columns_ok (P := P) (k := k + 1) (M := M) heads rows
  have e1 := fun M => is_tuple_of_tup (P := P) (k := k + 1) (M := M) (qs.map qV) heads.length
  have e : ∀ M, eV P (callV P A (k + 2)) f21C1 [some (tabV heads rows), some (ansV qs), none] M = .ok (.lst (qs.map fun _ => .bl true)) M := fun M => by
    simp only [f21C1, sVs, sV, eV, eVs, eVo, eVc, eVi, eVt, eVts, eVtt, asgV, setAll, vszl, fldM, mthM, fresh, ofD, ofDs, lookV, putV]
    simp [sVs, sV, eV, eVs, eVo, eVc, eVi, eVt, eVts, eVtt, asgV, setAll, vszl, fldM, mthM, fresh, ofD, ofDs, lookV, putV]
    rw [lcV_map qV (fun _ => .bl true) qs rfl (by
      intro q hm
      have := fun M => is_fraction_ok (P := P) (k := k) (M := M) q (by have := (six_bound (hq q hm)).1; omega)
      simp [sVs, sV, eV, eVs, eVo, eVc, eVi, eVt, eVts, eVtt, asgV, setAll, vszl, fldM, mthM, fresh, ofD, ofDs, lookV, putV, this]) (by simp [vszl]; omega)]
    rfl
  have bl : blsV (qs.map fun _ => V.bl true) = some (qs.map fun _ => true) := blsV_map (fun _ => true) qs
  simp at e1
  have ia : ∀ M, callV P A (k + 3) 21 [tabV heads rows, ansV qs] M = .ok (.bl true) M := fun M => by
    simp only [List.map_const', hl] at e bl
    simp [c21, f21, sVs, sV, eV, eVs, eVo, eVc, eVi, eVt, eVts, eVtt, asgV, setAll, vszl, fldM, mthM, fresh, ofD, ofDs, lookV, putV, e2, e1, e, hl, bl]
  simp [c22, f22, sVs, sV, eV, eVs, eVo, eVc, eVi, eVt, eVts, eVtt, asgV, setAll, vszl, fldM, mthM, fresh, ofD, ofDs, lookV, putV, ia]
theorem check_question_ok (heads : List (List Nat)) (rows : List Row) {bs : List (Int × Int)} (hl : bs.length = rows.length) (h8 : rows.length ≤ 8) (hb : ∀ p ∈ bs, isEnd p = true) : callV P A (k + 5) 27 [tabV heads rows, .tup (bs.map stV)] M = .ok .non M := by
  have e1 := fun M => check_table_ok (P := P) (k := k + 3) (M := M) heads rows
  have e2 := fun M => check_bounds_ok (P := P) (k := k) (M := M) heads rows hl h8 hb
  simp [c27, f27, sVs, sV, eV, eVs, eVo, eVc, eVi, eVt, eVts, eVtt, asgV, setAll, vszl, fldM, mthM, fresh, ofD, ofDs, lookV, putV, e1, e2]
theorem row_ends_ok {heads : List (List Nat)} {rows : List Row} (hh : HeadsOk heads) (hr : RowsOk heads.length rows) {qs : List Rat} (hl : qs.length = heads.length) (hq : ∀ q ∈ qs, six 24 q) : callV P A (k + 6) 28 [tabV heads rows, ansV qs] M = .ok (endsV' rows qs) M := by
  have e1 := fun M => check_table_ok (P := P) (k := k + 4) (M := M) heads rows
  have e2 := fun M => check_answer_ok (P := P) (k := k + 1) (M := M) heads rows hl hh.len hq
  have e3 := fun M => all_row_ends_ok (P := P) (k := k) (M := M) hh hr hq
  simp [c28, f28, sVs, sV, eV, eVs, eVo, eVc, eVi, eVt, eVts, eVtt, asgV, setAll, vszl, fldM, mthM, fresh, ofD, ofDs, lookV, putV, e1, e2, e3]
theorem is_sure_answer_ok {heads : List (List Nat)} {rows : List Row} (hh : HeadsOk heads) (hr : RowsOk heads.length rows) {qs : List Rat} (hl : qs.length = heads.length) (hq : ∀ q ∈ qs, six 24 q) {bs : List (Int × Int)} (hbl : bs.length = rows.length) (hb : ∀ p ∈ bs, isEnd p = true) : callV P A (k + 7) 29 [tabV heads rows, .tup (bs.map stV), ansV qs] M = .ok (.bl (sureB (rows.map (rowE qs)) bs)) M := by
  have e1 := fun M => check_question_ok (P := P) (k := k + 1) (M := M) heads rows hbl hr.len hb
  have e2 := fun M => check_answer_ok (P := P) (k := k + 2) (M := M) heads rows hl hh.len hq
  have e3 := fun M => is_sure_for_ok (P := P) (k := k) (M := M) hh hr hq bs
  simp [c29, f29, sVs, sV, eV, eVs, eVo, eVc, eVi, eVt, eVts, eVtt, asgV, setAll, vszl, fldM, mthM, fresh, ofD, ofDs, lookV, putV, e1, e2, e3]
theorem is_possible_answer_ok {heads : List (List Nat)} {rows : List Row} (hh : HeadsOk heads) (hr : RowsOk heads.length rows) {qs : List Rat} (hl : qs.length = heads.length) (hq : ∀ q ∈ qs, six 24 q) {bs : List (Int × Int)} (hbl : bs.length = rows.length) (hb : ∀ p ∈ bs, isEnd p = true) : callV P A (k + 7) 30 [tabV heads rows, .tup (bs.map stV), ansV qs] M = .ok (.bl (possB (rows.map (rowE qs)) bs)) M := by
  have e1 := fun M => check_question_ok (P := P) (k := k + 1) (M := M) heads rows hbl hr.len hb
  have e2 := fun M => check_answer_ok (P := P) (k := k + 2) (M := M) heads rows hl hh.len hq
  have e3 := fun M => is_possible_for_ok (P := P) (k := k) (M := M) hh hr hq bs
  simp [c30, f30, sVs, sV, eV, eVs, eVo, eVc, eVi, eVt, eVts, eVtt, asgV, setAll, vszl, fldM, mthM, fresh, ofD, ofDs, lookV, putV, e1, e2, e3]
end
end Mk
set_option maxRecDepth 100000
/-! sums at the corners, the least -/
namespace Mk
open Mi Mv
def growR (z : (Int × Int) × Rat) (F : List Rat) : List Rat := F.flatMap fun e => [e + z.2 * (z.1.1 : Rat), e + z.2 * (z.1.2 : Rat)]
def sumsR : List Rat → List ((Int × Int) × Rat) → List Rat
  | F, [] => F
  | F, z :: r => sumsR (growR z F) r
theorem growR_len (z : (Int × Int) × Rat) : ∀ F : List Rat, (growR z F).length = 2 * F.length
  | [] => rfl
  | e :: F => by
    have := growR_len z F
    simp only [growR, List.flatMap_cons, List.length_append, List.length_cons, List.length_nil] at this ⊢
    omega
theorem growR_app (z : (Int × Int) × Rat) (F G : List Rat) : growR z (F ++ G) = growR z F ++ growR z G := by simp [growR]
theorem sumsR_app : ∀ (a b : List ((Int × Int) × Rat)) (F : List Rat), sumsR F (a ++ b) = sumsR (sumsR F a) b
  | [], b, F => rfl
  | z :: a, b, F => by simp only [List.cons_append, sumsR]; rw [sumsR_app a]
theorem sumsR_len : ∀ (zs : List ((Int × Int) × Rat)) (F : List Rat), (sumsR F zs).length = 2 ^ zs.length * F.length
  | [], F => by simp [sumsR]
  | z :: r, F => by
    simp only [sumsR]
    rw [sumsR_len r, growR_len, List.length_cons, Nat.pow_succ, Nat.mul_assoc]
theorem sumsR_six : ∀ (zs : List ((Int × Int) × Rat)) (F : List Rat) (C : Nat), (∀ a ∈ F, six C a) → (∀ z ∈ zs, isEnd z.1 = true ∧ six 24 z.2) → ∀ x ∈ sumsR F zs, six (C + 240000 * zs.length) x
  | [], F, C, h, _, x, hx => by simpa using h x hx
  | z :: r, F, C, h, hz, x, hx => by
    have := sumsR_six r (growR z F) (C + 240000) (fun a ha => by
      obtain ⟨e, he, ha⟩ := List.mem_flatMap.mp ha
      obtain ⟨h1, h2⟩ := hz z List.mem_cons_self
      obtain ⟨b1, b2, _⟩ := end_low h1
      simp at ha
      rcases ha with rfl | rfl
      · exact six_add (h e he) (six_end b1 h2)
      · exact six_add (h e he) (six_end b2 h2)) (fun y hy => hz y (List.mem_cons_of_mem _ hy)) x hx
    exact six_mono this (by simp only [List.length_cons, Nat.mul_add]; omega)
theorem lo_or (z : (Int × Int) × Rat) : lo z = z.2 * (z.1.1 : Rat) ∨ lo z = z.2 * (z.1.2 : Rat) := by
  unfold lo; split
  · exact .inr rfl
  · exact .inl rfl
theorem hi_or (z : (Int × Int) × Rat) : hi z = z.2 * (z.1.1 : Rat) ∨ hi z = z.2 * (z.1.2 : Rat) := by
  unfold hi; split
  · exact .inl rfl
  · exact .inr rfl
theorem lo_le (z : (Int × Int) × Rat) : (lo z ≤ z.2 * (z.1.1 : Rat) ∧ lo z ≤ z.2 * (z.1.2 : Rat)) ∧ (z.2 * (z.1.1 : Rat) ≤ hi z ∧ z.2 * (z.1.2 : Rat) ≤ hi z) := by
  unfold lo hi
  generalize z.2 * (z.1.1 : Rat) = a
  generalize z.2 * (z.1.2 : Rat) = b
  split <;> grind
theorem fold_in {f : (Int × Int) × Rat → Rat} (hf : ∀ z, f z = z.2 * (z.1.1 : Rat) ∨ f z = z.2 * (z.1.2 : Rat)) : ∀ (zs : List ((Int × Int) × Rat)) (F : List Rat) (a : Rat), a ∈ F → zs.foldl (fun a z => a + f z) a ∈ sumsR F zs
  | [], F, a, h => h
  | z :: r, F, a, h => by
    simp only [List.foldl_cons, sumsR]
    refine fold_in hf r (growR z F) (a + f z) (List.mem_flatMap.mpr ⟨a, h, ?_⟩)
    rcases hf z with e | e <;> rw [e] <;> simp
theorem fold_mono {f : (Int × Int) × Rat → Rat} : ∀ (zs : List ((Int × Int) × Rat)) (a b : Rat), a ≤ b → zs.foldl (fun a z => a + f z) a ≤ zs.foldl (fun a z => a + f z) b
  | [], a, b, h => h
  | z :: r, a, b, h => by
    simp only [List.foldl_cons]
    exact fold_mono r _ _ (by grind)
theorem sums_between : ∀ (zs : List ((Int × Int) × Rat)) (F : List Rat) (x : Rat), x ∈ sumsR F zs → ∃ a ∈ F, zs.foldl (fun a z => a + lo z) a ≤ x ∧ x ≤ zs.foldl (fun a z => a + hi z) a
  | [], F, x, h => ⟨x, h, Rat.le_refl, Rat.le_refl⟩
  | z :: r, F, x, h => by
    obtain ⟨a', ha, h1, h2⟩ := sums_between r (growR z F) x h
    obtain ⟨a, haF, hm⟩ := List.mem_flatMap.mp ha
    obtain ⟨⟨l1, l2⟩, u1, u2⟩ := lo_le z
    refine ⟨a, haF, ?_, ?_⟩
    · simp only [List.foldl_cons]
      refine Rat.le_trans (fold_mono r _ a' ?_) h1
      simp at hm
      rcases hm with rfl | rfl <;> grind
    · simp only [List.foldl_cons]
      refine Rat.le_trans h2 (fold_mono r a' _ ?_)
      simp at hm
      rcases hm with rfl | rfl <;> grind
theorem lo_least {zs : List ((Int × Int) × Rat)} : loS zs ∈ sumsR [0] zs ∧ ∀ x ∈ sumsR [0] zs, loS zs ≤ x := by
  refine ⟨fold_in lo_or zs [0] 0 (by simp), fun x hx => ?_⟩
  obtain ⟨a, ha, h, _⟩ := sums_between zs [0] x hx
  simp at ha
  subst ha
  exact h
theorem hi_most {zs : List ((Int × Int) × Rat)} : hiS zs ∈ sumsR [0] zs ∧ ∀ x ∈ sumsR [0] zs, x ≤ hiS zs := by
  refine ⟨fold_in hi_or zs [0] 0 (by simp), fun x hx => ?_⟩
  obtain ⟨a, ha, _, h⟩ := sums_between zs [0] x hx
  simp at ha
  subst ha
  exact h
section
variable {P : Prg} [H : Pk P] {k : Nat} {M : MS}
theorem lsums_ok {ps : List (Int × Int)} {qs : List Rat} (hl : ps.length ≤ 4) (hp : ∀ p ∈ ps, isEnd p = true) (hq : ∀ q ∈ qs, six 24 q) : callV P A (k + 4) 39 [.tup (ps.map stV), .tup (qs.map qV)] M = .ok (.lst ((sumsR [0] (ps.zip qs)).map qV)) M := by
  have hz : ∀ z ∈ ps.zip qs, isEnd z.1 = true ∧ six 24 z.2 := fun z m => ⟨hp _ (List.of_mem_zip m).1, hq _ (List.of_mem_zip m).2⟩
  have hzl : (ps.zip qs).length ≤ 4 := by simp; omega
  have inner : ∀ (F : List Rat) (z : (Int × Int) × Rat) (u : Option V), isEnd z.1 = true → six 24 z.2 → F.length ≤ 8 → (∀ a ∈ F, six 960000 a) → ∃ e M', sV P (callV P A (k + 3)) [] false f39L1 [some (.tup (ps.map stV)), some (.tup (qs.map qV)), some (.lst (F.map qV)), some (stV z.1), some (qV z.2), some (.lst []), u, none] M = .ok (.next e) M' ∧
      ∃ u, e = [some (.tup (ps.map stV)), some (.tup (qs.map qV)), some (.lst (F.map qV)), some (stV z.1), some (qV z.2), some (.lst ((growR z (F.take F.length)).map qV)), u, none] ∧ M' = M := fun F z u hz1 hz2 hF hsix => by
    unfold f39L1
    have := for_next (P := P) (cl := callV P A (k + 3)) (ms := []) (mk := false) (t := .name 6) (it := (.val (.var 2))) (b := f39B1) (src := F.map qV) (lv := []) (M := M) (M0 := M) (env := [some (.tup (ps.map stV)), some (.tup (qs.map qV)), some (.lst (F.map qV)), some (stV z.1), some (qV z.2), some (.lst []), u, none]) (by simp [sVs, sV, eV, eVs, eVo, eVc, eVi, eVt, eVts, eVtt, asgV, setAll, vszl, fldM, mthM, fresh, ofD, ofDs, lookV, putV]) (fun i e M' => ∃ u, e = [some (.tup (ps.map stV)), some (.tup (qs.map qV)), some (.lst (F.map qV)), some (stV z.1), some (qV z.2), some (.lst ((growR z (F.take i)).map qV)), u, none] ∧ M' = M) ⟨u, by simp [growR], rfl⟩ (fun _ _ _ _ _ => rfl) ?_
    · simpa only [List.length_map] using this
    · rintro i v env M1 hv ⟨x, rfl, rfl⟩
      simp only [List.getElem?_map, Option.map_eq_some_iff] at hv
      obtain ⟨a, hi, rfl⟩ := hv
      have hm := List.mem_of_getElem? hi
      have gl : (growR z (F.take i)).length ≤ 16 := by
        rw [growR_len]
        simp
        omega
      have step : growR z (F.take (i + 1)) = growR z (F.take i) ++ [a + z.2 * (z.1.1 : Rat), a + z.2 * (z.1.2 : Rat)] := by
        rw [List.take_add_one, hi, growR_app]
        simp [growR]
      rw [step]
      generalize growR z (F.take i) = G at *
      have one : ∀ (n : Int), -10000 ≤ n ∧ n ≤ 10000 → (∀ M, callV P A (k + 3) 37 [.int (n * z.2.num), .int z.2.den] M = .ok (qV (z.2 * (n : Rat))) M) ∧ (∀ M, callV P A (k + 3) 38 [qV a, qV (z.2 * (n : Rat))] M = .ok (qV (a + z.2 * (n : Rat))) M) ∧ bopV .mul (.int n) (.int z.2.num) = some (.int (n * z.2.num)) := fun n hn => by
        have dz := (six_bound hz2).1
        refine ⟨fun M => ?_, fun M => ?_, ?_⟩
        · have := part_ok (P := P) (k := k + 2) (M := M) (n * z.2.num) z.2.den z.2.den_pos (by omega)
          rw [int_mul, Rat.mul_comm] at this
          exact this
        · exact lplus_ok (P := P) (k := k + 1) (M := M) a (z.2 * (n : Rat)) (by have := (six_bound (hsix a hm)).1; omega) (by have := (six_bound (six_end hn hz2)).1; omega)
        · exact bop_mul_l (by omega) _
      obtain ⟨b1, b2, _⟩ := end_low hz1
      obtain ⟨o1, o2, o3⟩ := one z.1.1 b1
      obtain ⟨p1, p2, p3⟩ := one z.1.2 b2
      have c1 : ∀ b, eV P (callV P A (k + 3)) f39C1 [some (.tup (ps.map stV)), some (.tup (qs.map qV)), some (.lst (F.map qV)), some (stV z.1), some (qV z.2), b, some (qV a), none] M1 = .ok (.lst [qV (a + z.2 * (z.1.1 : Rat)), qV (a + z.2 * (z.1.2 : Rat))]) M1 := fun b => by
        simp only [f39C1, sVs, sV, eV, eVs, eVo, eVc, eVi, eVt, eVts, eVtt, asgV, setAll, vszl, fldM, mthM, fresh, ofD, ofDs, lookV, putV]
        generalize a + z.2 * (z.1.1 : Rat) = X1 at *
        generalize a + z.2 * (z.1.2 : Rat) = X2 at *
        generalize z.2 * (z.1.1 : Rat) = Y1 at *
        generalize z.2 * (z.1.2 : Rat) = Y2 at *
        simp [sVs, sV, eV, eVs, eVo, eVc, eVi, eVt, eVts, eVtt, asgV, setAll, vszl, fldM, mthM, fresh, ofD, ofDs, lookV, putV, lcV_cons, o1, o2, o3, p1, p2, p3]
      generalize a + z.2 * (z.1.1 : Rat) = X1 at *
      generalize a + z.2 * (z.1.2 : Rat) = X2 at *
      refine ⟨_, _, _, M1, by simp [sVs, sV, eV, eVs, eVo, eVc, eVi, eVt, eVts, eVtt, asgV, setAll, vszl, fldM, mthM, fresh, ofD, ofDs, lookV, putV]; exact ⟨rfl, rfl⟩, ?_, some (qV a), rfl, rfl⟩
      have hl : G.length + 2 ≤ 16777216 := by omega
      simp [f39B1, sVs, sV, eV, eVs, eVo, eVc, eVi, eVt, eVts, eVtt, asgV, setAll, vszl, fldM, mthM, fresh, ofD, ofDs, lookV, putV, c1, bopV, hl]
  have loop : ∃ e M', sV P (callV P A (k + 3)) [] false f39L2 [some (.tup (ps.map stV)), some (.tup (qs.map qV)), some (.lst [qV 0]), none, none, none, none, none] M = .ok (.next e) M' ∧
      ∃ a b c d, e = [some (.tup (ps.map stV)), some (.tup (qs.map qV)), some (.lst ((sumsR [0] ((ps.zip qs).take (ps.zip qs).length)).map qV)), a, b, c, d, none] ∧ M' = M := by
    unfold f39L2
    have := for_next (P := P) (cl := callV P A (k + 3)) (ms := []) (mk := false) (t := (.tup (.cons (.name 3) (.cons (.name 4) .nil)))) (it := (.zip (.var 0) (.var 1))) (b := f39B2) (src := (ps.zip qs).map fun z => .tup [stV z.1, qV z.2]) (lv := []) (M := M) (M0 := M) (env := [some (.tup (ps.map stV)), some (.tup (qs.map qV)), some (.lst [qV 0]), none, none, none, none, none]) (by simp [sVs, sV, eV, eVs, eVo, eVc, eVi, eVt, eVts, eVtt, asgV, setAll, vszl, fldM, mthM, fresh, ofD, ofDs, lookV, putV]) (fun i e M' => ∃ a b c d, e = [some (.tup (ps.map stV)), some (.tup (qs.map qV)), some (.lst ((sumsR [0] ((ps.zip qs).take i)).map qV)), a, b, c, d, none] ∧ M' = M) ⟨none, none, none, none, rfl, rfl⟩ (fun _ _ _ _ _ => rfl) ?_
    · simpa only [List.length_map] using this
    · rintro i v env M1 hv ⟨a, b, c, d, rfl, rfl⟩
      simp only [List.getElem?_map, Option.map_eq_some_iff] at hv
      obtain ⟨z, hi, rfl⟩ := hv
      have hil := (List.getElem?_eq_some_iff.mp hi).1
      obtain ⟨hz1, hz2⟩ := hz z (List.mem_of_getElem? hi)
      have hF : (sumsR [0] ((ps.zip qs).take i)).length ≤ 8 := by
        rw [sumsR_len]
        have : ((ps.zip qs).take i).length ≤ 3 := by simp only [List.length_take]; omega
        calc _ ≤ 2 ^ 3 * 1 := Nat.mul_le_mul (Nat.pow_le_pow_right (by omega) this) (by simp)
          _ = 8 := by decide
      have hs := fun a ha => six_mono (sumsR_six ((ps.zip qs).take i) [0] 0 (by simp [six_zero]) (fun z m => hz z (List.mem_of_mem_take m)) a ha) (show 0 + 240000 * ((ps.zip qs).take i).length ≤ 960000 by simp only [List.length_take]; omega)
      have step : sumsR [0] ((ps.zip qs).take (i + 1)) = growR z (sumsR [0] ((ps.zip qs).take i)) := by
        rw [List.take_add_one, hi, sumsR_app]
        rfl
      rw [step]
      generalize sumsR [0] ((ps.zip qs).take i) = F at *
      obtain ⟨e, M', el, u, rfl, hM⟩ := inner F z d hz1 hz2 hF hs
      rw [List.take_length] at el
      rw [hM] at el
      refine ⟨_, _, _, M1, by simp [sVs, sV, eV, eVs, eVo, eVc, eVi, eVt, eVts, eVtt, asgV, setAll, vszl, fldM, mthM, fresh, ofD, ofDs, lookV, putV, Tgs.len]; exact ⟨rfl, rfl⟩, ?_, some (stV z.1), some (qV z.2), some (.lst ((growR z F).map qV)), u, rfl, rfl⟩
      generalize growR z F = G at *
      simp [f39B2, sVs, sV, eV, eVs, eVo, eVc, eVi, eVt, eVts, eVtt, asgV, setAll, vszl, fldM, mthM, fresh, ofD, ofDs, lookV, putV, el]
  obtain ⟨e, M', el, a, b, c, d, rfl, rfl⟩ := loop
  rw [List.take_length] at el
  generalize sumsR [0] (ps.zip qs) = G at *
  simp only [show qV 0 = V.tup [.int 0, .int 1] from rfl] at el
  simp [c39, f39, sVs, sV, eV, eVs, eVo, eVc, eVi, eVt, eVts, eVtt, asgV, setAll, vszl, fldM, mthM, fresh, ofD, ofDs, lookV, putV, el]
theorem least_ok {l : List Rat} (hne : l ≠ []) (hl : l.length ≤ 100) (hd : ∀ x ∈ l, x.den < 32768) {m : Rat} (hm : m ∈ l) (hm2 : ∀ x ∈ l, m ≤ x) : callV P A (k + 1) 40 [.lst (l.map qV)] M = .ok (qV m) M := by
  obtain ⟨a, r, rfl⟩ : ∃ a r, l = a :: r := by
    cases l with
    | nil => exact absurd rfl hne
    | cons a r => exact ⟨a, r, rfl⟩
  have loop : ∃ e M', sV P (callV P A k) [] false f40L1 [some (.lst ((a :: r).map qV)), some (qV a), none] M = .ok (.next e) M' ∧ ∃ x c, e = [some (.lst ((a :: r).map qV)), some (qV c), x] ∧ M' = M ∧ c ∈ a :: r ∧ ∀ y ∈ (a :: r).take (a :: r).length, c ≤ y := by
    unfold f40L1
    have := for_next (P := P) (cl := callV P A k) (ms := []) (mk := false) (t := .name 2) (it := .val (.var 0)) (b := f40B1) (src := (a :: r).map qV) (lv := []) (M := M) (M0 := M) (env := [some (.lst ((a :: r).map qV)), some (qV a), none]) (by simp [sVs, sV, eV, eVs, eVo, eVc, eVi, eVt, eVts, eVtt, asgV, setAll, vszl, fldM, mthM, fresh, ofD, ofDs, lookV, putV]) (fun i e M' => ∃ x c, e = [some (.lst ((a :: r).map qV)), some (qV c), x] ∧ M' = M ∧ c ∈ a :: r ∧ ∀ y ∈ (a :: r).take i, c ≤ y) ⟨none, a, rfl, rfl, List.mem_cons_self, by simp⟩ (fun _ _ _ _ _ => rfl) ?_
    · simpa only [List.length_map] using this
    · rintro i v env M1 hv ⟨x, c, rfl, rfl, hc, hcy⟩
      rw [List.getElem?_map, Option.map_eq_some_iff] at hv
      obtain ⟨y, hy, rfl⟩ := hv
      have hym := List.mem_of_getElem? hy
      have dc := hd c hc
      have dy := hd y hym
      have m1 := bop_mul_r (b := (c.den : Int)) (by omega) y.num
      have m2 := bop_mul_r (b := (y.den : Int)) (by omega) c.num
      have tk : (a :: r).take (i + 1) = (a :: r).take i ++ [y] := by rw [List.take_add_one, hy]; rfl
      by_cases hlt : y < c
      · have h2 : y.num * c.den < c.num * y.den := (Rat.lt_iff y c).mp hlt
        refine ⟨_, _, [some (.lst ((a :: r).map qV)), some (qV y), some (qV y)], M1, by simp [sVs, sV, eV, eVs, eVo, eVc, eVi, eVt, eVts, eVtt, asgV, setAll, vszl, fldM, mthM, fresh, ofD, ofDs, lookV, putV]; exact ⟨rfl, rfl⟩, ?_, _, y, rfl, rfl, hym, fun w hw => ?_⟩
        · simp [f40B1, sVs, sV, eV, eVs, eVo, eVc, eVi, eVt, eVts, eVtt, asgV, setAll, vszl, fldM, mthM, fresh, ofD, ofDs, lookV, putV, m1, m2, h2]
        · rw [tk] at hw
          rcases List.mem_append.mp hw with hw | hw
          · exact Rat.le_trans (by grind) (hcy w hw)
          · rw [List.mem_singleton.mp hw]
            exact Rat.le_refl
      · have h2 : ¬ y.num * c.den < c.num * y.den := fun h => hlt ((Rat.lt_iff y c).mpr h)
        refine ⟨_, _, [some (.lst ((a :: r).map qV)), some (qV c), some (qV y)], M1, by simp [sVs, sV, eV, eVs, eVo, eVc, eVi, eVt, eVts, eVtt, asgV, setAll, vszl, fldM, mthM, fresh, ofD, ofDs, lookV, putV]; exact ⟨rfl, rfl⟩, ?_, _, c, rfl, rfl, hc, fun w hw => ?_⟩
        · simp [f40B1, sVs, sV, eV, eVs, eVo, eVc, eVi, eVt, eVts, eVtt, asgV, setAll, vszl, fldM, mthM, fresh, ofD, ofDs, lookV, putV, m1, m2, h2]
        · rw [tk] at hw
          rcases List.mem_append.mp hw with hw | hw
          · exact hcy w hw
          · rw [List.mem_singleton.mp hw]
            grind
  obtain ⟨e, M', el, x, c, rfl, rfl, hc, hcy⟩ := loop
  rw [List.take_length] at hcy
  have : c = m := by
    have h1 := hcy m hm
    have h2 := hm2 c hc
    grind
  subst this
  simp only [List.map_cons] at el
  simp [c40, f40, sVs, sV, eV, eVs, eVo, eVc, eVi, eVt, eVts, eVtt, asgV, setAll, vszl, fldM, mthM, fresh, ofD, ofDs, lookV, putV, el]
end
end Mk
set_option maxRecDepth 100000
/-! one turn -/
namespace Mk
open Mi Mv
def sureAt (e : Rat × Rat) (b : Int × Int) : Bool := decide (e.2.num ≤ b.1 * e.2.den)
def possAt (e : Rat × Rat) (b : Int × Int) : Bool := decide (e.1.num ≤ b.2 * e.1.den)
theorem le_int (q : Rat) (n : Int) : q.num ≤ n * q.den ↔ q ≤ (n : Rat) := by
  rw [Rat.le_iff]
  show _ ↔ q.num * ((1 : Nat) : Int) ≤ n * q.den
  simp
theorem sure_all : ∀ (es : List (Rat × Rat)) (bs : List (Int × Int)), sureB es bs = (es.zip bs).all fun z => sureAt z.1 z.2 := fun es bs => by
  unfold sureB sureAt
  rw [Bool.eq_iff_iff]
  simp only [Bool.not_eq_true', List.any_eq_false, decide_eq_true_eq, List.all_eq_true]
  constructor
  · intro h z hz
    rw [le_int]
    have := h z hz
    grind
  · intro h z hz
    have := (le_int _ _).mp (h z hz)
    grind
theorem poss_all : ∀ (es : List (Rat × Rat)) (bs : List (Int × Int)), possB es bs = (es.zip bs).all fun z => possAt z.1 z.2 := fun es bs => by
  unfold possB possAt
  rw [Bool.eq_iff_iff]
  simp only [Bool.not_eq_true', List.any_eq_false, decide_eq_true_eq, List.all_eq_true]
  constructor
  · intro h z hz
    rw [le_int]
    have := h z hz
    grind
  · intro h z hz
    have := (le_int _ _).mp (h z hz)
    grind
theorem lo_le_hi (zs : List ((Int × Int) × Rat)) : loS zs ≤ hiS zs := (hi_most (zs := zs)).2 _ (lo_least (zs := zs)).1
theorem sure_poss {rows : List Row} {qs : List Rat} {bs : List (Int × Int)} (hb : ∀ p ∈ bs, isEnd p = true) (h : sureB (rows.map (rowE qs)) bs = true) : possB (rows.map (rowE qs)) bs = true := by
  rw [sure_all] at h
  rw [poss_all]
  rw [List.all_eq_true] at h ⊢
  intro z hz
  have h1 := h z hz
  unfold sureAt at h1
  unfold possAt
  simp only [decide_eq_true_eq] at h1 ⊢
  rw [le_int] at h1 ⊢
  obtain ⟨r, _, e⟩ := List.mem_map.mp (List.of_mem_zip hz).1
  have l := lo_le_hi (r.2.zip qs)
  have hp := (end_low (hb _ (List.of_mem_zip hz).2)).2.2
  have hc : (z.2.1 : Rat) ≤ (z.2.2 : Rat) := Rat.intCast_le_intCast.mpr hp
  rw [← e] at h1 ⊢
  simp only [rowE] at h1 ⊢
  grind
def pqP (e : Rat × Rat) : PD := .tup [.tup [.int e.1.num, .int e.1.den], .tup [.int e.2.num, .int e.2.den]]
theorem pqP_ok {e : Rat × Rat} (h : six 960000 e.1 ∧ six 960000 e.2) : PDok (pqP e) = true ∧ PDwt (pqP e) = 829 := by
  obtain ⟨a1, a2⟩ := six_bound h.1
  obtain ⟨b1, b2⟩ := six_bound h.2
  have big : (10 : Nat) ^ 200 > 10000000 := by decide +kernel
  have lt : ∀ i : Int, i.natAbs ≤ 960000 → PDok (.int i) = true := fun i hi => by
    simp only [PDok, decide_eq_true_eq]
    omega
  have l1 := lt _ a2
  have l2 := lt _ b2
  have l3 := lt (e.1.den : Int) (by omega)
  have l4 := lt (e.2.den : Int) (by omega)
  refine ⟨?_, by simp only [pqP, PDwt, PDwts]⟩
  unfold pqP
  rw [PDok, PDoks, PDoks, PDoks, PDok, PDok, PDoks, PDoks, PDoks, PDoks, PDoks, PDoks, l1, l2, l3, l4]
  rfl
theorem pqs_ok : ∀ {es : List (Rat × Rat)}, (∀ e ∈ es, six 960000 e.1 ∧ six 960000 e.2) → PDoks (es.map pqP) = true ∧ PDwts (es.map pqP) ≤ 900 * es.length
  | [], _ => by simp [PDoks, PDwts]
  | e :: r, h => by
    obtain ⟨h1, h2⟩ := pqs_ok (es := r) fun x hx => h x (List.mem_cons_of_mem _ hx)
    obtain ⟨h3, h4⟩ := pqP_ok (h e List.mem_cons_self)
    rw [List.map_cons, PDoks, PDwts, h1, h3, h4, List.length_cons]
    exact ⟨rfl, by omega⟩
theorem pq_text {es : List (Rat × Rat)} (hl : es.length ≤ 8) (h : ∀ e ∈ es, six 960000 e.1 ∧ six 960000 e.2) : ∃ t, biReprV (.lst [.tup (es.map pqV), .tup (es.map pqV)]) = some (.str t) := by
  have hpd : pdV deep (.lst [.tup (es.map pqV), .tup (es.map pqV)]) = some (.lst [.tup (es.map pqP), .tup (es.map pqP)]) := by
    simp only [deep, pdV, mapO]
    rw [mapO_map _ pqV pqP (by simp [pdV, mapO, pqP])]
  have ok := pqs_ok h
  exact repr_some hpd (by simp only [PDok, PDoks, ok.1, Bool.and_self]) (by simp only [PDwt, PDwts]; have := ok.2; omega) rfl
theorem two_text (a b : Bool) : ∃ t, biReprV (.lst [.bl a, .bl b]) = some (.str t) :=
  repr_some (p := .lst [.bl a, .bl b]) (by simp [pdV, deep, mapO]) (by simp [PDok, PDoks]) (by simp [PDwt, PDwts]) rfl
section
variable {P : Prg} [H : Pk P] {k : Nat} {M : MS}
theorem len_ok (heads : List (List Nat)) (rows : List Row) (hl : rows.length ≤ 8) : bi1M P (callV P A (k + 1)) .len (tabV heads rows) M = .ok (.int rows.length) M := by
  have e : callV P A (k + 1) 18 [tabV heads rows] M = .ok (.int rows.length) M := by
    simp [c18, f18, sVs, sV, eV, eVs, eVo, eVc, eVi, eVt, eVts, eVtt, asgV, setAll, vszl, fldM, mthM, fresh, ofD, ofDs, lookV, putV]
  show (match P.meth 44 "__len__" with | some g => (callV P A (k + 1) g [tabV heads rows] M).calm.bind fun r M => if dundOk .len r then RV.ok r M else .bad | none => .bad) = _
  rw [k_meth_44___len__]
  simp only [e, calm_ok, vb_ok]
  have : dundOk .len (.int (rows.length : Int)) = true := by
    simp [dundOk]
    omega
  rw [if_pos this]
end
end Mk
set_option maxRecDepth 100000
/-! one turn's walk -/
namespace Mk
open Mi Mv
section
variable {P : Prg} [H : Pk P] {k : Nat} {M : MS}
abbrev esOfR (rows : List Row) (qs : List Rat) : List (Rat × Rat) := rows.map (rowE qs)
theorem loop_ok {i : Nat} {heads : List (List Nat)} {rows : List Row} (hh : HeadsOk heads) (hr : RowsOk heads.length rows) (hr4 : rows.length ≤ 4) {qs : List Rat} (hq : ∀ q ∈ qs, six 24 q) {bs : List (Int × Int)} (hbl : bs.length = rows.length) (hb : ∀ p ∈ bs, isEnd p = true) :
    ∃ e M', sV P (callV P A (k + 8)) [6, 7] false f41L1 [some (.ref i), some (tabV heads rows), some (.tup (bs.map stV)), some (ansV qs), none, none, none, some (.ref M.length), some (.bl true), some (.bl true), none, none, none, none, none] (M ++ [⟨true, .lst []⟩]) = .ok (.next e) M' ∧
      ∃ x a b c, e = [some (.ref i), some (tabV heads rows), some (.tup (bs.map stV)), some (ansV qs), x, none, none, some (.ref M.length), some (.bl (((esOfR rows qs).zip bs).take rows.length |>.all fun z => sureAt z.1 z.2)), some (.bl (((esOfR rows qs).zip bs).take rows.length |>.all fun z => possAt z.1 z.2)), a, b, c, none, none] ∧ M' = M ++ [⟨true, .lst (((esOfR rows qs).take rows.length).map pqV)⟩] := by
  unfold f41L1
  have ln := fun M => len_ok (P := P) (k := k + 7) (M := M) heads rows (by omega)
  have rw_ := fun M => rows_ok (P := P) (k := k + 7) (M := M) heads rows
  have g0 : ∀ a : VO, (M ++ [a])[M.length]? = some a := fun a => app_get0 rfl
  have := for_next (P := P) (cl := callV P A (k + 8)) (ms := [6, 7]) (mk := false) (t := .name 4) (it := .rng1 (.bi .len (.cons (.var 1) .nil))) (b := f41B1) (src := (List.range rows.length).map fun (j : Nat) => .int j) (lv := []) (M := M ++ [⟨true, .lst []⟩]) (M0 := M ++ [⟨true, .lst []⟩]) (env := [some (.ref i), some (tabV heads rows), some (.tup (bs.map stV)), some (ansV qs), none, none, none, some (.ref M.length), some (.bl true), some (.bl true), none, none, none, none, none]) (eVi_rng1 (n := rows.length) (by simp [sVs, sV, eV, eVs, eVo, eVc, eVi, eVt, eVts, eVtt, asgV, setAll, vszl, fldM, mthM, fresh, ofD, ofDs, lookV, putV, ln]) (by omega)) (fun j e M' => ∃ x a b c, e = [some (.ref i), some (tabV heads rows), some (.tup (bs.map stV)), some (ansV qs), x, none, none, some (.ref M.length), some (.bl (((esOfR rows qs).zip bs).take j |>.all fun z => sureAt z.1 z.2)), some (.bl (((esOfR rows qs).zip bs).take j |>.all fun z => possAt z.1 z.2)), a, b, c, none, none] ∧ M' = M ++ [⟨true, .lst (((esOfR rows qs).take j).map pqV)⟩]) ⟨none, none, none, none, by simp, by simp⟩ (fun _ _ _ _ _ => rfl) ?_
  · simpa only [List.length_map, List.length_range] using this
  · rintro j v e M' hv ⟨x, a, b, c, rfl, rfl⟩
    simp only [List.getElem?_map, Option.map_eq_some_iff] at hv
    obtain ⟨j', hj', rfl⟩ := hv
    have hj : j < rows.length := by
      have := (List.getElem?_eq_some_iff.mp hj').1
      simpa using this
    have hjj : j' = j := by
      have := (List.getElem?_eq_some_iff.mp hj').2
      simpa using this.symm
    subst hjj
    obtain ⟨r, hr1⟩ : ∃ r, rows[j']? = some r := ⟨rows[j']'hj, by simp⟩
    obtain ⟨p, hp1⟩ : ∃ p, bs[j']? = some p := ⟨bs[j']'(by omega), by simp⟩
    have hm := List.mem_of_getElem? hr1
    have hpe := hb p (List.mem_of_getElem? hp1)
    have hw := hr.wide r hm
    have hl4 := hh.len
    have he1 : (esOfR rows qs)[j']? = some (rowE qs r) := by rw [List.getElem?_map, hr1]; rfl
    have hz1 : ((esOfR rows qs).zip bs)[j']? = some (rowE qs r, p) := by
      rw [List.getElem?_zip_eq_some]
      exact ⟨he1, hp1⟩
    have tk : ∀ f : (Rat × Rat) × (Int × Int) → Bool, (((esOfR rows qs).zip bs).take (j' + 1)).all f = ((((esOfR rows qs).zip bs).take j').all f && f (rowE qs r, p)) := fun f => by
      rw [List.take_add_one, hz1]
      simp
    have tk2 : (esOfR rows qs).take (j' + 1) = (esOfR rows qs).take j' ++ [rowE qs r] := by rw [List.take_add_one, he1]; rfl
    have el8 : ((esOfR rows qs).take j').length ≤ 8 := by simp; omega
    rw [tk, tk, tk2]
    have hzs : ∀ z ∈ r.2.zip qs, isEnd z.1 = true ∧ six 24 z.2 := fun z m => ⟨hr.ends r hm _ (List.of_mem_zip m).1, hq _ (List.of_mem_zip m).2⟩
    have hzl : (r.2.zip qs).length ≤ 4 := by simp; omega
    have sm := fun M => lsums_ok (P := P) (k := k + 4) (M := M) (ps := r.2) (qs := qs) (by omega) (hr.ends r hm) hq
    have slen : (sumsR [0] (r.2.zip qs)).length ≤ 16 := by
      rw [sumsR_len]
      calc _ ≤ 2 ^ 4 * 1 := Nat.mul_le_mul (Nat.pow_le_pow_right (by omega) hzl) (by simp)
        _ = 16 := by decide
    have ssix := fun x hx => (six_bound (sumsR_six (r.2.zip qs) [0] 0 (by simp [six_zero]) hzs x hx)).1
    have sl := lo_least (zs := r.2.zip qs)
    have sh := hi_most (zs := r.2.zip qs)
    have rE : rowE qs r = (loS (r.2.zip qs), hiS (r.2.zip qs)) := rfl
    rw [rE]
    generalize loS (r.2.zip qs) = L at *
    generalize hiS (r.2.zip qs) = U at *
    generalize sumsR [0] (r.2.zip qs) = S at *
    have sne : S ≠ [] := fun e => by rw [e] at sl; cases sl.1
    have l1 := fun M => least_ok (P := P) (k := k + 7) (M := M) sne (by omega) (fun x hx => by have := ssix x hx; omega) sl.1 sl.2
    have l2 := fun M => least_ok (P := P) (k := k + 7) (M := M) (l := S.map fun x => -x) (m := -U) (by simpa using sne) (by simp; omega) (fun x hx => by
      obtain ⟨y, hy, rfl⟩ := List.mem_map.mp hx
      have := ssix y hy
      show y.den < _
      omega) (List.mem_map.mpr ⟨U, sh.1, rfl⟩) (fun x hx => by
      obtain ⟨y, hy, rfl⟩ := List.mem_map.mp hx
      have := sh.2 y hy
      grind)
    have c2 : ∀ a b c d e f g h i' j k' l M', eV P (callV P A (k + 8)) f41C2 [a, b, c, d, e, f, g, h, i', j, some (.lst (S.map qV)), k', l, none, none] M' = .ok (.lst ((S.map fun x => -x).map qV)) M' := fun a b c d e f g h i' j k' l M' => by
      simp only [f41C2, sVs, sV, eV, eVs, eVo, eVc, eVi, eVt, eVts, eVtt, asgV, setAll, vszl, fldM, mthM, fresh, ofD, ofDs, lookV, putV]
      simp [sVs, sV, eV, eVs, eVo, eVc, eVi, eVt, eVts, eVtt, asgV, setAll, vszl, fldM, mthM, fresh, ofD, ofDs, lookV, putV]
      rw [lcV_map qV (fun x => qV (-x)) S rfl (by intro x _; simp [sVs, sV, eV, eVs, eVo, eVc, eVi, eVt, eVts, eVtt, asgV, setAll, vszl, fldM, mthM, fresh, ofD, ofDs, lookV, putV]) (by simp [vszl]; omega)]
      simp [Function.comp_def]
    have ap := append_ok (M := M ++ [⟨true, .lst (((esOfR rows qs).take j').map pqV)⟩]) (v := pqV (L, U)) (g0 _) rfl (by simp; omega)
    rw [set1_0] at ap
    generalize (esOfR rows qs).take j' = E at *
    generalize ((((esOfR rows qs).zip bs).take j').all fun z => sureAt z.1 z.2) = s1 at *
    generalize ((((esOfR rows qs).zip bs).take j').all fun z => possAt z.1 z.2) = s2 at *
    have hsz : sureAt (L, U) p = decide (U.num ≤ p.1 * U.den) := rfl
    have hpz : possAt (L, U) p = decide (L.num ≤ p.2 * L.den) := rfl
    have ep := end_low hpe
    have m1 := bop_mul_l (a := p.1) (by omega) (U.den : Int)
    have m2 := bop_mul_l (a := p.2) (by omega) (L.den : Int)
    refine ⟨_, _, [some (.ref i), some (tabV heads rows), some (.tup (bs.map stV)), some (ansV qs), some (.int j'), none, none, some (.ref M.length), some (.bl (s1 && sureAt (L, U) p)), some (.bl (s2 && possAt (L, U) p)), some (.lst (S.map qV)), some (qV L), some (qV (-U)), none, none], M ++ [⟨true, .lst ((E ++ [(L, U)]).map pqV)⟩], by simp [sVs, sV, eV, eVs, eVo, eVc, eVi, eVt, eVts, eVtt, asgV, setAll, vszl, fldM, mthM, fresh, ofD, ofDs, lookV, putV]; exact ⟨rfl, rfl⟩, ?_, _, _, _, _, rfl, rfl⟩
    rw [hsz, hpz]
    simp only [List.map_map] at l2 c2
    cases s1 <;> cases s2 <;> simp [f41B1, sVs, sV, eV, eVs, eVo, eVc, eVi, eVt, eVts, eVtt, asgV, setAll, vszl, fldM, mthM, fresh, ofD, ofDs, lookV, putV, rw_, hr1, sm, l1, c2, l2, rd, g0, Mb.ty, ap, hp1, m1, m2]
end
end Mk
set_option maxRecDepth 100000
/-! the law -/
namespace Mk
open Mi Mv
section
variable {P : Prg} [H : Pk P] {k : Nat} {M : MS}
theorem once_ok {i N : Nat} (h : Pa M i N) (hN : N < 2 ^ 56) : ∃ M', callV P A (k + 9) 41 [.ref i] M = .ok (.bl true) M' ∧ Dr i (N + 100) M M' := by
  have hi := h.lt
  obtain ⟨heads, rows, M1, e1, hh, hr, hr4, d1⟩ := sheet_ok (P := P) (k := k) h (by omega)
  obtain ⟨bs, M2, e2, hbl, hb, d2⟩ := limits_ok (P := P) (k := k + 4) (heads := heads) (rows := rows) hr4 d1.2 (by omega)
  have hl4 := hh.len
  obtain ⟨qs, M3, e3, h2, h3, d3⟩ := draws_ok (i := i) qV (fun _ q => six 24 q) 2 (2 ^ 59) (lcF P (callV P A (k + 8)) (.call 37 [] (.cons (.bin .sub (.call 32 [] (.cons (.var 0) (.cons (.int 9) .nil))) (.int 4)) (.cons (.bin .add (.int 1) (.call 32 [] (.cons (.var 0) (.cons (.int 3) .nil)))) .nil))) (.name 13) .nil [13] [some (.ref i), some (tabV heads rows), some (.tup (bs.map stV)), none, none, none, none, none, none, none, none, none, none, none, none]) (heads.map .str) [] (N + 86) M2 (fun v _ M N h hN => by
    obtain ⟨r1, Ma, ea, ha, da⟩ := dip_ok (P := P) (k := k + 7) (M := M) (n := 9) h (by omega) (by omega) (by omega)
    obtain ⟨r2, Mb, eb, hb, db⟩ := dip_ok (P := P) (k := k + 7) (M := Ma) (n := 3) da.2 (by omega) (by omega) (by omega)
    have pt := fun M => part_ok (P := P) (k := k + 7) (M := M) ((r1 : Int) - 4) (1 + r2) (by omega) (by omega)
    have hc : ((1 + r2 : Nat) : Int) = 1 + (r2 : Int) := by omega
    rw [hc] at pt
    refine ⟨mkRat ((r1 : Int) - 4) (1 + r2), Mb, ?_, six_draw (by omega) (by omega), da.trans db⟩
    simp [lcF, sVs, sV, eV, eVs, eVo, eVc, eVi, eVt, eVts, eVtt, asgV, setAll, vszl, fldM, mthM, fresh, ofD, ofDs, lookV, putV, ea, eb, pt]) (d2.2.mono (by omega)) (by simp; omega) (by simp; omega)
  have hq := all_of_zip (Q := fun q => six 24 q) h2 h3
  simp only [List.length_map] at h2 d3
  have hcols := fun M => columns_ok (P := P) (k := k + 7) (M := M) heads rows
  have c1 : eV P (callV P A (k + 8)) f41C1 [some (.ref i), some (tabV heads rows), some (.tup (bs.map stV)), none, none, none, none, none, none, none, none, none, none, none, none] M2 = .ok (.lst (qs.map qV)) M3 := by
    unfold f41C1
    rw [eV_lc]
    have : ∀ x, eVi P (callV P A (k + 8)) (.val (.fld (.var 1) "columns")) [some (.ref i), some (tabV heads rows), some (.tup (bs.map stV)), none, none, none, none, none, none, none, none, none, none, none, none] x = .ok (heads.map .str, []) x := fun x => by simp [sVs, sV, eV, eVs, eVo, eVc, eVi, eVt, eVts, eVtt, asgV, setAll, vszl, fldM, mthM, fresh, ofD, ofDs, lookV, putV, hcols]
    rw [this, vb_ok]
    simp only [sameV_nil]
    simp only [List.map_nil, List.nil_append] at e3
    rw [e3]
    rfl
  have hd := ((d1.trans d2).mono (show N + 66 + 20 ≤ N + 86 by omega)).trans d3
  obtain ⟨e, M', el, x, a, b, c, rfl, hM⟩ := loop_ok (P := P) (k := k) (M := M3) (i := i) hh hr hr4 hq hbl hb
  rw [hM] at el
  have tz : ((esOfR rows qs).zip bs).take rows.length = (esOfR rows qs).zip bs := List.take_of_length_le (by simp; exact Nat.min_le_left _ _)
  have te : (esOfR rows qs).take rows.length = esOfR rows qs := List.take_of_length_le (by simp)
  rw [tz, te, ← sure_all, ← poss_all] at el
  have re : ∀ M, callV P A (k + 8) 28 [tabV heads rows, ansV qs] M = .ok (.tup ((esOfR rows qs).map pqV)) M := fun M => row_ends_ok (P := P) (k := k + 2) (M := M) hh hr h2 hq
  have sa : ∀ M, callV P A (k + 8) 29 [tabV heads rows, .tup (bs.map stV), ansV qs] M = .ok (.bl (sureB (esOfR rows qs) bs)) M := fun M => is_sure_answer_ok (P := P) (k := k + 1) (M := M) hh hr h2 hq hbl hb
  have pa : ∀ M, callV P A (k + 8) 30 [tabV heads rows, .tup (bs.map stV), ansV qs] M = .ok (.bl (possB (esOfR rows qs) bs)) M := fun M => is_possible_answer_ok (P := P) (k := k + 1) (M := M) hh hr h2 hq hbl hb
  have sp : sureB (esOfR rows qs) bs = true → possB (esOfR rows qs) bs = true := sure_poss (rows := rows) (qs := qs) hb
  obtain ⟨t1, ht1⟩ := pq_text (es := esOfR rows qs) (by simp; omega) (fun e he => by
    obtain ⟨r, hrm, rfl⟩ := List.mem_map.mp he
    exact row_six hh hr hq hrm)
  generalize esOfR rows qs = es at *
  generalize sureB es bs = s at *
  generalize possB es bs = p at *
  obtain ⟨t2, ht2⟩ := two_text s p
  have L3 := hd.len
  have g0 : ∀ a : VO, (M3 ++ [a])[M3.length]? = some a := fun a => app_get0 rfl
  have f1 : ∀ a b : VO, (M3 ++ [a, b])[M3.length + 1]? = some b := fun a b => app_get (j := 1) rfl
  have s1 : ∀ a b c : VO, (M3 ++ [a, b]).set (M3.length + 1) c = M3 ++ [a, c] := fun a b c => app_set (j := 1) rfl c
  have ap := append_ok (M := M3 ++ [⟨true, .lst (es.map pqV)⟩, ⟨true, .lst [.bl s]⟩]) (v := .bl p) (f1 _ _) rfl (by simp)
  rw [s1] at ap
  have tk : ∀ T : MS, (M3 ++ T).take M.length = M3 := fun T => by rw [← L3]; simp
  refine ⟨M3, ?_, hd.mono (by omega)⟩
  cases s with
  | false => simp [c41, f41, sVs, sV, eV, eVs, eVo, eVc, eVi, eVt, eVts, eVtt, asgV, setAll, vszl, fldM, mthM, fresh, ofD, ofDs, lookV, putV, e1, e2, c1, bi1M, insV, Tgs.len, el, rd, g0, re, bopV, ht1, sa, pa, ht2, Mb.ty, f1, ap, tk]
  | true =>
    have hp := sp rfl
    subst hp
    simp [c41, f41, sVs, sV, eV, eVs, eVo, eVc, eVi, eVt, eVts, eVtt, asgV, setAll, vszl, fldM, mthM, fresh, ofD, ofDs, lookV, putV, e1, e2, c1, bi1M, insV, Tgs.len, el, rd, g0, re, bopV, ht1, sa, pa, ht2, Mb.ty, f1, ap, tk]
theorem right_ok {i N : Nat} (h : Pa M i N) (hN : N < 2 ^ 55) : ∃ M', callV P A (k + 10) 42 [.ref i] M = .ok (.bl true) M' ∧ Dr i (N + 200) M M' := by
  obtain ⟨M1, e1, d1⟩ := once_ok (P := P) (k := k) h (by omega)
  obtain ⟨M2, e2, d2⟩ := once_ok (P := P) (k := k) d1.2 (by omega)
  have hd := d1.trans d2
  have tk : M2.take M.length = M2 := by rw [← hd.len, List.take_length]
  refine ⟨M2, ?_, hd⟩
  simp [c42, f42, sVs, sV, eV, eVs, eVo, eVc, eVi, eVt, eVts, eVtt, asgV, setAll, vszl, fldM, mthM, fresh, ofD, ofDs, lookV, putV, e1, e2, tk]
theorem pail_ok (ns : List Int) (at_ : Nat) (hat : at_ < 1000000) (hl : ns.length ≤ 1000000) : ∃ a b : Int, callV P A (k + 1) 31 [.fls (ns.map .int), .int at_] M = .ok (.ref M.length) (M ++ [⟨true, pailV a b 0⟩]) ∧ 0 ≤ a := by
  have loop : ∃ e M', sV P (callV P A k) [] true f31L1 [some (.fls (ns.map .int)), some (.int at_), some (.int (1414213 + 156917 * at_)), none, none, none] M = .ok (.next e) M' ∧ ∃ m x, e = [some (.fls (ns.map .int)), some (.int at_), some (.int m), x, none, none] ∧ M' = M := by
    unfold f31L1
    have := for_next (P := P) (cl := callV P A k) (ms := []) (mk := true) (t := .name 3) (it := (.val (.sli (.var 0) .none (.some (.int 47)) .none))) (b := f31B1) (src := (ns.take 47).map .int) (lv := []) (M := M) (M0 := M) (env := [some (.fls (ns.map .int)), some (.int at_), some (.int (1414213 + 156917 * at_)), none, none, none]) (by
      have := cut_to (ns.map V.int) 47
      simp [sVs, sV, eV, eVs, eVo, eVc, eVi, eVt, eVts, eVtt, asgV, setAll, vszl, fldM, mthM, fresh, ofD, ofDs, lookV, putV]
      exact this) (fun n e M' => ∃ m x, e = [some (.fls (ns.map .int)), some (.int at_), some (.int m), x, none, none] ∧ M' = M) ⟨_, _, rfl, rfl⟩ (fun _ _ _ _ _ => rfl) ?_
    · exact this
    · rintro n v e M1 hv ⟨m, x, rfl, rfl⟩
      simp only [List.getElem?_map, Option.map_eq_some_iff] at hv
      obtain ⟨c, hc, rfl⟩ := hv
      refine ⟨_, _, [some (.fls (ns.map .int)), some (.int at_), some (.int ((m * 38327 + c * 53 + 31) % 2147483497)), some (.int c), none, none], M1, by simp [sVs, sV, eV, eVs, eVo, eVc, eVi, eVt, eVts, eVtt, asgV, setAll, vszl, fldM, mthM, fresh, ofD, ofDs, lookV, putV]; exact ⟨rfl, rfl⟩, ?_, ⟨_, _, rfl, rfl⟩⟩
      simp [f31B1, sVs, sV, eV, eVs, eVo, eVc, eVi, eVt, eVts, eVtt, asgV, setAll, vszl, fldM, mthM, fresh, ofD, ofDs, lookV, putV, bop_mul_r, bop_mod]
  obtain ⟨e, M', el, m, x, rfl, hM⟩ := loop
  rw [hM] at el
  have pw : bopV .pow (.int 10) (.int 18) = some (.int 1000000000000000000) := by simp [bopV]
  have fin : ∀ own : Int, (if at_ < ns.length then ns[at_]? = some own else own = 67 * at_ + 41) → callV P A (k + 1) 31 [.fls (ns.map .int), .int at_] M = .ok (.ref M.length) (M ++ [⟨true, pailV (if own < 0 ∨ 1000000000000000000 ≤ own then (if own < 0 then -own else own) else 0) ((m * 3 + own) % 2147483489) 0⟩]) := fun own hown => by
    by_cases hlt : at_ < ns.length
    · rw [if_pos hlt] at hown
      have hx := (List.getElem?_eq_some_iff.mp hown).2
      by_cases h1 : own < 0
      · simp [c31, f31, sVs, sV, eV, eVs, eVo, eVc, eVi, eVt, eVts, eVtt, asgV, setAll, vszl, fldM, mthM, fresh, ofD, ofDs, lookV, putV, bop_mul_r, bop_mul_l, bop_mod, el, hlt, pw, hx, h1]
        simp [retV]
      · by_cases h2 : 1000000000000000000 ≤ own
        · simp [c31, f31, sVs, sV, eV, eVs, eVo, eVc, eVi, eVt, eVts, eVtt, asgV, setAll, vszl, fldM, mthM, fresh, ofD, ofDs, lookV, putV, bop_mul_r, bop_mul_l, bop_mod, el, hlt, pw, hx, h1, h2]
          simp [retV]
        · simp [c31, f31, sVs, sV, eV, eVs, eVo, eVc, eVi, eVt, eVts, eVtt, asgV, setAll, vszl, fldM, mthM, fresh, ofD, ofDs, lookV, putV, bop_mul_r, bop_mul_l, bop_mod, el, hlt, pw, hx, h1, h2]
          simp [retV]
    · rw [if_neg hlt] at hown
      subst hown
      have h1 : ¬ (67 * (at_ : Int) + 41 < 0) := by omega
      have h2 : ¬ (1000000000000000000 ≤ 67 * (at_ : Int) + 41) := by omega
      simp [c31, f31, sVs, sV, eV, eVs, eVo, eVc, eVi, eVt, eVts, eVtt, asgV, setAll, vszl, fldM, mthM, fresh, ofD, ofDs, lookV, putV, bop_mul_r, bop_mul_l, bop_mod, el, hlt, pw, h1, h2]
      simp [retV]
  by_cases hlt : at_ < ns.length
  · refine ⟨_, _, fin ns[at_] (by rw [if_pos hlt]; simp [hlt]), ?_⟩
    split <;> first | omega | (split <;> omega)
  · refine ⟨_, _, fin (67 * at_ + 41) (by rw [if_neg hlt]), ?_⟩
    split <;> first | omega | (split <;> omega)
theorem law_ok (ns : List Int) (hl : ns.length ≤ 63) : ∃ M', callV P A (k + 11) 43 [.fls (ns.map .int)] [] = .ok (.bl true) M' := by
  have one : ∀ (v : Nat) (M : MS), v < 2 → ∃ M', lcF P (callV P A (k + 10)) (.call 42 [] (.cons (.call 31 [] (.cons (.var 0) (.cons (.var 1) .nil))) .nil)) (.name 1) .nil [1] [some (.fls (ns.map .int)), none] (.int v) M = .ok (some (.bl true)) M' := fun v M hv => by
    obtain ⟨a, b, e1, h1⟩ := pail_ok (P := P) (k := k + 9) (M := M) ns v (by omega) (by omega)
    obtain ⟨M', e2, d2⟩ := right_ok (P := P) (k := k) (M := M ++ [⟨true, pailV a b 0⟩]) (i := M.length) (N := 0) ⟨a, b, 0, by simp, h1, by omega, by omega⟩ (by omega)
    exact ⟨M', by simp [lcF, sVs, sV, eV, eVs, eVo, eVc, eVi, eVt, eVts, eVtt, asgV, setAll, vszl, fldM, mthM, fresh, ofD, ofDs, lookV, putV, e1, e2]⟩
  obtain ⟨M1, e1⟩ := one 0 [] (by omega)
  obtain ⟨M2, e2⟩ := one 1 M1 (by omega)
  have c1 : eV P (callV P A (k + 10)) f43C1 [some (.fls (ns.map .int)), none] [] = .ok (.lst [.bl true, .bl true]) M2 := by
    unfold f43C1
    rw [eV_lc, eVi_rng1 (n := 2) (by simp [sVs, sV, eV, eVs, eVo, eVc, eVi, eVt, eVts, eVtt, asgV, setAll, vszl, fldM, mthM, fresh, ofD, ofDs, lookV, putV]; rfl) (by omega), vb_ok]
    simp only [sameV_nil, show (List.range 2) = [0, 1] from rfl, List.map_cons, List.map_nil]
    rw [lcV_cons, e1]
    simp only [if_true, calm_ok, vb_ok, vszl]
    rw [lcV_cons, e2]
    simp [vszl]
  refine ⟨[], ?_⟩
  simp [c43, f43, sVs, sV, eV, eVs, eVo, eVc, eVi, eVt, eVts, eVtt, asgV, setAll, vszl, fldM, mthM, fresh, ofD, ofDs, lookV, putV, c1]
end
end Mk
theorem k39_pure {P : Mi.Prg} [Mk.Pk P] : Mi.LawOk P 43 (10 + 1) 63 := fun ns hl => by
  obtain ⟨M, h⟩ := Mk.law_ok (P := P) (k := 0) ns hl
  exact Mv.law_of Mk.A ns h
set_option maxRecDepth 100000
set_option maxHeartbeats 0
open PySem PySem.W PySem.Calls PyProof.Rows
instance : Mk.Pk Mi.L.o.prg where
  fn0 := by kernel_rfl
  fn1 := by kernel_rfl
  fn2 := by kernel_rfl
  fn3 := by kernel_rfl
  fn4 := by kernel_rfl
  fn5 := by kernel_rfl
  fn6 := by kernel_rfl
  fn7 := by kernel_rfl
  fn8 := by kernel_rfl
  fn9 := by kernel_rfl
  fn10 := by kernel_rfl
  fn11 := by kernel_rfl
  fn12 := by kernel_rfl
  fn13 := by kernel_rfl
  fn14 := by kernel_rfl
  fn15 := by kernel_rfl
  fn16 := by kernel_rfl
  fn17 := by kernel_rfl
  fn18 := by kernel_rfl
  fn19 := by kernel_rfl
  fn20 := by kernel_rfl
  fn21 := by kernel_rfl
  fn22 := by kernel_rfl
  fn23 := by kernel_rfl
  fn24 := by kernel_rfl
  fn25 := by kernel_rfl
  fn26 := by kernel_rfl
  fn27 := by kernel_rfl
  fn28 := by kernel_rfl
  fn29 := by kernel_rfl
  fn30 := by kernel_rfl
  fn31 := by kernel_rfl
  fn32 := by kernel_rfl
  fn33 := by kernel_rfl
  fn34 := by kernel_rfl
  fn35 := by kernel_rfl
  fn36 := by kernel_rfl
  fn37 := by kernel_rfl
  fn38 := by kernel_rfl
  fn39 := by kernel_rfl
  fn40 := by kernel_rfl
  fn41 := by kernel_rfl
  fn42 := by kernel_rfl
  fn43 := by kernel_rfl
  fld_44_heads := by kernel_rfl
  fld_44_lines := by kernel_rfl
  nprop_44_heads := by kernel_rfl
  nprop_44_lines := by kernel_rfl
  prop_44_columns := by kernel_rfl
  prop_44_rows := by kernel_rfl
  meth_44___len__ := by kernel_rfl
  init_44 := by kernel_rfl
  ask0 := by kernel_rfl
  ask1 := by kernel_rfl
  ask2 := by kernel_rfl
  ask3 := by kernel_rfl
  ask4 := by kernel_rfl
  ask5 := by kernel_rfl
  ask6 := by kernel_rfl
  ask7 := by kernel_rfl
  ask8 := by kernel_rfl
  ask9 := by kernel_rfl
  ask10 := by kernel_rfl
  ask11 := by kernel_rfl
  ask12 := by kernel_rfl
  ask13 := by kernel_rfl
  ask14 := by kernel_rfl
  ask15 := by kernel_rfl
  ask16 := by kernel_rfl
  ask17 := by kernel_rfl
  ask18 := by kernel_rfl
  ask19 := by kernel_rfl
  ask20 := by kernel_rfl
  ask21 := by kernel_rfl
  ask22 := by kernel_rfl
  ask23 := by kernel_rfl
  ask24 := by kernel_rfl
  ask25 := by kernel_rfl
  ask26 := by kernel_rfl
  ask27 := by kernel_rfl
  ask28 := by kernel_rfl
  ask29 := by kernel_rfl
  ask30 := by kernel_rfl
  ask31 := by kernel_rfl
  ask32 := by kernel_rfl
  ask33 := by kernel_rfl
  ask34 := by kernel_rfl
  ask35 := by kernel_rfl
  ask36 := by kernel_rfl
  ask37 := by kernel_rfl
  ask38 := by kernel_rfl
  ask39 := by kernel_rfl
  ask40 := by kernel_rfl
  ask41 := by kernel_rfl
  ask42 := by kernel_rfl
  ask43 := by kernel_rfl
  ask44 := by kernel_rfl
  ask45 := by kernel_rfl
  ask46 := by kernel_rfl
  ask47 := by kernel_rfl
  ask48 := by kernel_rfl
theorem PySem.Challenge.cw_cornerhall_k39_whole_rows_by_answers_holds : PySem.Challenge.rw_cornerhall_k39_whole_rows_by_answers.Holds := by
  have L : Mi.LawOk Mi.L.o.prg 43 (10 + 1) 63 := k39_pure
  w_on; o_law
  refine HandSHeadRun.head_any (r := OpenLaw.row PySem.Challenge.rw_cornerhall_k39_whole_rows_by_answers) (q := view (OpenLaw.row PySem.Challenge.rw_cornerhall_k39_whole_rows_by_answers).prog [73]) (H := Mi.L.hk) (ob := Mi.L.ob) (M := 40000) (loose := Mi.L.loose) (d := HandSHeadRun.topDef (OpenLaw.row PySem.Challenge.rw_cornerhall_k39_whole_rows_by_answers).prog 73) (kwd := []) Mi.L.ob_eq
    (by kernel_rfl) (fun s => by kernel_rfl) Mi.L.run (by kernel_rfl) (by kernel_rfl) (by kernel_rfl) (by rfl) (by first | assumption | decide +kernel) (by decide +kernel) ⟨rfl, rfl, rfl, rfl, rfl, by decide +kernel⟩ ?hw ?hc
  case hw => w_witness2
  case hc =>
    refine Mi.walk_ofM (l := PySem.Challenge.rw_cornerhall_k39_whole_rows_by_answers) (n := 63) (k := Mi.rm (10 + 1)) (x := "script") rfl (by decide) (by kernel_rfl) ⟨rfl, by decide, by decide⟩ ?F
    intro w mg fa h Y G hmg0
    have hmg : mg Mi.L.de43.name = some (.ref fa) := by
      have e : (HandSHeadRun.topDef (OpenLaw.row PySem.Challenge.rw_cornerhall_k39_whole_rows_by_answers).prog 73).name = Mi.L.de43.name := by kernel_rfl
      rw [← e]
      exact hmg0
    exact Mi.Wo.law (d := Mi.L.de43) G Y Mi.L.tabS Mi.L.dsOk 43 rfl rfl rfl hmg rfl L
