import PyProof.Rows.All
import PySem.Challenge.RW_ringloads_k78_trees_written
import Wide.All
import OpenK.AllK
import Wide.FinOn
import HandS.ForMost
import HandS.Exc
import HandS.Wide
import HandS.Deep
import HandS.Codes
import HandS.CallSlots
import HandS.IsInst
import HandS.ExcOwn
import HandS.TupAny
import HandS.Style
import HandS.RaiseMore
import HandS.WordsExc
import HandS.Conv
import HandS.Head0
import HandS.Head1
import HandS.Head2
import HandS.HeadEnd
import HandS.HeadHook1
import HandS.HeadHook2
set_option Elab.async false
set_option linter.all false
set_option maxRecDepth 100000
/-! VS1: values as trees with mutable cells, the small form of the text, its meaning. -/
namespace VS
open PySem

/-! ### values -/
inductive D where
  | non
  | bl (b : Bool)
  | int (i : Int)
  | str (cs : List Nat)
  | tup (xs : List D)
  | lst (xs : List D)
  | scr (ns : List Int)
  | loc (a : Addr)
  | exc (c : Nat) (fs : List D)

/-- dict keys -/
inductive Ky where
  | int (i : Int)
  | str (cs : List Nat)
  deriving DecidableEq

inductive Cell where
  | lst (xs : List D)
  | dK (kvs : List (Ky × D))
  | dT (kvs : List (List Ky × D))
  | ins (c : Nat) (fs : List (Str × D))

abbrev Hv := Addr → Option Cell
def hup (h : Hv) (a : Addr) (c : Cell) : Hv := fun b => if b = a then some c else h b
def hrm (h : Hv) (a : Addr) : Hv := fun b => if b = a then none else h b
def hsub (h h' : Hv) : Prop := ∀ a c, h a = some c → h' a = some c
theorem hup_same {h : Hv} {a : Addr} {c : Cell} : hup h a c a = some c := if_pos rfl
theorem hup_ne {h : Hv} {a b : Addr} {c : Cell} (n : b ≠ a) : hup h a c b = h b := if_neg n
theorem hup_hup {h : Hv} {a : Addr} {c c' : Cell} : hup (hup h a c) a c' = hup h a c' := by
  funext b; unfold hup; split <;> rfl
theorem hrm_hup {h : Hv} {a : Addr} {c : Cell} (n : h a = none) : hrm (hup h a c) a = h := by
  funext b; unfold hrm hup; split
  · rename_i e; rw [e, n]
  · rfl
theorem hup_comm {h : Hv} {a b : Addr} {c d : Cell} (n : a ≠ b) : hup (hup h a c) b d = hup (hup h b d) a c := by
  funext x; unfold hup; split
  · rename_i e; subst e; rw [if_neg (Ne.symm n)]
  · rfl
theorem ne_of_hup {h : Hv} {a b : Addr} {c : Cell} (e : hup h a c b = none) : b ≠ a := by
  rintro rfl; rw [hup_same] at e; cases e
theorem none_of_hup {h : Hv} {a b : Addr} {c : Cell} (e : hup h a c b = none) : h b = none := by
  rw [hup_ne (ne_of_hup e)] at e; exact e
theorem hup_self {h : Hv} {a : Addr} {c : Cell} (e : h a = some c) : hup h a c = h := by
  funext b; unfold hup; split
  · rename_i q; rw [q, e]
  · rfl
theorem hsub_refl (h : Hv) : hsub h h := fun _ _ e => e
theorem hsub_hup {h : Hv} {a : Addr} {c : Cell} (n : h a = none) : hsub h (hup h a c) := fun b d e => by
  rw [hup_ne]; exact e
  rintro rfl; rw [n] at e; cases e
theorem hsub_trans {h1 h2 h3 : Hv} (a : hsub h1 h2) (b : hsub h2 h3) : hsub h1 h3 := fun x c e => b x c (a x c e)

/-- a list's content, or a text-like value seen through its cell -/
def rsv (h : Hv) : D → D
  | .loc a => match h a with
    | some (.lst xs) => .lst xs
    | _ => .loc a
  | d => d

def lim : Nat := 16777216

mutual
def D.dep : D → Nat
  | .tup xs => D.deps xs + 1
  | .lst xs => D.deps xs + 1
  | _ => 0
def D.deps : List D → Nat
  | [] => 0
  | x :: xs => max (D.dep x) (D.deps xs)
end

/-! plain data: no cell, no script, no exception -/
mutual
def D.pln : D → Bool
  | .non => true
  | .bl _ => true
  | .int _ => true
  | .str _ => true
  | .tup xs => D.plns xs
  | .lst xs => D.plns xs
  | _ => false
def D.plns : List D → Bool
  | [] => true
  | x :: xs => D.pln x && D.plns xs
end

mutual
def D.eqb : D → D → Bool
  | .non, .non => true
  | .bl a, .bl b => a == b
  | .bl a, .int j => (if a then 1 else 0) == j
  | .int i, .bl b => i == (if b then 1 else 0)
  | .int i, .int j => i == j
  | .str x, .str y => x == y
  | .tup xs, .tup ys => D.eqbs xs ys
  | .lst xs, .lst ys => D.eqbs xs ys
  | _, _ => false
def D.eqbs : List D → List D → Bool
  | [], [] => true
  | x :: xs, y :: ys => D.eqb x y && D.eqbs xs ys
  | _, _ => false
end

/-! ### the form -/
inductive BOp where | add | sub | mul | fdiv | mod | pow
  deriving DecidableEq
inductive COp where | eq | ne | lt | le | gt | ge | isN | isnN | inn | nin
  deriving DecidableEq
inductive Kd where | non | int | bool | str | tuple | list | dict
  deriving DecidableEq
inductive BI where | len | abs | min2 | max2 | int | str | list (fz : Bool) | tuple | all | any | max1 | min1 | sum | sorted (fz : Bool)
  deriving DecidableEq
inductive MT where | append | pop | clear | count | index | join | split (fz : Bool) | partition | replace | upper
  deriving DecidableEq

mutual
inductive Tg where
  | nm (i : Nat)
  | tp (ts : Tgs)
inductive Tgs where
  | nil
  | cons (t : Tg) (ts : Tgs)
end

mutual
inductive E where
  | var (i : Nat)
  | cst (d : D)
  | glob (i : Nat)
  | bop (fz : Bool) (o : BOp) (a b : E)
  | neg (a : E)
  | not (a : E)
  | cmp (o : COp) (a b : E)
  | chn (o1 o2 : COp) (a b c : E)
  | andv (as : Es)
  | orv (as : Es)
  | ite (c : C) (a b : E)
  | tup (as : Es)
  | lst (fz : Bool) (as : Es)
  | ix (a i : E)
  | slc (fz : Bool) (a : E) (lo hi : O)
  | rev (fz : Bool) (a : E)
  | call (f : Nat) (as : Es)
  | bi (b : BI) (as : Es)
  | lrng1 (fz : Bool) (a : E)
  | lrng2 (fz : Bool) (a b : E)
  | isi (a : E) (tys : List Kd)
  | isx (a : E) (cs : List Nat)
  | fld (a : E) (n : Nat)
  | mt (m : MT) (o : E) (as : Es)
  | comp (fz : Bool) (elt : E) (tg : Tg) (own : List (Str × Nat)) (it : It) (cnd : Cs)
  | frz (a : E)
  | dnew (tk : Bool)
inductive Es where
  | nil
  | cons (e : E) (es : Es)
inductive O where
  | none
  | some (e : E)
inductive C where
  | val (e : E)
  | cmp (o : COp) (a b : E)
  | chn (o1 o2 : COp) (a b c : E)
  | not (c : C)
  | and (cs : Cs)
  | or (cs : Cs)
inductive Cs where
  | nil
  | cons (c : C) (cs : Cs)
inductive It where
  | seq (a : E)
  | rng1 (a : E)
  | rng2 (a b : E)
  | enm (a : E)
  | zip2 (a b : E)
  | zip3 (a b c : E)
  | sgn (a : E)
end
mutual
inductive S where
  | asg (tg : Tg) (e : E)
  | par (i j : Nat) (a b : E)
  | asgIx (o i e : E)
  | aug (i : Nat) (e : E)
  | ex (e : E)
  | ret (e : E)
  | ret0
  | ife (c : C) (t f : Ss)
  | whl (c : C) (b : Ss)
  | fr (tg : Tg) (it : It) (b : Ss)
  | rs (c : Nat) (as : Es)
  | tr (b : Ss) (c : Nat) (v : Option Nat) (s : Ss)
  | never
inductive Ss where
  | nil
  | cons (s : S) (ss : Ss)
end

/-! ### meaning -/
abbrev Env := List (Option D)
abbrev QD := D → Hv → Prop
abbrev XQ := Nat → List D → Hv → Prop
abbrev VSp := List D → Hv → QD → XQ → Prop
structure Tab where
  fn : Nat → VSp
  glob : Nat → Option D
  /-- an exception class: does it keep its arguments as fields -/
  keeps : Nat → Bool
  /-- the class at the first is a subclass of the class at the second -/
  sub : Nat → Nat → Bool
  /-- the place of a field's name among a class's fields -/
  fldIx : Nat → Nat → Option Nat
  /-- the tuples that the top has written -/
  kc : List D → Bool

def br (c : Bool) (A B : Prop) : Prop := (c = true → A) ∧ (c = false → B)
theorem br_true {A B : Prop} (h : A) : br true A B := ⟨fun _ => h, (fun e => nomatch e)⟩
theorem br_false {A B : Prop} (h : B) : br false A B := ⟨(fun e => nomatch e), fun _ => h⟩
theorem br_dec {c : Prop} [Decidable c] {A B : Prop} (h1 : c → A) (h2 : ¬ c → B) : br (decide c) A B := ⟨fun e => h1 (of_decide_eq_true e), fun e => h2 (of_decide_eq_false e)⟩

/-- a list that the text makes: as a tree, or as a cell -/
def mkL (fz : Bool) (xs : List D) (h : Hv) (Q : QD) : Prop :=
  match fz with
  | true => Q (.lst xs) h
  | false => ∀ a, h a = none → Q (.loc a) (hup h a (.lst xs))

def mulOk (i j : Int) : Prop := i.natAbs.log2 + j.natAbs.log2 < 1000000
def divOk (j : Int) : Prop := 0 < j ∧ j.natAbs.log2 < 9000
def powOk (i j : Int) : Prop := 0 ≤ j ∧ j ≤ 1000000 ∧ i.natAbs < 2 ^ 64

def wAdd (fz : Bool) (x y : D) (h : Hv) (Q : QD) : Prop :=
  match rsv h x, rsv h y with
  | .int i, .int j => Q (.int (i + j)) h
  | .str a, .str b => a.length + b.length ≤ lim ∧ Q (.str (a ++ b)) h
  | .lst a, .lst b => a.length + b.length ≤ lim ∧ mkL fz (a ++ b) h Q
  | .tup a, .tup b => a.length + b.length ≤ lim ∧ Q (.tup (a ++ b)) h
  | _, _ => False
def wMul (fz : Bool) (x y : D) (h : Hv) (Q : QD) : Prop :=
  match rsv h x, rsv h y with
  | .int i, .int j => mulOk i j ∧ Q (.int (i * j)) h
  | .lst a, .int j => -(2 ^ 63) ≤ j ∧ j < 2 ^ 63 ∧ a.length * j.toNat ≤ lim ∧ mkL fz (List.replicate j.toNat a).flatten h Q
  | _, _ => False
def wBop (fz : Bool) (o : BOp) (x y : D) (h : Hv) (Q : QD) : Prop :=
  match o with
  | .add => wAdd fz x y h Q
  | .mul => wMul fz x y h Q
  | .sub => match x, y with
    | .int i, .int j => Q (.int (i - j)) h
    | _, _ => False
  | .fdiv => match x, y with
    | .int i, .int j => divOk j ∧ Q (.int (i / j)) h
    | _, _ => False
  | .mod => match x, y with
    | .int i, .int j => 0 < j ∧ Q (.int (i % j)) h
    | _, _ => False
  | .pow => match x, y with
    | .int i, .int j => powOk i j ∧ Q (.int (i ^ j.toNat)) h
    | _, _ => False

def keyD : D → Option Ky
  | .int i => some (.int i)
  | .str s => some (.str s)
  | _ => none
def keysD : List D → Option (List Ky)
  | [] => some []
  | x :: xs => match keyD x, keysD xs with
    | some k, some ks => some (k :: ks)
    | _, _ => none
def lookK {κ : Type} [DecidableEq κ] (kvs : List (κ × D)) (k : κ) : Option D :=
  match kvs with
  | [] => none
  | (k', v) :: r => if k' = k then some v else lookK r k
def putK {κ : Type} [DecidableEq κ] (kvs : List (κ × D)) (k : κ) (v : D) : List (κ × D) :=
  if (kvs.any fun kv => decide (kv.1 = k)) = true then kvs.map (fun kv => if kv.1 = k then (kv.1, v) else kv) else kvs ++ [(k, v)]
/-- what a dict's cell holds at a key, if it is a dict and the key one of its kind -/
def dlook (kc : List D → Bool) (c : Cell) (k : D) : Option (Option D) :=
  match c with
  | .dK kvs => (keyD k).map (lookK kvs)
  | .dT kvs => match k with
    | .tup ks => if kc ks then none else (keysD ks).map (lookK kvs)
    | _ => none
  | _ => none

def D.isNon : D → Bool
  | .non => true
  | _ => false
def wEq (x y : D) (h : Hv) (Q : Bool → Prop) : Prop :=
  (rsv h x).pln = true ∧ (rsv h y).pln = true ∧ ((rsv h x).dep ≤ 64 ∧ (rsv h y).dep ≤ 64) ∧ Q (D.eqb (rsv h x) (rsv h y))
def wInL (x : D) (b : List D) (h : Hv) (Q : Bool → Prop) : Prop :=
  (rsv h x).pln = true ∧ D.plns b = true ∧ (rsv h x).dep ≤ 64 ∧ D.deps b < 64 ∧ Q (b.any fun z => D.eqb z (rsv h x))
def wIn (kc : List D → Bool) (x y : D) (h : Hv) (Q : Bool → Prop) : Prop :=
  match rsv h y with
  | .str b => match x with
    | .str [c] => Q (decide (c ∈ b))
    | _ => False
  | .lst b => wInL x b h Q
  | .tup b => match x with
    | .int i => (∀ z ∈ b, ∃ j, z = .int j) ∧ Q (b.any fun z => D.eqb z (.int i))
    | .str i => (∀ z ∈ b, ∃ j, z = .str j) ∧ Q (b.any fun z => D.eqb z (.str i))
    | _ => False
  | .loc a => ∃ c o, h a = some c ∧ dlook kc c x = some o ∧ Q o.isSome
  | _ => False
def wCmp (kc : List D → Bool) (o : COp) (x y : D) (h : Hv) (Q : Bool → Prop) : Prop :=
  match o with
  | .eq => wEq x y h Q
  | .ne => wEq x y h fun b => Q (!b)
  | .lt => match x, y with
    | .int i, .int j => Q (decide (i < j))
    | _, _ => False
  | .le => match x, y with
    | .int i, .int j => Q (decide (i ≤ j))
    | .str a, .str b => Q (decide (a ≤ b))
    | _, _ => False
  | .gt => match x, y with
    | .int i, .int j => Q (decide (j < i))
    | _, _ => False
  | .ge => match x, y with
    | .int i, .int j => Q (decide (j ≤ i))
    | _, _ => False
  | .isN => match y with
    | .non => Q x.isNon
    | _ => False
  | .isnN => match y with
    | .non => Q (!x.isNon)
    | _ => False
  | .inn => wIn kc x y h Q
  | .nin => wIn kc x y h fun b => Q (!b)

/-- the place of an index, counted from the end where it is below nought -/
def ixN (n : Nat) (i : Int) : Option Nat := if 0 ≤ i then (if i < n then some i.toNat else none) else if -(n : Int) ≤ i then some (i + n).toNat else none
def atI {α : Type} (xs : List α) (i : Int) : Option α := (ixN xs.length i).bind fun j => xs[j]?
def wIx (kc : List D → Bool) (x y : D) (h : Hv) (Q : QD) : Prop :=
  match rsv h x with
  | .loc a => ∃ c d, h a = some c ∧ dlook kc c y = some (some d) ∧ Q d h
  | .lst xs => match y with
    | .int i => ∃ d, atI xs i = some d ∧ Q d h
    | _ => False
  | .tup xs => match y with
    | .int i => ∃ d, atI xs i = some d ∧ Q d h
    | _ => False
  | .scr xs => match y with
    | .int i => ∃ d, atI xs i = some d ∧ Q (.int d) h
    | _ => False
  | .str xs => match y with
    | .int i => xs.length ≤ lim ∧ ∃ c, atI xs i = some c ∧ Q (.str [c]) h
    | _ => False
  | _ => False
def wSet (kc : List D → Bool) (o i v : D) (h : Hv) (Q : Hv → Prop) : Prop :=
  match o with
  | .loc a => match h a with
    | some (.lst xs) => match i with
      | .int k => ∃ j, ixN xs.length k = some j ∧ Q (hup h a (.lst (xs.set j v)))
      | _ => False
    | some (.dK kvs) => kvs.length < lim ∧ ∃ k, keyD i = some k ∧ Q (hup h a (.dK (putK kvs k v)))
    | some (.dT kvs) => kvs.length < lim ∧ ∃ ks kk, i = .tup ks ∧ kc ks = false ∧ keysD ks = some kk ∧ Q (hup h a (.dT (putK kvs kk v)))
    | _ => False
  | _ => False

def sIx (n d : Nat) : Option Int → Nat
  | none => d
  | some v => (if v < 0 then max (v + (n : Int)) 0 else min v (n : Int)).toNat
def cutL {α : Type} (xs : List α) (lo hi : Option Int) : List α := (xs.drop (sIx xs.length 0 lo)).take (sIx xs.length xs.length hi - sIx xs.length 0 lo)
def wSlc (fz : Bool) (x : D) (lo hi : Option Int) (h : Hv) (Q : QD) : Prop :=
  match rsv h x with
  | .lst xs => mkL fz (cutL xs lo hi) h Q
  | .tup xs => Q (.tup (cutL xs lo hi)) h
  | .str xs => xs.length ≤ lim ∧ Q (.str (cutL xs lo hi)) h
  | _ => False

def kindD (h : Hv) : D → Option Kd
  | .non => some .non
  | .int _ => some .int
  | .bl _ => some .bool
  | .str _ => some .str
  | .tup _ => some .tuple
  | .lst _ => some .list
  | .loc a => match h a with
    | some (.lst _) => some .list
    | some (.dK _) => some .dict
    | some (.dT _) => some .dict
    | _ => none
  | _ => none
def Kd.isOf (k t : Kd) : Bool := decide (k = t) || (decide (k = .bool) && decide (t = .int))

def lenD : D → Option Nat
  | .str xs => some xs.length
  | .lst xs => some xs.length
  | .tup xs => some xs.length
  | .scr xs => some xs.length
  | _ => none

/-- the signs of a whole number's writing -/
def codes (s : String) : List Nat := s.toList.map Char.toNat
def intD (i : Int) : List Nat := codes (toString i)
def strOf (cs : List Nat) : Str := ⟨cs.toArray⟩

def allInt : List D → Option (List Int)
  | [] => some []
  | x :: r => match x with
    | .int i => (allInt r).map (i :: ·)
    | _ => none
def allBl : List D → Option (List Bool)
  | [] => some []
  | x :: r => match x with
    | .bl i => (allBl r).map (i :: ·)
    | _ => none
def allStr : List D → Option (List (List Nat))
  | [] => some []
  | x :: r => match x with
    | .str i => (allStr r).map (i :: ·)
    | _ => none

def rngL (a b : Int) : List D := (List.range (b - a).toNat).map fun i => D.int (a + (i : Nat))
def rngOk (a b : Int) : Prop := -(2 ^ 62) ≤ a ∧ a < 2 ^ 62 ∧ -(2 ^ 62) ≤ b ∧ b < 2 ^ 62 ∧ (b - a).toNat ≤ lim

def seqD : D → Option (List D)
  | .lst xs => some xs
  | .tup xs => some xs
  | _ => none
def wBI1 (b : BI) (x : D) (h : Hv) (Q : QD) : Prop :=
  match b with
  | .len => ∃ n, lenD (rsv h x) = some n ∧ n ≤ lim ∧ Q (.int n) h
  | .abs => ∃ i, x = .int i ∧ Q (.int (if i < 0 then -i else i)) h
  | .int => match x with
    | .int i => Q (.int i) h
    | .bl k => Q (.int (if k then 1 else 0)) h
    | .str cs => ∃ n, PySem.intText? (strOf cs) = some n ∧ cs.length ≤ 640 ∧ Q (.int n) h
    | _ => False
  | .str => match x with
    | .int i => i.natAbs.log2 < 1920 ∧ Q (.str (intD i)) h
    | .str cs => Q (.str cs) h
    | _ => False
  | .list fz => ∃ xs, seqD (rsv h x) = some xs ∧ mkL fz xs h Q
  | .tuple => ∃ xs, seqD (rsv h x) = some xs ∧ Q (.tup xs) h
  | .all => ∃ xs bs, rsv h x = .lst xs ∧ allBl xs = some bs ∧ Q (.bl (bs.all id)) h
  | .any => ∃ xs bs, rsv h x = .lst xs ∧ allBl xs = some bs ∧ Q (.bl (bs.any id)) h
  | .max1 => ∃ xs ns, rsv h x = .lst xs ∧ allInt xs = some ns ∧ 0 < ns.length ∧ ∀ m, m ∈ ns → (∀ y, y ∈ ns → y ≤ m) → Q (.int m) h
  | .min1 => ∃ xs ns, rsv h x = .lst xs ∧ allInt xs = some ns ∧ 0 < ns.length ∧ ∀ m, m ∈ ns → (∀ y, y ∈ ns → m ≤ y) → Q (.int m) h
  | .sum => ∃ xs ns, rsv h x = .lst xs ∧ allInt xs = some ns ∧ Q (.int ns.sum) h
  | .sorted fz => ∃ xs ns, rsv h x = .lst xs ∧ allInt xs = some ns ∧ ns.length < 64 ∧ ∀ ms : List Int, ms.Perm ns → ms.Pairwise (· ≤ ·) → mkL fz (ms.map D.int) h Q
  | _ => False
def wBI2 (b : BI) (x y : D) (h : Hv) (Q : QD) : Prop :=
  match b with
  | .min2 => ∃ i j, x = .int i ∧ y = .int j ∧ Q (.int (if j < i then j else i)) h
  | .max2 => ∃ i j, x = .int i ∧ y = .int j ∧ Q (.int (if j > i then j else i)) h
  | _ => False
def wBI (b : BI) (ds : List D) (h : Hv) (Q : QD) : Prop :=
  match ds with
  | [x] => wBI1 b x h Q
  | [x, y] => wBI2 b x y h Q
  | _ => False
def wMT0 (m : MT) (o : D) (h : Hv) (Q : QD) : Prop :=
  match m with
  | .pop => ∃ a xs x, o = .loc a ∧ h a = some (.lst (xs ++ [x])) ∧ Q x (hup h a (.lst xs))
  | .clear => ∃ a xs, o = .loc a ∧ h a = some (.lst xs) ∧ Q .non (hup h a (.lst []))
  | _ => False
def wMT1 (m : MT) (o x : D) (h : Hv) (Q : QD) : Prop :=
  match m with
  | .append => ∃ a xs, o = .loc a ∧ h a = some (.lst xs) ∧ xs.length < lim ∧ Q .non (hup h a (.lst (xs ++ [x])))
  | .join => ∃ s xs ys, o = .str s ∧ rsv h x = .lst xs ∧ allStr xs = some ys ∧ (ys.map (·.length)).sum + ys.length * s.length ≤ lim ∧ Q (.str (TL.joinL s ys)) h
  | .split fz => ∃ a s, o = .str a ∧ x = .str s ∧ s ≠ [] ∧ (∀ c ∈ s, c < 256) ∧ a.length + 2 ≤ lim ∧ mkL fz ((TL.spl s 0 [] a).map D.str) h Q
  | _ => False
/-- the receiver is of the method's kind -/
def isRcv (m : MT) (o : D) (h : Hv) : Prop :=
  match m with
  | .join => ∃ s, o = .str s
  | .split _ => ∃ s, o = .str s
  | .partition => ∃ s, o = .str s
  | .replace => ∃ s, o = .str s
  | .upper => ∃ s, o = .str s
  | _ => ∃ xs, rsv h o = .lst xs
def wMT (m : MT) (o : D) (ds : List D) (h : Hv) (Q : QD) : Prop :=
  match ds with
  | [] => wMT0 m o h Q
  | [x] => wMT1 m o x h Q
  | _ => False

def Tgs.len : Tgs → Nat
  | .nil => 0
  | .cons _ ts => Tgs.len ts + 1
mutual
def asgT : Tg → D → Env → (Env → Prop) → Prop
  | .nm i, d, r, Q => i < r.length ∧ Q (r.set i (some d))
  | .tp ts, d, r, Q => ∃ xs, d = .tup xs ∧ xs.length = Tgs.len ts ∧ asgTs ts xs r Q
def asgTs : Tgs → List D → Env → (Env → Prop) → Prop
  | .nil, ds, r, Q => ds = [] ∧ Q r
  | .cons t ts, ds, r, Q => ∃ x xs, ds = x :: xs ∧ asgT t x r fun r1 => asgTs ts xs r1 Q
end
def wipeE (r : Env) : List (Str × Nat) → Env
  | [] => r
  | i :: is => (wipeE r is).set i.2 none

/-- a comprehension over the items -/
def wCp (ok : Hv → Prop) (step : D → Hv → (Option D → Hv → Prop) → Prop) : List D → List D → Hv → (List D → Hv → Prop) → Prop
  | [], acc, h, Q => ok h ∧ Q acc h
  | x :: xs, acc, h, Q => ok h ∧ step x h fun o h1 => wCp ok step xs (match o with | some d => acc ++ [d] | none => acc) h1 Q

structure Ks where
  nx : Env → Hv → Prop
  rt : QD
  ex : Nat → List D → Env → Hv → Prop

def wFor (ok : Hv → Prop) (asg : D → Env → (Env → Prop) → Prop) (body : Env → Hv → Ks → Prop) : List D → Env → Hv → Ks → Prop
  | [], r, h, k => ok h ∧ k.nx r h
  | x :: xs, r, h, k => ok h ∧ asg x r fun r1 => body r1 h { k with nx := fun r2 h2 => wFor ok asg body xs r2 h2 k }
def wWhl (test : Env → Hv → (Bool → Hv → Prop) → XQ → Prop) (body : Env → Hv → Ks → Prop) : Nat → Env → Hv → Ks → Prop
  | 0, _, _, _ => False
  | n + 1, r, h, k => test r h (fun c h1 => br c (body r h1 { k with nx := fun r2 h2 => wWhl test body n r2 h2 k }) (k.nx r h1)) (fun c fs h1 => k.ex c fs r h1)

/-- what must stay while a thing is walked -/
def itOk (d : D) (c : Option Cell) (h : Hv) : Prop := match d with
  | .loc a => h a = c
  | _ => True
def cellOf (h : Hv) : D → Option Cell
  | .loc a => h a
  | _ => none
def enumL : Nat → List D → List D
  | _, [] => []
  | n, x :: xs => .tup [.int n, x] :: enumL (n + 1) xs
def sgnL (cs : List Nat) : List D := cs.map fun c => .str [c]
def zip2L : List D → List D → List D
  | x :: xs, y :: ys => .tup [x, y] :: zip2L xs ys
  | _, _ => []
def zip3L : List D → List D → List D → List D
  | x :: xs, y :: ys, z :: zs => .tup [x, y, z] :: zip3L xs ys zs
  | _, _, _ => []

section
variable (T : Tab)
mutual
def wE : E → Env → Hv → QD → XQ → Prop
  | .var i, r, h, Q, _ => ∃ d, r[i]? = some (some d) ∧ Q d h
  | .cst d, _, h, Q, _ => Q d h
  | .glob i, _, h, Q, _ => ∃ d, T.glob i = some d ∧ Q d h
  | .bop fz o a b, r, h, Q, X => wE a r h (fun x h1 => wE b r h1 (fun y h2 => wBop fz o x y h2 Q) X) X
  | .neg a, r, h, Q, X => wE a r h (fun x h1 => ∃ i, x = .int i ∧ Q (.int (-i)) h1) X
  | .not a, r, h, Q, X => wE a r h (fun x h1 => ∃ c, x = .bl c ∧ Q (.bl (!c)) h1) X
  | .cmp o a b, r, h, Q, X => wE a r h (fun x h1 => wE b r h1 (fun y h2 => wCmp T.kc o x y h2 fun c => Q (.bl c) h2) X) X
  | .chn o o' a b c, r, h, Q, X => wE a r h (fun x h1 => wE b r h1 (fun y h2 => wCmp T.kc o x y h2 fun k => br k (wE c r h2 (fun z h3 => wCmp T.kc o' y z h3 fun k' => Q (.bl k') h3) X) (Q (.bl false) h2)) X) X
  | .andv as, r, h, Q, X => wAnd as r h Q X
  | .orv as, r, h, Q, X => wOr as r h Q X
  | .ite c a b, r, h, Q, X => wC c r h (fun k h1 => br k (wE a r h1 Q X) (wE b r h1 Q X)) X
  | .tup as, r, h, Q, X => wEs as r h (fun ds h1 => ds.length ≤ lim ∧ Q (.tup ds) h1) X
  | .lst fz as, r, h, Q, X => wEs as r h (fun ds h1 => ds.length ≤ lim ∧ mkL fz ds h1 Q) X
  | .ix a i, r, h, Q, X => wE a r h (fun x h1 => wE i r h1 (fun y h2 => wIx T.kc x y h2 Q) X) X
  | .slc fz a lo hi, r, h, Q, X => wE a r h (fun x h1 => wO lo r h1 (fun l h2 => wO hi r h2 (fun u h3 => wSlc fz x l u h3 Q) X) X) X
  | .rev fz a, r, h, Q, X => wE a r h (fun x h1 => ∃ xs, rsv h1 x = .lst xs ∧ mkL fz xs.reverse h1 Q) X
  | .call f as, r, h, Q, X => wEs as r h (fun ds h1 => T.fn f ds h1 Q X) X
  | .bi b as, r, h, Q, X => wEs as r h (fun ds h1 => wBI b ds h1 Q) X
  | .lrng1 fz a, r, h, Q, X => wE a r h (fun x h1 => ∃ i, x = .int i ∧ rngOk 0 i ∧ mkL fz (rngL 0 i) h1 Q) X
  | .lrng2 fz a b, r, h, Q, X => wE a r h (fun x h1 => wE b r h1 (fun y h2 => ∃ i j, x = .int i ∧ y = .int j ∧ rngOk i j ∧ mkL fz (rngL i j) h2 Q) X) X
  | .isi a tys, r, h, Q, X => wE a r h (fun x h1 => ∃ k, kindD h1 x = some k ∧ Q (.bl (tys.any k.isOf)) h1) X
  | .isx a cs, r, h, Q, X => wE a r h (fun x h1 => match x with
      | .exc c _ => Q (.bl (cs.any (T.sub c))) h1
      | .non => Q (.bl false) h1
      | _ => False) X
  | .fld a n, r, h, Q, X => wE a r h (fun x h1 => ∃ c fs j d, x = .exc c fs ∧ T.fldIx c n = some j ∧ fs[j]? = some d ∧ Q d h1) X
  | .mt m o as, r, h, Q, X => wE o r h (fun x h1 => isRcv m x h1 ∧ wEs as r h1 (fun ds h2 => wMT m x ds h2 Q) X) X
  | .comp fz elt tg own it cnd, r, h, Q, X => wI it r h (fun xs ok h1 =>
      wCp ok (fun x h2 R => asgT tg x (wipeE r own) fun r1 => wAndC cnd r1 h2 (fun c h3 => br c (wE elt r1 h3 (fun d h4 => R (some d) h4) fun _ _ _ => False) (R none h3)) fun _ _ _ => False) xs [] h1 fun ds h2 => mkL fz ds h2 Q) X
  | .frz a, r, h, Q, X => wE a r h (fun x h1 => match x with
      | .loc c => ∃ xs, h1 c = some (.lst xs) ∧ Q (.lst xs) (hrm h1 c)
      | d => Q d h1) X
  | .dnew tk, _, h, Q, _ => ∀ a, h a = none → Q (.loc a) (hup h a (if tk then .dT [] else .dK []))
def wEs : Es → Env → Hv → (List D → Hv → Prop) → XQ → Prop
  | .nil, _, h, Q, _ => Q [] h
  | .cons e es, r, h, Q, X => wE e r h (fun x h1 => wEs es r h1 (fun xs h2 => Q (x :: xs) h2) X) X
def wAnd : Es → Env → Hv → QD → XQ → Prop
  | .nil, _, _, _, _ => False
  | .cons e es, r, h, Q, X => match es with
    | .nil => wE e r h Q X
    | .cons e' es' => wE e r h (fun x h1 => ∃ c, x = .bl c ∧ br c (wAnd (.cons e' es') r h1 Q X) (Q (.bl false) h1)) X
def wOr : Es → Env → Hv → QD → XQ → Prop
  | .nil, _, _, _, _ => False
  | .cons e es, r, h, Q, X => match es with
    | .nil => wE e r h Q X
    | .cons e' es' => wE e r h (fun x h1 => ∃ c, x = .bl c ∧ br c (Q (.bl true) h1) (wOr (.cons e' es') r h1 Q X)) X
/-- an optional part of a slice -/
def wO : O → Env → Hv → (Option Int → Hv → Prop) → XQ → Prop
  | .none, _, h, Q, _ => Q none h
  | .some e, r, h, Q, X => wE e r h (fun x h1 => ∃ i, x = .int i ∧ Q (some i) h1) X
def wC : C → Env → Hv → (Bool → Hv → Prop) → XQ → Prop
  | .val e, r, h, Q, X => wE e r h (fun x h1 => ∃ c, x = .bl c ∧ Q c h1) X
  | .cmp o a b, r, h, Q, X => wE a r h (fun x h1 => wE b r h1 (fun y h2 => wCmp T.kc o x y h2 fun c => Q c h2) X) X
  | .chn o o' a b c, r, h, Q, X => wE a r h (fun x h1 => wE b r h1 (fun y h2 => wCmp T.kc o x y h2 fun k => br k (wE c r h2 (fun z h3 => wCmp T.kc o' y z h3 fun k' => Q k' h3) X) (Q false h2)) X) X
  | .not c, r, h, Q, X => wC c r h (fun k h1 => Q (!k) h1) X
  | .and cs, r, h, Q, X => wAndC cs r h Q X
  | .or cs, r, h, Q, X => wOrC cs r h Q X
def wAndC : Cs → Env → Hv → (Bool → Hv → Prop) → XQ → Prop
  | .nil, _, h, Q, _ => Q true h
  | .cons c cs, r, h, Q, X => wC c r h (fun k h1 => br k (wAndC cs r h1 Q X) (Q false h1)) X
def wOrC : Cs → Env → Hv → (Bool → Hv → Prop) → XQ → Prop
  | .nil, _, h, Q, _ => Q false h
  | .cons c cs, r, h, Q, X => wC c r h (fun k h1 => br k (Q true h1) (wOrC cs r h1 Q X)) X
/-- what is walked: its items, what must stay -/
def wI : It → Env → Hv → (List D → (Hv → Prop) → Hv → Prop) → XQ → Prop
  | .seq a, r, h, Q, X => wE a r h (fun x h1 => ∃ xs, seqD (rsv h1 x) = some xs ∧ xs.length ≤ lim ∧ Q xs (itOk x (cellOf h1 x)) h1) X
  | .sgn a, r, h, Q, X => wE a r h (fun x h1 => ∃ cs, x = .str cs ∧ cs.length ≤ lim ∧ Q (sgnL cs) (fun _ => True) h1) X
  | .rng1 a, r, h, Q, X => wE a r h (fun x h1 => ∃ i, x = .int i ∧ rngOk 0 i ∧ Q (rngL 0 i) (fun _ => True) h1) X
  | .rng2 a b, r, h, Q, X => wE a r h (fun x h1 => wE b r h1 (fun y h2 => ∃ i j, x = .int i ∧ y = .int j ∧ rngOk i j ∧ Q (rngL i j) (fun _ => True) h2) X) X
  | .enm a, r, h, Q, X => wE a r h (fun x h1 => ∃ xs, rsv h1 x = .lst xs ∧ xs.length ≤ lim ∧ Q (enumL 0 xs) (itOk x (cellOf h1 x)) h1) X
  | .zip2 a b, r, h, Q, X => wE a r h (fun x h1 => wE b r h1 (fun y h2 => ∃ xs ys, rsv h2 x = .lst xs ∧ rsv h2 y = .lst ys ∧ xs.length ≤ lim ∧ Q (zip2L xs ys) (fun h' => itOk x (cellOf h2 x) h' ∧ itOk y (cellOf h2 y) h') h2) X) X
  | .zip3 a b c, r, h, Q, X => wE a r h (fun x h1 => wE b r h1 (fun y h2 => wE c r h2 (fun z h3 => ∃ xs ys zs, rsv h3 x = .lst xs ∧ rsv h3 y = .lst ys ∧ rsv h3 z = .lst zs ∧ xs.length ≤ lim ∧
      Q (zip3L xs ys zs) (fun h' => itOk x (cellOf h3 x) h' ∧ itOk y (cellOf h3 y) h' ∧ itOk z (cellOf h3 z) h') h3) X) X) X
end

mutual
def wS : S → Env → Hv → Ks → Prop
  | .asg tg e, r, h, k => wE T e r h (fun d h1 => asgT tg d r fun r1 => k.nx r1 h1) (fun c fs h1 => k.ex c fs r h1)
  | .par i j a b, r, h, k => wE T a r h (fun x h1 => wE T b r h1 (fun y h2 => i < r.length ∧ j < r.length ∧ k.nx ((r.set i (some x)).set j (some y)) h2) (fun c fs h1 => k.ex c fs r h1)) (fun c fs h1 => k.ex c fs r h1)
  | .asgIx o i e, r, h, k => wE T e r h (fun d h1 => wE T o r h1 (fun x h2 => wE T i r h2 (fun y h3 => wSet T.kc x y d h3 fun h4 => k.nx r h4) (fun c fs h1 => k.ex c fs r h1)) (fun c fs h1 => k.ex c fs r h1)) (fun c fs h1 => k.ex c fs r h1)
  | .aug i e, r, h, k => ∃ a, r[i]? = some (some (.int a)) ∧ wE T e r h (fun y h1 => ∃ b, y = .int b ∧ k.nx (r.set i (some (.int (a + b)))) h1) (fun c fs h1 => k.ex c fs r h1)
  | .ex e, r, h, k => wE T e r h (fun _ h1 => k.nx r h1) (fun c fs h1 => k.ex c fs r h1)
  | .ret e, r, h, k => wE T e r h (fun d h1 => ∃ h2, hsub h2 h1 ∧ k.rt d h2) (fun c fs h1 => k.ex c fs r h1)
  | .ret0, _, h, k => ∃ h2, hsub h2 h ∧ k.rt .non h2
  | .ife c t f, r, h, k => wC T c r h (fun b h1 => br b (wSs t r h1 k) (wSs f r h1 k)) (fun c fs h1 => k.ex c fs r h1)
  | .whl c b, r, h, k => ∃ n, wWhl (wC T c) (wSs b) n r h k
  | .fr tg it b, r, h, k => wI T it r h (fun xs ok h1 => wFor ok (asgT tg) (wSs b) xs r h1 k) (fun c fs h1 => k.ex c fs r h1)
  | .rs c as, r, h, k => wEs T as r h (fun ds h1 => k.ex c (if T.keeps c then ds else []) r h1) (fun c fs h1 => k.ex c fs r h1)
  | .tr b c v s, r, h, k => wSs b r h { k with ex := fun c' fs r1 h1 => br (T.sub c' c) (wSs s (match v with | some i => r1.set i (some (.exc c' fs)) | none => r1) h1
      { k with nx := fun r2 h2 => k.nx (match v with | some i => r2.set i none | none => r2) h2 }) (k.ex c' fs r1 h1) }
  | .never, _, _, _ => False
def wSs : Ss → Env → Hv → Ks → Prop
  | .nil, r, h, k => k.nx r h
  | .cons s ss, r, h, k => wS s r h { k with nx := fun r1 h1 => wSs ss r1 h1 k }
end
end
end VS

set_option Elab.async false
set_option linter.all false
set_option maxRecDepth 100000
set_option maxHeartbeats 4000000
/-! VS2: how the trees stand in the abstract heap. -/
namespace VS
open PySem PySem.Spec PyProof.Rows L2

def StrOk (cs : List Nat) : Prop := ∀ c ∈ cs, c < 1114112

/-- what the representation leans on: the written part, the classes, the written tuples -/
structure RC where
  K : PySem.W.Frag
  kc : List D → Bool
  cl : Nat → Option Addr

mutual
inductive Rep (R : RC) (F : Hp) : D → V → Prop
  | non : Rep R F .non .non
  | bl (b : Bool) : Rep R F (.bl b) (.bl b)
  | int (i : Int) : Rep R F (.int i) (.int i)
  | str (cs : List Nat) (h : StrOk cs) : Rep R F (.str cs) (.str (strOf cs))
  | tup {a : Addr} {vs : List V} {ds : List D} : F a = some (.tup vs) → Reps R F ds vs → Rep R F (.tup ds) (.ref a)
  | ktup {a : Addr} {vs : List V} {ds : List D} : SqT R.K (fun _ => none) a vs → R.kc ds = true → Reps R F ds vs → Rep R F (.tup ds) (.ref a)
  | lst {a : Addr} {vs : List V} {ds : List D} : F a = some (.lst vs) → Reps R F ds vs → Rep R F (.lst ds) (.ref a)
  | scr {a : Addr} {ns : List Int} : SqL R.K F a (ns.map V.int) → Rep R F (.scr ns) (.ref a)
  | loc (a : Addr) : Rep R F (.loc a) (.ref a)
inductive Reps (R : RC) (F : Hp) : List D → List V → Prop
  | nil : Reps R F [] []
  | cons {d : D} {v : V} {ds : List D} {vs : List V} : Rep R F d v → Reps R F ds vs → Reps R F (d :: ds) (v :: vs)
end

theorem SqL.mono {K : PySem.W.Frag} {F F' : Hp} {a : Addr} {xs : List V} (e : Same F F') (h : SqL K F a xs) : SqL K F' a xs := Same.seq e h
theorem SqT.mono {K : PySem.W.Frag} {F F' : Hp} {a : Addr} {xs : List V} (e : Same F F') (h : SqT K F a xs) : SqT K F' a xs := by
  rcases h with (h | ⟨o, h⟩) | h
  · exact .inl (.inl (e _ _ h))
  · exact .inl (.inr ⟨o, e _ _ h⟩)
  · exact .inr h
theorem SqT.free {K : PySem.W.Frag} {F : Hp} {a : Addr} {xs : List V} (h : SqT K (fun _ => none) a xs) : SqT K F a xs := VS.SqT.mono (fun b o e => by cases (show (none : Option HO) = some o from e)) h

section
variable {R : RC} {F F' : Hp}
mutual
theorem Rep.mono (e : Same F F') : ∀ {d : D} {v : V}, Rep R F d v → Rep R F' d v
  | _, _, .non => .non
  | _, _, .bl b => .bl b
  | _, _, .int i => .int i
  | _, _, .str cs h => .str cs h
  | _, _, .tup h r => .tup (e _ _ h) (Reps.mono e r)
  | _, _, .ktup h k r => .ktup h k (Reps.mono e r)
  | _, _, .lst h r => .lst (e _ _ h) (Reps.mono e r)
  | _, _, .scr h => .scr (VS.SqL.mono e h)
  | _, _, .loc a => .loc a
theorem Reps.mono (e : Same F F') : ∀ {ds : List D} {vs : List V}, Reps R F ds vs → Reps R F' ds vs
  | _, _, .nil => .nil
  | _, _, .cons h r => .cons (Rep.mono e h) (Reps.mono e r)
end
theorem Reps.length : ∀ {ds : List D} {vs : List V}, Reps R F ds vs → ds.length = vs.length
  | _, _, .nil => rfl
  | _, _, .cons _ r => congrArg (· + 1) (Reps.length r)
theorem Reps.get : ∀ {ds : List D} {vs : List V} {i : Nat} {d : D}, Reps R F ds vs → ds[i]? = some d → ∃ v, vs[i]? = some v ∧ Rep R F d v
  | _, _, _, _, .nil, e => by simp at e
  | _, _, 0, _, .cons h _, e => by simp at e; subst e; exact ⟨_, rfl, h⟩
  | _, _, i + 1, _, .cons _ r, e => by
    obtain ⟨v, h1, h2⟩ := Reps.get (i := i) r (by simpa using e)
    exact ⟨v, by simpa using h1, h2⟩
theorem Reps.getV : ∀ {ds : List D} {vs : List V} {i : Nat} {v : V}, Reps R F ds vs → vs[i]? = some v → ∃ d, ds[i]? = some d ∧ Rep R F d v
  | _, _, _, _, .nil, e => by simp at e
  | _, _, 0, _, .cons h _, e => by simp at e; subst e; exact ⟨_, rfl, h⟩
  | _, _, i + 1, _, .cons _ r, e => by
    obtain ⟨v, h1, h2⟩ := Reps.getV (i := i) r (by simpa using e)
    exact ⟨v, by simpa using h1, h2⟩
theorem Reps.append : ∀ {ds es : List D} {vs ws : List V}, Reps R F ds vs → Reps R F es ws → Reps R F (ds ++ es) (vs ++ ws)
  | _, _, _, _, .nil, s => s
  | _, _, _, _, .cons h r, s => .cons h (Reps.append r s)
theorem Reps.one {d : D} {v : V} (h : Rep R F d v) : Reps R F [d] [v] := .cons h .nil
theorem Reps.take : ∀ {ds : List D} {vs : List V} (n : Nat), Reps R F ds vs → Reps R F (ds.take n) (vs.take n)
  | _, _, 0, _ => .nil
  | _, _, _ + 1, .nil => .nil
  | _, _, n + 1, .cons h r => .cons h (Reps.take n r)
theorem Reps.drop : ∀ {ds : List D} {vs : List V} (n : Nat), Reps R F ds vs → Reps R F (ds.drop n) (vs.drop n)
  | _, _, 0, r => r
  | _, _, _ + 1, .nil => .nil
  | _, _, n + 1, .cons _ r => Reps.drop n r
theorem Reps.set {d : D} {v : V} (h : Rep R F d v) : ∀ {ds : List D} {vs : List V} (i : Nat), Reps R F ds vs → Reps R F (ds.set i d) (vs.set i v)
  | _, _, _, .nil => .nil
  | _, _, 0, .cons _ r => .cons h r
  | _, _, i + 1, .cons q r => .cons q (Reps.set h i r)
theorem Reps.reverse : ∀ {ds : List D} {vs : List V}, Reps R F ds vs → Reps R F ds.reverse vs.reverse
  | _, _, .nil => .nil
  | _, _, .cons h r => by rw [List.reverse_cons, List.reverse_cons]; exact (Reps.reverse r).append (.one h)
theorem Reps.flat : ∀ {ds : List D} {vs : List V} (k : Nat), Reps R F ds vs → Reps R F (List.replicate k ds).flatten (List.replicate k vs).flatten
  | _, _, 0, _ => .nil
  | _, _, k + 1, r => by rw [List.replicate_succ, List.replicate_succ]; exact r.append (Reps.flat k r)
theorem Reps.snoc : ∀ {ds : List D} {d : D} {vs : List V}, Reps R F (ds ++ [d]) vs → ∃ ws v, vs = ws ++ [v] ∧ Reps R F ds ws ∧ Rep R F d v
  | [], _, _, .cons h .nil => ⟨[], _, rfl, .nil, h⟩
  | _ :: _, _, _, .cons h r => by
    obtain ⟨ws, v, rfl, r1, r2⟩ := Reps.snoc r
    exact ⟨_ :: ws, v, rfl, .cons h r1, r2⟩
theorem Reps.ints : ∀ (ns : List Int), Reps R F (ns.map D.int) (ns.map V.int)
  | [] => .nil
  | n :: ns => .cons (.int n) (Reps.ints ns)

def RepO (R : RC) (F : Hp) : Option D → Option V → Prop
  | some d, some v => Rep R F d v
  | none, _ => True
  | some _, none => False
/-- the frame's names -/
def REnv (R : RC) (F : Hp) (r : Env) (s : L2.St) : Prop := r.length = s.length ∧ ∀ (i : Nat) (d : D), r[i]? = some (some d) → ∃ v, s[i]? = some (some v) ∧ Rep R F d v
theorem REnv.mono (e : Same F F') {r : Env} {s : L2.St} (h : REnv R F r s) : REnv R F' r s := ⟨h.1, fun i d q => let ⟨v, a, b⟩ := h.2 i d q; ⟨v, a, b.mono e⟩⟩
theorem REnv.set {r : Env} {s : L2.St} {d : D} {v : V} (h : REnv R F r s) (i : Nat) (q : Rep R F d v) : REnv R F (r.set i (some d)) (s.set i (some v)) := by
  refine ⟨by simpa using h.1, fun j e hj => ?_⟩
  by_cases hij : i = j
  · subst hij
    have hl : i < r.length := by
      rcases Nat.lt_or_ge i r.length with z | z
      · exact z
      · rw [List.getElem?_eq_none (by simpa using z)] at hj; cases hj
    rw [List.getElem?_set_self hl] at hj
    cases hj
    exact ⟨v, by rw [List.getElem?_set_self (by rw [← h.1]; exact hl)], q⟩
  · rw [List.getElem?_set_ne hij] at hj
    obtain ⟨w, a, b⟩ := h.2 j e hj
    exact ⟨w, by rw [List.getElem?_set_ne hij]; exact a, b⟩
theorem REnv.unset {r : Env} {s : L2.St} (h : REnv R F r s) (i : Nat) : REnv R F (r.set i none) (s.set i none) := by
  refine ⟨by simpa using h.1, fun j e hj => ?_⟩
  by_cases hij : i = j
  · subst hij
    rcases Nat.lt_or_ge i r.length with z | z
    · rw [List.getElem?_set_self z] at hj; cases hj
    · rw [List.getElem?_eq_none (by simpa using z)] at hj; cases hj
  · rw [List.getElem?_set_ne hij] at hj
    obtain ⟨w, a, b⟩ := h.2 j e hj
    exact ⟨w, by rw [List.getElem?_set_ne hij]; exact a, b⟩
end

/-! ### cells -/
def kyV : Ky → Key
  | .int i => .inl i
  | .str cs => .inr (strOf cs)
def RepKv {κ κ' : Type} (f : κ → κ') (R : RC) (F : Hp) : List (κ × D) → List (κ' × V) → Prop := Paired fun p q => f p.1 = q.1 ∧ Rep R F p.2 q.2
def CellOk (R : RC) (F H : Hp) (a : Addr) : Cell → Prop
  | .lst ds => ∃ vs, H a = some (.lst vs) ∧ Reps R F ds vs
  | .dK kvs => ∃ vs, H a = some (.dK vs) ∧ RepKv kyV R F kvs vs
  | .dT kvs => ∃ vs, H a = some (.dT vs) ∧ RepKv (List.map kyV) R F kvs vs
  | .ins c fs => ∃ C dx vs, R.cl c = some C ∧ H a = some (.ins C dx vs) ∧ RepKv id R F fs vs
structure Sim (R : RC) (F : Hp) (h : Hv) (H : Hp) : Prop where
  sub : Same F H
  cell : ∀ a c, h a = some c → CellOk R F H a c
  out : ∀ a c, h a = some c → F a = none
/-- from one moment to a later one -/
structure Step (F : Hp) (h : Hv) (H : Hp) (F' : Hp) (h' : Hv) (H' : Hp) : Prop where
  fs : Same F F'
  frame : ∀ b o, H b = some o → h b = none → H' b = some o
  dom : ∀ b, h' b ≠ none → h b ≠ none ∨ H b = none
  fnew : ∀ b, F' b ≠ none → F b ≠ none ∨ h b ≠ none ∨ H b = none

section
variable {R : RC} {F F1 F2 H H1 H2 : Hp} {h h1 h2 : Hv} {a : Addr}
theorem Step.refl : Step F h H F h H := ⟨Same.refl _, fun _ _ e _ => e, fun _ z => .inl z, fun _ z => .inl z⟩
theorem Step.back (x : Step F h H F1 h1 H1) {b : Addr} (k : H1 b = Option.none) : h b ≠ Option.none ∨ H b = Option.none := by
  by_cases hn : h b = Option.none
  · right
    cases q : H b with
    | none => rfl
    | some o => rw [x.frame b o q hn] at k; cases k
  · exact .inl hn
theorem Step.trans (x : Step F h H F1 h1 H1) (y : Step F1 h1 H1 F2 h2 H2) : Step F h H F2 h2 H2 := by
  refine ⟨x.fs.trans y.fs, fun b o e n => ?_, fun b z => ?_, fun b z => ?_⟩
  · have e1 := x.frame b o e n
    refine y.frame b o e1 ?_
    cases q : h1 b with
    | none => rfl
    | some c =>
      rcases x.dom b (by rw [q]; simp) with k | k
      · exact absurd n k
      · rw [e] at k; cases k
  · rcases y.dom b z with k | k
    · exact x.dom b k
    · exact x.back k
  · rcases y.fnew b z with k | k | k
    · exact x.fnew b k
    · exact .inr (x.dom b k)
    · exact .inr (x.back k)
theorem CellOk.ex {c : Cell} (x : CellOk R F H a c) : ∃ o, H a = some o := by
  cases c with
  | lst ds => obtain ⟨vs, e, _⟩ := x; exact ⟨_, e⟩
  | dK ds => obtain ⟨vs, e, _⟩ := x; exact ⟨_, e⟩
  | dT ds => obtain ⟨vs, e, _⟩ := x; exact ⟨_, e⟩
  | ins c fs => obtain ⟨_, _, _, _, e, _⟩ := x; exact ⟨_, e⟩
theorem Sim.nh (x : Sim R F h H) (e : H a = none) : h a = none := by
  cases q : h a with
  | none => rfl
  | some c =>
    obtain ⟨o, z⟩ := (x.cell a c q).ex
    rw [e] at z; cases z
theorem Sim.noneF (x : Sim R F h H) (e : H a = none) : F a = none := by
  cases q : F a with
  | none => rfl
  | some c => rw [x.sub a c q] at e; cases e
theorem RepKv.mono {κ κ' : Type} {f : κ → κ'} {F' : Hp} (e : Same F F') : ∀ {kvs : List (κ × D)} {vs : List (κ' × V)}, RepKv f R F kvs vs → RepKv f R F' kvs vs
  | _, _, .nil => .nil
  | _, _, .cons r t => .cons ⟨r.1, r.2.mono e⟩ (RepKv.mono e t)
/-- a cell that stands as it did -/
theorem CellOk.stay {F' H' : Hp} {c : Cell} (x : CellOk R F H a c) (e : Same F F') (k : H' a = H a) : CellOk R F' H' a c := by
  cases c with
  | lst ds => obtain ⟨vs, q, r⟩ := x; exact ⟨vs, k.trans q, r.mono e⟩
  | dK ds => obtain ⟨vs, q, r⟩ := x; exact ⟨vs, k.trans q, r.mono e⟩
  | dT ds => obtain ⟨vs, q, r⟩ := x; exact ⟨vs, k.trans q, r.mono e⟩
  | ins c fs => obtain ⟨C, dx, vs, q1, q, r⟩ := x; exact ⟨C, dx, vs, q1, k.trans q, r.mono e⟩
theorem same_upd {p : Addr} {o : HO} (n : F p = Option.none) : Same F (upd F p o) := fun b x e => by
  rw [upd_ne (ne_of_none e n)]; exact e
/-- a new cell -/
theorem Sim.newCell {p : Addr} {o : HO} {c : Cell} (x : Sim R F h H) (n : H p = Option.none) (k : CellOk R F (upd H p o) p c) : Sim R F (hup h p c) (upd H p o) ∧ Step F h H F (hup h p c) (upd H p o) := by
  have nF := x.noneF n
  have nh := x.nh n
  refine ⟨⟨fun b u e => same_upd n b u (x.sub b u e), fun b d e => ?_, fun b d e => ?_⟩, Same.refl _, fun b u e _ => same_upd n b u e, fun b z => ?_, fun b z => .inl z⟩
  · by_cases hb : b = p
    · subst hb; rw [hup_same] at e; cases e; exact k
    · rw [hup_ne hb] at e
      exact (x.cell b d e).stay (Same.refl _) (upd_ne hb)
  · by_cases hb : b = p
    · subst hb; exact nF
    · rw [hup_ne hb] at e; exact x.out b d e
  · by_cases hb : b = p
    · subst hb; exact .inr n
    · rw [hup_ne hb] at z; exact .inl z
/-- a new tree -/
theorem Sim.newTree {p : Addr} {o : HO} (x : Sim R F h H) (n : H p = Option.none) : Sim R (upd F p o) h (upd H p o) ∧ Step F h H (upd F p o) h (upd H p o) := by
  have nF := x.noneF n
  refine ⟨⟨fun b u e => ?_, fun b d e => ?_, fun b d e => ?_⟩, same_upd nF, fun b u e _ => same_upd n b u e, fun b z => .inl z, fun b z => ?_⟩
  · by_cases hb : b = p
    · subst hb; rw [upd_same] at e ⊢; exact e
    · rw [upd_ne hb] at e ⊢; exact x.sub b u e
  · have nb : b ≠ p := by rintro rfl; rw [x.nh n] at e; cases e
    exact (x.cell b d e).stay (same_upd nF) (upd_ne nb)
  · have nb : b ≠ p := by rintro rfl; rw [x.nh n] at e; cases e
    rw [upd_ne nb]; exact x.out b d e
  · by_cases hb : b = p
    · subst hb; exact .inr (.inr n)
    · rw [upd_ne hb] at z; exact .inl z
/-- a cell written -/
theorem Sim.write {p : Addr} {o : HO} {c c' : Cell} (x : Sim R F h H) (e : h p = some c) (k : CellOk R F (upd H p o) p c') : Sim R F (hup h p c') (upd H p o) ∧ Step F h H F (hup h p c') (upd H p o) := by
  have nF := x.out p c e
  refine ⟨⟨fun b u q => ?_, fun b d q => ?_, fun b d q => ?_⟩, Same.refl _, fun b u q n => ?_, fun b z => ?_, fun b z => .inl z⟩
  · have nb : b ≠ p := by rintro rfl; rw [nF] at q; cases q
    rw [upd_ne nb]; exact x.sub b u q
  · by_cases hb : b = p
    · subst hb; rw [hup_same] at q; cases q; exact k
    · rw [hup_ne hb] at q
      exact (x.cell b d q).stay (Same.refl _) (upd_ne hb)
  · by_cases hb : b = p
    · subst hb; exact nF
    · rw [hup_ne hb] at q; exact x.out b d q
  · have nb : b ≠ p := by rintro rfl; rw [e] at n; cases n
    rw [upd_ne nb]; exact q
  · by_cases hb : b = p
    · subst hb; left; rw [e]; simp
    · rw [hup_ne hb] at z; exact .inl z
/-- a cell becomes a tree -/
theorem Sim.freeze {p : Addr} {ds : List D} (x : Sim R F h H) (e : h p = some (.lst ds)) : ∃ vs, Reps R F ds vs ∧ Sim R (upd F p (.lst vs)) (hrm h p) H ∧ Step F h H (upd F p (.lst vs)) (hrm h p) H := by
  obtain ⟨vs, q, r⟩ := x.cell p _ e
  have nF := x.out p _ e
  refine ⟨vs, r, ⟨fun b u z => ?_, fun b d z => ?_, fun b d z => ?_⟩, same_upd nF, fun _ _ z _ => z, fun b z => .inl ?_, fun b z => ?_⟩
  · by_cases hb : b = p
    · subst hb; rw [upd_same] at z; cases z; exact q
    · rw [upd_ne hb] at z; exact x.sub b u z
  · have nb : b ≠ p := by rintro rfl; unfold hrm at z; rw [if_pos rfl] at z; cases z
    unfold hrm at z; rw [if_neg nb] at z
    exact (x.cell b d z).stay (same_upd nF) rfl
  · have nb : b ≠ p := by rintro rfl; unfold hrm at z; rw [if_pos rfl] at z; cases z
    unfold hrm at z; rw [if_neg nb] at z
    rw [upd_ne nb]; exact x.out b d z
  · unfold hrm at z
    split at z
    · exact absurd rfl z
    · exact z
  · by_cases hb : b = p
    · subst hb; right; left; rw [e]; simp
    · rw [upd_ne hb] at z; exact .inl z
theorem Sim.less {h0 : Hv} (x : Sim R F h H) (s : hsub h0 h) : Sim R F h0 H := ⟨x.sub, fun a c e => x.cell a c (s a c e), fun a c e => x.out a c (s a c e)⟩
theorem Step.less {h0 : Hv} (x : Step F h H F1 h1 H1) (s : hsub h0 h1) : Step F h H F1 h0 H1 := ⟨x.fs, x.frame, fun b z => x.dom b fun e => z (by
  cases q : h0 b with
  | none => rfl
  | some c => rw [s b c q] at e; cases e), x.fnew⟩
end
end VS

set_option Elab.async false
set_option linter.all false
set_option maxRecDepth 100000
set_option maxHeartbeats 4000000
/-! VS3: operations on trees. -/
namespace VS
open PySem PySem.Spec PyProof.Rows L2

abbrev SZ : Nat := sizeLine
theorem lim_eq : lim = sizeLine := by rw [sizeLine_eq]; rfl

/-- what the caller wants follows from what the meaning gives -/
def Cn (R : RC) (F : Hp) (h : Hv) (H : Hp) (Q0 : QD) (Q : VK) : Prop := ∀ (d : D) (h' : Hv) (F' H' : Hp) (v : V), Step F h H F' h' H' → Sim R F' h' H' → Rep R F' d v → Q0 d h' → Q v H'

section
variable {R : RC} {F H : Hp} {h : Hv}
theorem Cn.step {F1 H1 : Hp} {h1 : Hv} {Q0 : QD} {Q : VK} (c : Cn R F h H Q0 Q) (s : Step F h H F1 h1 H1) : Cn R F1 h1 H1 Q0 Q := fun d h' F' H' v s' m r q => c d h' F' H' v (s.trans s') m r q
theorem Cn.now {Q0 : QD} {Q : VK} (c : Cn R F h H Q0 Q) (m : Sim R F h H) {d : D} {v : V} (r : Rep R F d v) (q : Q0 d h) : Q v H := c d h F H v Step.refl m r q
theorem Cn.ofInt {Q0 : QD} {Q : VK} (c : Cn R F h H Q0 Q) (m : Sim R F h H) {i : Int} (q : Q0 (.int i) h) : Q (.int i) H := c.now m (.int i) q
theorem Cn.ofBl {Q0 : QD} {Q : VK} (c : Cn R F h H Q0 Q) (m : Sim R F h H) {b : Bool} (q : Q0 (.bl b) h) : Q (.bl b) H := c.now m (.bl b) q
/-- a new tuple -/
theorem Cn.tup {Q0 : QD} {Q : VK} (c : Cn R F h H Q0 Q) (m : Sim R F h H) {ds : List D} {vs : List V} (r : Reps R F ds vs) (q : Q0 (.tup ds) h) {p : Addr} (n : H p = none) : Q (.ref p) (upd H p (.tup vs)) := by
  obtain ⟨m', s'⟩ := m.newTree (o := .tup vs) n
  exact c _ h _ _ _ s' m' (.tup upd_same (r.mono s'.fs)) q
/-- a new list, as the form has it -/
theorem Cn.lst {fz : Bool} {Q0 : QD} {Q : VK} (c : Cn R F h H Q0 Q) (m : Sim R F h H) {ds : List D} {vs : List V} (r : Reps R F ds vs) (q : mkL fz ds h Q0) {p : Addr} (n : H p = none) : Q (.ref p) (upd H p (.lst vs)) := by
  cases fz with
  | true =>
    obtain ⟨m', s'⟩ := m.newTree (o := .lst vs) n
    exact c _ h _ _ _ s' m' (.lst upd_same (r.mono s'.fs)) q
  | false =>
    obtain ⟨m', s'⟩ := m.newCell (c := .lst ds) (o := .lst vs) n ⟨vs, upd_same, r⟩
    exact c _ _ _ _ _ s' m' (.loc p) (q p (m.nh n))

/-- a list read through its cell, or a tree -/
theorem rsv_lst (m : Sim R F h H) {x : D} {v : V} (r : Rep R F x v) {ds : List D} (e : rsv h x = .lst ds) : ∃ a vs, v = .ref a ∧ H a = some (.lst vs) ∧ Reps R F ds vs := by
  cases r with
  | lst f q => cases e; exact ⟨_, _, rfl, m.sub _ _ f, q⟩
  | loc a =>
    have e' : (match h a with | some (.lst xs) => D.lst xs | _ => .loc a) = .lst ds := e
    split at e'
    · rename_i xs hc
      cases e'
      obtain ⟨vs, q, rr⟩ := m.cell a _ hc
      exact ⟨a, vs, rfl, q, rr⟩
    · cases e'
  | _ => cases e
theorem rsv_tup (m : Sim R F h H) {x : D} {v : V} (r : Rep R F x v) {ds : List D} (e : rsv h x = .tup ds) : ∃ a vs, v = .ref a ∧ SqT R.K H a vs ∧ Reps R F ds vs := by
  cases r with
  | tup f q => cases e; exact ⟨_, _, rfl, .inl (.inl (m.sub _ _ f)), q⟩
  | ktup f k q => cases e; exact ⟨_, _, rfl, VS.SqT.free f, q⟩
  | loc a =>
    have e' : (match h a with | some (.lst xs) => D.lst xs | _ => .loc a) = .tup ds := e
    split at e' <;> cases e'
  | _ => cases e
theorem rsv_scr (m : Sim R F h H) {x : D} {v : V} (r : Rep R F x v) {ns : List Int} (e : rsv h x = .scr ns) : ∃ a, v = .ref a ∧ SqL R.K H a (ns.map V.int) := by
  cases r with
  | scr f => cases e; exact ⟨_, rfl, VS.SqL.mono m.sub f⟩
  | loc a =>
    have e' : (match h a with | some (.lst xs) => D.lst xs | _ => .loc a) = .scr ns := e
    split at e' <;> cases e'
  | _ => cases e
theorem rsv_int (r : D) {i : Int} (e : rsv h r = .int i) : r = .int i := by
  cases r with
  | loc a =>
    have e' : (match h a with | some (.lst xs) => D.lst xs | _ => .loc a) = .int i := e
    split at e' <;> cases e'
  | _ => exact e
theorem rsv_str (r : D) {i : List Nat} (e : rsv h r = .str i) : r = .str i := by
  cases r with
  | loc a =>
    have e' : (match h a with | some (.lst xs) => D.lst xs | _ => .loc a) = .str i := e
    split at e' <;> cases e'
  | _ => exact e
theorem rsv_loc (r : D) {a : Addr} (e : rsv h r = .loc a) : r = .loc a := by
  cases r with
  | loc b =>
    have e' : (match h b with | some (.lst xs) => D.lst xs | _ => .loc b) = .loc a := e
    split at e' <;> cases e'
    rfl
  | _ => exact e
theorem rsv_tupD (r : D) {i : List D} (e : rsv h r = .tup i) : r = .tup i := by
  cases r with
  | loc a =>
    have e' : (match h a with | some (.lst xs) => D.lst xs | _ => .loc a) = .tup i := e
    split at e' <;> cases e'
  | _ => exact e
theorem Rep.intV {v : V} {i : Int} (r : Rep R F (.int i) v) : v = .int i := by cases r; rfl
theorem Rep.blV {v : V} {i : Bool} (r : Rep R F (.bl i) v) : v = .bl i := by cases r; rfl
theorem Rep.nonV {v : V} (r : Rep R F .non v) : v = .non := by cases r; rfl
theorem Rep.strV {v : V} {i : List Nat} (r : Rep R F (.str i) v) : v = .str (strOf i) ∧ StrOk i := by cases r; exact ⟨rfl, by assumption⟩
theorem Rep.locV {v : V} {i : Addr} (r : Rep R F (.loc i) v) : v = .ref i := by cases r; rfl
theorem strOf_len (cs : List Nat) : (strOf cs).length = cs.length := by unfold strOf; exact List.size_toArray
theorem strOf_tl (cs : List Nat) : (strOf cs).cps.toList = cs := rfl
theorem strOf_app (a b : List Nat) : strOf a ++ strOf b = strOf (a ++ b) := TL.ext_tl (by rw [TL.tl_append]; rfl)
theorem StrOk.app {a b : List Nat} (x : StrOk a) (y : StrOk b) : StrOk (a ++ b) := fun c hc => (List.mem_append.mp hc).elim (x c) (y c)
theorem strOf_inj {a b : List Nat} (e : strOf a = strOf b) : a = b := by
  have z := congrArg (fun s => s.cps.toList) e
  exact z

theorem mulOk_W {i j : Int} (h : mulOk i j) : CMulW i j := h
theorem sz63 : (sizeLine : Nat) < 2 ^ 63 := line63
end

theorem OpR.imp {X : Cx} {f : Value → Value → Sem Value} {r r' : R2} (h : OpR X f r) (k : ∀ x y H Q, r' x y H Q → r x y H Q) : OpR X f r' := fun pins s σ H x y v u Q I rx ry q => h pins s σ H x y v u Q I rx ry (k _ _ _ _ q)

/-- an operation on trees by its meaning -/
def rB (R : RC) (wf : D → D → Hv → QD → Prop) : R2 := fun x y H Q => ∃ F h d e Q0, Sim R F h H ∧ Rep R F d x ∧ Rep R F e y ∧ wf d e h Q0 ∧ Cn R F h H Q0 Q

section
variable {X : Cx} {R : RC} (hK : R.K = X.K)
theorem opr_or3 {f : Value → Value → Sem Value} {a b c : R2} (h1 : OpR X f a) (h2 : OpR X f b) (h3 : OpR X f c) : OpR X f (fun x y H Q => a x y H Q ∨ b x y H Q ∨ c x y H Q) := h1.or (h2.or h3)
include hK in
theorem op_addD {fz : Bool} : OpR X (binaryOp .Add) (rB R (wBop fz .add)) := by
  refine OpR.imp (op_add.or (op_add_str.or (op_cat.or op_catA))) ?_
  rintro x y H Q ⟨F, h, d, e, Q0, m, r1, r2, w, c⟩
  have w : wAdd fz d e h Q0 := w
  unfold wAdd at w
  have hl := lim_eq
  split at w
  · rename_i i j e1 e2
    have e1 := rsv_int d e1; have e2 := rsv_int e e2
    subst e1; subst e2
    exact .inl ⟨i, j, r1.intV, r2.intV, c.ofInt m w⟩
  · rename_i a b e1 e2
    have e1 := rsv_str d e1; have e2 := rsv_str e e2
    subst e1; subst e2
    obtain ⟨v1, o1⟩ := r1.strV
    obtain ⟨v2, o2⟩ := r2.strV
    refine .inr (.inl ⟨_, _, v1, v2, ?_, ?_⟩)
    · rw [strOf_len, strOf_len, ← hl]; exact w.1
    · rw [strOf_app]; exact c.now m (.str _ (o1.app o2)) w.2
  · rename_i a b e1 e2
    obtain ⟨p, vs, rfl, q1, rr1⟩ := rsv_lst m r1 e1
    obtain ⟨p', vs', rfl, q2, rr2⟩ := rsv_lst m r2 e2
    refine .inr (.inr (.inl ⟨p, p', vs, vs', rfl, rfl, q1, q2, ?_, fun n hn => c.lst m (rr1.append rr2) w.2 hn⟩))
    rw [← rr1.length, ← rr2.length, ← hl]; exact w.1
  · rename_i a b e1 e2
    obtain ⟨p, vs, rfl, q1, rr1⟩ := rsv_tup m r1 e1
    obtain ⟨p', vs', rfl, q2, rr2⟩ := rsv_tup m r2 e2
    rw [hK] at q1 q2
    obtain ⟨w1, w2⟩ := w
    refine .inr (.inr (.inr ⟨p, p', vs, vs', rfl, rfl, q1, q2, ?_, fun e => ?_, fun n e => ?_, fun _ _ n hn => c.tup m (rr1.append rr2) w2 hn⟩))
    · rw [← rr1.length, ← rr2.length, ← hl]; exact w1
    · subst e
      cases rr1
      have z := rsv_tupD _ e2
      subst z
      exact c.now m r2 w2
    · subst e
      cases rr2
      have z := rsv_tupD _ e1
      subst z
      rw [List.append_nil] at w2
      exact c.now m r1 w2
  · exact w.elim
theorem op_mulD {fz : Bool} : OpR X (binaryOp .Mult) (rB R (wBop fz .mul)) := by
  refine OpR.imp (op_mulW.or op_rep) ?_
  rintro x y H Q ⟨F, h, d, e, Q0, m, r1, r2, w, c⟩
  have w : wMul fz d e h Q0 := w
  unfold wMul at w
  have hl := lim_eq
  split at w
  · rename_i i j e1 e2
    have e1 := rsv_int d e1; have e2 := rsv_int e e2
    subst e1; subst e2
    exact .inl ⟨i, j, r1.intV, r2.intV, w.1, c.ofInt m w.2⟩
  · rename_i a j e1 e2
    have e2 := rsv_int e e2
    obtain ⟨w1, w2, w3, w4⟩ := w
    obtain ⟨p, vs, rfl, q1, rr1⟩ := rsv_lst m r1 e1
    rw [e2] at r2
    refine .inr ⟨p, j, vs, rfl, r2.intV, q1, w1, w2, ?_, fun n hn => c.lst m (rr1.flat _) w4 hn⟩
    rw [← rr1.length, ← hl]; exact w3
  · exact w.elim
theorem int2 {d e : D} {P : Int → Int → Prop} (w : match d, e with | .int i, .int j => P i j | _, _ => False) : ∃ i j, d = .int i ∧ e = .int j ∧ P i j := by
  split at w
  · exact ⟨_, _, rfl, rfl, w⟩
  · exact w.elim
theorem op_subD {fz : Bool} : OpR X (binaryOp .Sub) (rB R (wBop fz .sub)) := by
  refine OpR.imp op_sub ?_
  rintro x y H Q ⟨F, h, d, e, Q0, m, r1, r2, w, c⟩
  obtain ⟨i, j, rfl, rfl, w⟩ := int2 (P := fun i j => Q0 (.int (i - j)) h) w
  exact ⟨i, j, r1.intV, r2.intV, c.ofInt m w⟩
theorem op_fdivD {fz : Bool} : OpR X (binaryOp .FloorDiv) (rB R (wBop fz .fdiv)) := by
  refine OpR.imp op_fdivW ?_
  rintro x y H Q ⟨F, h, d, e, Q0, m, r1, r2, w, c⟩
  obtain ⟨i, j, rfl, rfl, w⟩ := int2 (P := fun i j => divOk j ∧ Q0 (.int (i / j)) h) w
  exact ⟨i, j, r1.intV, r2.intV, w.1, c.ofInt m w.2⟩
theorem op_modD {fz : Bool} : OpR X (binaryOp .Mod) (rB R (wBop fz .mod)) := by
  refine OpR.imp op_mod ?_
  rintro x y H Q ⟨F, h, d, e, Q0, m, r1, r2, w, c⟩
  obtain ⟨i, j, rfl, rfl, w⟩ := int2 (P := fun i j => 0 < j ∧ Q0 (.int (i % j)) h) w
  exact ⟨i, j, r1.intV, r2.intV, w.1, c.ofInt m w.2⟩
theorem op_powD {fz : Bool} : OpR X (binaryOp .Pow) (rB R (wBop fz .pow)) := by
  refine OpR.imp op_pow ?_
  rintro x y H Q ⟨F, h, d, e, Q0, m, r1, r2, w, c⟩
  obtain ⟨i, j, rfl, rfl, w⟩ := int2 (P := fun i j => powOk i j ∧ Q0 (.int (i ^ j.toNat)) h) w
  exact ⟨i, j, r1.intV, r2.intV, w.1, c.ofInt m w.2⟩
def bopOf : BOp → Operator
  | .add => .Add | .sub => .Sub | .mul => .Mult | .fdiv => .FloorDiv | .mod => .Mod | .pow => .Pow
include hK in
theorem op_D {fz : Bool} (o : BOp) : OpR X (binaryOp (bopOf o)) (rB R (wBop fz o)) := by
  cases o with
  | add => exact op_addD hK
  | sub => exact op_subD
  | mul => exact op_mulD
  | fdiv => exact op_fdivD
  | mod => exact op_modD
  | pow => exact op_powD
end

/-! ### comparisons -/
mutual
def D.py : D → PyData
  | .non => .none
  | .bl b => .bool b
  | .int i => .int i
  | .str s => .str (strOf s)
  | .tup xs => .tuple (D.pys xs)
  | .lst xs => .list (D.pys xs)
  | _ => .none
def D.pys : List D → List PyData
  | [] => []
  | x :: xs => D.py x :: D.pys xs
end
mutual
theorem eqb_py : ∀ (x y : D), x.pln = true → y.pln = true → PyData.eqv x.py y.py = D.eqb x y
  | .non, y, _, hy => by cases y <;> first | rfl | cases hy
  | .bl a, y, _, hy => by cases y <;> first | rfl | cases hy
  | .int a, y, _, hy => by cases y <;> first | rfl | cases hy
  | .str a, y, _, hy => by
    cases y <;> first | rfl | cases hy | skip
    rename_i b
    show (strOf a == strOf b) = (a == b)
    rw [Bool.eq_iff_iff, beq_iff_eq, beq_iff_eq]
    exact ⟨strOf_inj, fun e => by rw [e]⟩
  | .tup xs, y, hx, hy => by
    cases y <;> first | rfl | cases hy | skip
    exact eqbs_py xs _ hx hy
  | .lst xs, y, hx, hy => by
    cases y <;> first | rfl | cases hy | skip
    exact eqbs_py xs _ hx hy
  | .scr _, _, hx, _ => by cases hx
  | .loc _, _, hx, _ => by cases hx
  | .exc _ _, _, hx, _ => by cases hx
theorem eqbs_py : ∀ (xs ys : List D), D.plns xs = true → D.plns ys = true → PyData.eqvAll (D.pys xs) (D.pys ys) = D.eqbs xs ys
  | [], [], _, _ => rfl
  | [], _ :: _, _, _ => rfl
  | _ :: _, [], _, _ => rfl
  | x :: xs, y :: ys, hx, hy => by
    have hx' : (D.pln x && D.plns xs) = true := hx
    have hy' : (D.pln y && D.plns ys) = true := hy
    rw [Bool.and_eq_true] at hx' hy'
    show (PyData.eqv x.py y.py && PyData.eqvAll (D.pys xs) (D.pys ys)) = (D.eqb x y && D.eqbs xs ys)
    rw [eqb_py x y hx'.1 hy'.1, eqbs_py xs ys hx'.2 hy'.2]
end
mutual
theorem dep_py : ∀ x : D, x.pln = true → x.py.depth = x.dep
  | .non, _ => rfl
  | .bl _, _ => rfl
  | .int _, _ => rfl
  | .str _, _ => rfl
  | .tup xs, h => by show PyData.depthAll (D.pys xs) + 1 = D.deps xs + 1; rw [deps_py xs h]
  | .lst xs, h => by show PyData.depthAll (D.pys xs) + 1 = D.deps xs + 1; rw [deps_py xs h]
  | .scr _, h => by cases h
  | .loc _, h => by cases h
  | .exc _ _, h => by cases h
theorem deps_py : ∀ xs : List D, D.plns xs = true → PyData.depthAll (D.pys xs) = D.deps xs
  | [], _ => rfl
  | x :: xs, h => by
    have h' : (D.pln x && D.plns xs) = true := h
    rw [Bool.and_eq_true] at h'
    show max (PyData.depth x.py) (PyData.depthAll (D.pys xs)) = max x.dep (D.deps xs)
    rw [dep_py x h'.1, deps_py xs h'.2]
end
section
variable {R : RC} {F H : Hp}
mutual
theorem Rep.lay : ∀ {d : D} {v : V}, Rep R F d v → d.pln = true → d.py.canLay0 = true
  | _, _, .non, _ => rfl
  | _, _, .bl b, _ => rfl
  | _, _, .int i, _ => rfl
  | _, _, .str cs h, _ => by
    show (strOf cs).cps.all (· < 0x110000) = true
    rw [Array.all_eq_true']
    intro x hx
    exact decide_eq_true (h x (by simpa [strOf] using hx))
  | _, _, .tup _ r, h => Reps.lay r h
  | _, _, .ktup _ _ r, h => Reps.lay r h
  | _, _, .lst _ r, h => Reps.lay r h
  | _, _, .scr _, h => by cases h
  | _, _, .loc _, h => by cases h
theorem Reps.lay : ∀ {ds : List D} {vs : List V}, Reps R F ds vs → D.plns ds = true → PyData.canLayAll0 (D.pys ds) = true
  | _, _, .nil, _ => rfl
  | _, _, .cons (d := d) (ds := ds) r rs, h => by
    have h' : (D.pln d && D.plns ds) = true := h
    rw [Bool.and_eq_true] at h'
    show (PyData.canLay0 d.py && PyData.canLayAll0 (D.pys ds)) = true
    rw [Rep.lay r h'.1, Reps.lay rs h'.2]; rfl
end
mutual
theorem Rep.dp (sub : Same F H) : ∀ {d : D} {v : V}, Rep R F d v → d.pln = true → Dp R.K H v d.py
  | _, _, .non, _ => .non
  | _, _, .bl b, _ => .bl b
  | _, _, .int i, _ => .int i
  | _, _, .str cs h, _ => .str _
  | _, _, .tup f r, h => .tup (.inl (.inl (sub _ _ f))) (Reps.dp sub r h)
  | _, _, .ktup f _ r, h => .tup (VS.SqT.free f) (Reps.dp sub r h)
  | _, _, .lst f r, h => .lst (.inl (.inl (sub _ _ f))) (Reps.dp sub r h)
  | _, _, .scr _, h => by cases h
  | _, _, .loc _, h => by cases h
theorem Reps.dp (sub : Same F H) : ∀ {ds : List D} {vs : List V}, Reps R F ds vs → D.plns ds = true → DpAll R.K H vs (D.pys ds)
  | _, _, .nil, _ => .nil
  | _, _, .cons (d := d) (ds := ds) r rs, h => by
    have h' : (D.pln d && D.plns ds) = true := h
    rw [Bool.and_eq_true] at h'
    exact .cons (Rep.dp sub r h'.1) (Reps.dp sub rs h'.2)
end
end
section
variable {R : RC} {F H : Hp} {h : Hv}
/-- as data -/
theorem rsv_dp (m : Sim R F h H) {x : D} {v : V} (r : Rep R F x v) (p : (rsv h x).pln = true) : Dp R.K H v (rsv h x).py ∧ (rsv h x).py.canLay0 = true := by
  cases x with
  | loc a =>
    have e : rsv h (.loc a) = (match h a with | some (.lst xs) => D.lst xs | _ => .loc a) := rfl
    cases hc : h a with
    | none => rw [e, hc] at p; cases p
    | some c =>
      cases c with
      | lst xs =>
        rw [e, hc] at p ⊢
        obtain ⟨vs, q, rr⟩ := m.cell a _ hc
        cases r
        exact ⟨.lst (.inl (.inl q)) (Reps.dp m.sub rr p), Reps.lay rr p⟩
      | dK _ => rw [e, hc] at p; cases p
      | dT _ => rw [e, hc] at p; cases p
      | ins _ _ => rw [e, hc] at p; cases p
  | _ => exact ⟨Rep.dp m.sub r p, Rep.lay r p⟩
theorem shaped_of {x : D} (p : x.pln = true) (l : x.py.canLay0 = true) (d : x.dep ≤ 64) : SeqAt.shaped x.py = true := by
  show (x.py.canLay0 && decide (x.py.depth ≤ 64)) = true
  rw [l, dep_py x p, decide_eq_true d]; rfl
end
end VS

set_option Elab.async false
set_option linter.all false
set_option maxRecDepth 100000
set_option maxHeartbeats 4000000
/-! VS4: comparisons, indices, built-ins on trees. -/
namespace VS
open PySem PySem.Spec PyProof.Rows L2

theorem kyV_inj : ∀ {a b : Ky}, kyV a = kyV b → a = b
  | .int i, .int j, e => by have z : i = j := Sum.inl.inj e; rw [z]
  | .str i, .str j, e => by have z : i = j := strOf_inj (Sum.inr.inj e); rw [z]
  | .int _, .str _, e => by cases e
  | .str _, .int _, e => by cases e
theorem map_inj {α β : Type} {f : α → β} (hf : ∀ {a b}, f a = f b → a = b) : ∀ {l m : List α}, l.map f = m.map f → l = m
  | [], [], _ => rfl
  | [], _ :: _, e => by cases e
  | _ :: _, [], e => by cases e
  | x :: l, y :: m, e => by
    rw [List.map_cons, List.map_cons] at e
    injection e with e1 e2
    rw [hf e1, map_inj hf e2]
section
variable {R : RC} {F H : Hp} {h : Hv}
theorem RepKv.look {κ κ' : Type} [DecidableEq κ] [DecidableEq κ'] {f : κ → κ'} (hf : ∀ {a b}, f a = f b → a = b) : ∀ {kvs : List (κ × D)} {vs : List (κ' × V)}, RepKv f R F kvs vs → ∀ k, 
    (lookK kvs k = none ∧ valV vs (f k) = none) ∨ ∃ d v, lookK kvs k = some d ∧ valV vs (f k) = some v ∧ Rep R F d v
  | _, _, .nil, _ => .inl ⟨rfl, rfl⟩
  | (k1, d1) :: kvs, (k2, v2) :: vs, .cons r t, k => by
    obtain ⟨e, q⟩ := r
    have e : f k1 = k2 := e
    by_cases hk : k1 = k
    · subst hk
      refine .inr ⟨d1, v2, ?_, ?_, q⟩
      · unfold lookK; rw [if_pos rfl]
      · exact valV_pos e.symm
    · have n : ¬ (k2 = f k) := fun z => hk (hf (e.trans z))
      have e1 : lookK ((k1, d1) :: kvs) k = lookK kvs k := by
        show (if k1 = k then some d1 else lookK kvs k) = _
        rw [if_neg hk]
      rw [e1, valV_neg (p := (k2, v2)) n]
      exact RepKv.look hf t k
theorem RepKv.any {κ κ' : Type} [DecidableEq κ] [DecidableEq κ'] {f : κ → κ'} (hf : ∀ {a b}, f a = f b → a = b) : ∀ {kvs : List (κ × D)} {vs : List (κ' × V)}, RepKv f R F kvs vs → ∀ k,
    (kvs.any fun kv => decide (kv.1 = k)) = (vs.any fun kv => decide (kv.1 = f k))
  | _, _, .nil, _ => rfl
  | (k1, d1) :: kvs, (k2, v2) :: vs, .cons r t, k => by
    obtain ⟨e, q⟩ := r
    have e : f k1 = k2 := e
    rw [List.any_cons, List.any_cons, RepKv.any hf t k]
    congr 1
    rw [Bool.eq_iff_iff, decide_eq_true_eq, decide_eq_true_eq]
    show k1 = k ↔ k2 = f k
    rw [← e]
    exact ⟨fun z => by rw [z], fun z => hf z⟩
theorem RepKv.app {κ κ' : Type} {f : κ → κ'} : ∀ {kvs kvs2 : List (κ × D)} {vs vs2 : List (κ' × V)}, RepKv f R F kvs vs → RepKv f R F kvs2 vs2 → RepKv f R F (kvs ++ kvs2) (vs ++ vs2)
  | _, _, _, _, .nil, s => s
  | _, _, _, _, .cons r t, s => .cons r (RepKv.app t s)
theorem RepKv.mapput {κ κ' : Type} [DecidableEq κ] [DecidableEq κ'] {f : κ → κ'} (hf : ∀ {a b}, f a = f b → a = b) {k : κ} {d : D} {v : V} (r : Rep R F d v) : ∀ {kvs : List (κ × D)} {vs : List (κ' × V)}, RepKv f R F kvs vs →
    RepKv f R F (kvs.map fun kv => if kv.1 = k then (kv.1, d) else kv) (vs.map fun kv => if kv.1 = f k then (kv.1, v) else kv)
  | _, _, .nil => .nil
  | (k1, d1) :: kvs, (k2, v2) :: vs, .cons q t => by
    obtain ⟨e, q⟩ := q
    have e : f k1 = k2 := e
    rw [List.map_cons, List.map_cons]
    refine .cons ?_ (RepKv.mapput hf r t)
    show f (if k1 = k then (k1, d) else (k1, d1)).1 = (if k2 = f k then (k2, v) else (k2, v2)).1 ∧ Rep R F (if k1 = k then (k1, d) else (k1, d1)).2 (if k2 = f k then (k2, v) else (k2, v2)).2
    by_cases hk : k1 = k
    · rw [if_pos hk, if_pos (by rw [← e, hk])]; exact ⟨e, r⟩
    · rw [if_neg hk, if_neg (fun z => hk (hf (e.trans z)))]; exact ⟨e, q⟩
theorem RepKv.put {κ κ' : Type} [DecidableEq κ] [DecidableEq κ'] {f : κ → κ'} (hf : ∀ {a b}, f a = f b → a = b) {k : κ} {d : D} {v : V} {kvs : List (κ × D)} {vs : List (κ' × V)} (t : RepKv f R F kvs vs) (r : Rep R F d v) :
    RepKv f R F (putK kvs k d) (L2.putK vs (f k) v) := by
  unfold putK L2.putK
  rw [RepKv.any hf t k]
  split
  · exact RepKv.mapput hf r t
  · exact t.app (.cons ⟨rfl, r⟩ .nil)
theorem RepKv.length {κ κ' : Type} {f : κ → κ'} : ∀ {kvs : List (κ × D)} {vs : List (κ' × V)}, RepKv f R F kvs vs → kvs.length = vs.length
  | _, _, .nil => rfl
  | _, _, .cons _ t => congrArg (· + 1) (RepKv.length t)
theorem keyD_V {k : D} {ky : Ky} {v : V} (r : Rep R F k v) (e : keyD k = some ky) : v = kV (kyV ky) := by
  cases r with
  | int i => cases e; rfl
  | str cs h => cases e; rfl
  | _ => cases e
theorem keysD_V : ∀ {ks : List D} {kk : List Ky} {vs : List V}, Reps R F ks vs → keysD ks = some kk → vs = (kk.map kyV).map kV
  | [], kk, _, .nil, e => by cases e; rfl
  | k :: ks, kk, _, .cons r rs, e => by
    unfold keysD at e
    split at e
    · rename_i ky kys e1 e2
      cases e
      rw [keyD_V r e1, keysD_V rs e2]; rfl
    · cases e
theorem dlook_get (m : Sim R F h H) {a : Addr} {c : Cell} {k : D} {v : V} {o : Option D} (e : h a = some c) (r : Rep R F k v) (q : dlook R.kc c k = some o) :
    ∃ ov, DGet H a v ov ∧ ((o = none ∧ ov = none) ∨ ∃ d w, o = some d ∧ ov = some w ∧ Rep R F d w) := by
  have ck := m.cell a c e
  unfold dlook at q
  split at q
  · rename_i kvs
    obtain ⟨vs, eH, rk⟩ := ck
    cases ek : keyD k with
    | none => rw [ek] at q; cases q
    | some ky =>
      rw [ek] at q
      have q : some (lookK kvs ky) = some o := q
      cases q
      have ev := keyD_V r ek
      subst ev
      refine ⟨_, DGet.k eH, ?_⟩
      exact RepKv.look kyV_inj rk ky
  · rename_i kvs
    obtain ⟨vs, eH, rk⟩ := ck
    split at q
    · rename_i ks
      split at q
      · cases q
      · rename_i nk
        cases ek : keysD ks with
        | none => rw [ek] at q; cases q
        | some kk =>
          rw [ek] at q
          have q : some (lookK kvs kk) = some o := q
          cases q
          cases r with
          | tup f rs =>
            have ev := keysD_V rs ek
            subst ev
            exact ⟨_, DGet.t eH (m.sub _ _ f), RepKv.look (map_inj kyV_inj) rk kk⟩
          | ktup f kc rs => exact absurd kc nk
    · cases q
  · cases q
end

/-- a comparison on trees by its meaning -/
def rC (R : RC) (wf : D → D → Hv → (Bool → Prop) → Prop) : R2 := fun x y H Q => ∃ F h d e Q0, Sim R F h H ∧ Rep R F d x ∧ Rep R F e y ∧ wf d e h Q0 ∧ ∀ b, Q0 b → Q (.bl b) H
def copOf : COp → CmpOp
  | .eq => .Eq | .ne => .NotEq | .lt => .Lt | .le => .LtE | .gt => .Gt | .ge => .GtE | .isN => .Is | .isnN => .IsNot | .inn => .In | .nin => .NotIn
section
variable {X : Cx} {R : RC} (hK : R.K = X.K) (hu : X.A.units + 66 < cLine)
theorem op_dIn (hu : X.A.units + 1 < cLine) : OpR X (compareOp .In) (fun x y H Q => ∃ a o, y = .ref a ∧ DGet H a x o ∧ Q (.bl o.isSome) H) := by
  intro pins s σ H x y v u Q I rx ry q
  obtain ⟨a, o, rfl, g, q⟩ := q
  cases ry
  exact d_in hu I g rx fun s' I' => ⟨.bl _, H, I', rfl, q⟩
theorem op_dNotIn (hu : X.A.units + 1 < cLine) : OpR X (compareOp .NotIn) (fun x y H Q => ∃ a o, y = .ref a ∧ DGet H a x o ∧ Q (.bl (!o.isSome)) H) := by
  intro pins s σ H x y v u Q I rx ry q
  obtain ⟨a, o, rfl, g, q⟩ := q
  cases ry
  exact d_notIn hu I g rx fun s' I' => ⟨.bl _, H, I', rfl, q⟩
theorem any_ints {F : Hp} {i : Int} : ∀ {b : List D} {vs : List V}, Reps R F b vs → (∀ z ∈ b, ∃ j, z = .int j) → vs.all flatV = true ∧ inV (.int i) vs = b.any fun z => D.eqb z (.int i)
  | [], _, .nil, _ => ⟨rfl, rfl⟩
  | d :: b, _, .cons r rs, hz => by
    obtain ⟨j, rfl⟩ := hz d (by simp)
    have e := r.intV
    subst e
    obtain ⟨h1, h2⟩ := any_ints (i := i) rs fun z hz' => hz z (by simp [hz'])
    refine ⟨by rw [List.all_cons, h1]; rfl, ?_⟩
    show ((j == i) || inV (.int i) _) = ((j == i) || _)
    rw [h2]
theorem any_strs {F : Hp} {i : List Nat} : ∀ {b : List D} {vs : List V}, Reps R F b vs → (∀ z ∈ b, ∃ j, z = .str j) → vs.all flatV = true ∧ inV (.str (strOf i)) vs = b.any fun z => D.eqb z (.str i)
  | [], _, .nil, _ => ⟨rfl, rfl⟩
  | d :: b, _, .cons r rs, hz => by
    obtain ⟨j, rfl⟩ := hz d (by simp)
    obtain ⟨e, _⟩ := r.strV
    subst e
    obtain ⟨h1, h2⟩ := any_strs (i := i) rs fun z hz' => hz z (by simp [hz'])
    refine ⟨by rw [List.all_cons, h1]; rfl, ?_⟩
    show ((strOf j == strOf i) || inV (.str (strOf i)) _) = ((j == i) || _)
    rw [h2]
    congr 1
    rw [Bool.eq_iff_iff, beq_iff_eq, beq_iff_eq]
    exact ⟨strOf_inj, fun e => by rw [e]⟩
theorem any_py {d : D} (hd : d.pln = true) : ∀ {b : List D}, D.plns b = true → ((D.pys b).any fun z => PyData.eqv z d.py) = b.any fun z => D.eqb z d
  | [], _ => rfl
  | x :: b, h => by
    have h' : (D.pln x && D.plns b) = true := h
    rw [Bool.and_eq_true] at h'
    show (PyData.eqv x.py d.py || (D.pys b).any _) = (D.eqb x d || _)
    rw [eqb_py x d h'.1 hd, any_py hd h'.2]
/-- the four ways of 'in' -/
def rInA (R : RC) (neg : Bool) : R2 := fun x y H Q =>
  (∃ (c : Nat) (z : Str), x = .str ⟨#[c]⟩ ∧ y = .str z ∧ Q (.bl (if neg then !decide (c ∈ z.cps.toList) else decide (c ∈ z.cps.toList))) H) ∨
  (∃ d ds, Dp R.K H x d ∧ Dp R.K H y (.list ds) ∧ SeqAt.shaped d = true ∧ SeqAt.shaped (.list ds) = true ∧ Q (.bl (if neg then !(ds.any fun z => PyData.eqv z d) else (ds.any fun z => PyData.eqv z d))) H) ∨
  rIn R.K neg x y H Q ∨ (∃ a o, y = .ref a ∧ DGet H a x o ∧ Q (.bl (if neg then !o.isSome else o.isSome)) H)
include hK hu in
theorem op_inA : OpR X (compareOp .In) (rInA R false) := by
  refine OpR.imp (op_in_sign.or ((op_inD (by omega)).or (op_in_seq.or (op_dIn (by omega))))) ?_
  intro x y H Q q
  rw [← hK]
  rcases q with q | q | q | q
  · exact .inl q
  · exact .inr (.inl q)
  · exact .inr (.inr (.inl q))
  · exact .inr (.inr (.inr q))
include hK hu in
theorem op_notinA : OpR X (compareOp .NotIn) (rInA R true) := by
  refine OpR.imp (op_notIn_sign.or ((op_notInD (by omega)).or (op_notIn_seq.or (op_dNotIn (by omega))))) ?_
  intro x y H Q q
  rw [← hK]
  rcases q with q | q | q | q
  · exact .inl q
  · exact .inr (.inl q)
  · exact .inr (.inr (.inl q))
  · exact .inr (.inr (.inr q))
theorem in_of {neg : Bool} {x y : V} {H F : Hp} {h : Hv} {d e : D} {Q0 : Bool → Prop} {Q : VK} (m : Sim R F h H) (r1 : Rep R F d x) (r2 : Rep R F e y) (w : wIn R.kc d e h (fun b => Q0 (if neg then !b else b))) (c : ∀ b, Q0 b → Q (.bl b) H) : rInA R neg x y H Q := by
  unfold wIn at w
  split at w
  · rename_i b eb
    have eb := rsv_str _ eb
    subst eb
    split at w
    · obtain ⟨v1, o1⟩ := r1.strV
      obtain ⟨v2, o2⟩ := r2.strV
      exact .inl ⟨_, _, v1, v2, c _ w⟩
    · exact w.elim
  · rename_i b eb
    obtain ⟨w1, w2, w3, w4, w5⟩ := w
    obtain ⟨a, vs, rfl, q, rr⟩ := rsv_lst m r2 eb
    obtain ⟨dp, ly⟩ := rsv_dp m r1 w1
    have ly2 : PyData.canLayAll0 (D.pys b) = true := Reps.lay rr w2
    refine .inr (.inl ⟨_, D.pys b, dp, .lst (.inl (.inl q)) (Reps.dp m.sub rr w2), shaped_of w1 ly w3, ?_, ?_⟩)
    · show (PyData.canLayAll0 (D.pys b) && decide (PyData.depthAll (D.pys b) + 1 ≤ 64)) = true
      rw [ly2, deps_py b w2, decide_eq_true (by omega)]; rfl
    · rw [any_py w1 w2]; exact c _ w5
  · rename_i b eb
    have eb := rsv_tupD _ eb
    obtain ⟨a, vs, rfl, q, rr⟩ := rsv_tup m r2 (by rw [eb]; rfl)
    split at w
    · have v1 := r1.intV
      subst v1
      obtain ⟨f1, f2⟩ := any_ints rr w.1
      exact .inr (.inr (.inl ⟨a, vs, rfl, .inr q, rfl, f1, by rw [f2]; exact c _ w.2⟩))
    · obtain ⟨v1, _⟩ := r1.strV
      subst v1
      obtain ⟨f1, f2⟩ := any_strs rr w.1
      exact .inr (.inr (.inl ⟨a, vs, rfl, .inr q, rfl, f1, by rw [f2]; exact c _ w.2⟩))
    · exact w.elim
  · rename_i a ea
    have ea := rsv_loc _ ea
    subst ea
    have v2 := r2.locV
    subst v2
    obtain ⟨cc, o, e1, e2, e3⟩ := w
    obtain ⟨ov, g, k⟩ := dlook_get m e1 r1 e2
    refine .inr (.inr (.inr ⟨a, ov, rfl, g, ?_⟩))
    have ek : ov.isSome = o.isSome := by
      rcases k with ⟨rfl, rfl⟩ | ⟨_, _, rfl, rfl, _⟩ <;> rfl
    rw [ek]; exact c _ e3
  · exact w.elim
include hK hu in
theorem cop_D (o : COp) : OpR X (compareOp (copOf o)) (rC R (wCmp R.kc o)) := by
  cases o with
  | eq =>
    refine OpR.imp (op_eqD (by omega)) ?_
    rintro x y H Q ⟨F, h, d, e, Q0, m, r1, r2, w, c⟩
    obtain ⟨p1, p2, ⟨d1, d2⟩, w⟩ := w
    obtain ⟨k1, l1⟩ := rsv_dp m r1 p1
    obtain ⟨k2, l2⟩ := rsv_dp m r2 p2
    rw [hK] at k1 k2
    exact ⟨_, _, k1, k2, shaped_of p1 l1 d1, shaped_of p2 l2 d2, by rw [eqb_py _ _ p1 p2]; exact c _ w⟩
  | ne =>
    refine OpR.imp (op_neD (by omega)) ?_
    rintro x y H Q ⟨F, h, d, e, Q0, m, r1, r2, w, c⟩
    obtain ⟨p1, p2, ⟨d1, d2⟩, w⟩ := w
    obtain ⟨k1, l1⟩ := rsv_dp m r1 p1
    obtain ⟨k2, l2⟩ := rsv_dp m r2 p2
    rw [hK] at k1 k2
    exact ⟨_, _, k1, k2, shaped_of p1 l1 d1, shaped_of p2 l2 d2, by rw [eqb_py _ _ p1 p2]; exact c _ w⟩
  | lt =>
    refine OpR.imp op_lt ?_
    rintro x y H Q ⟨F, h, d, e, Q0, m, r1, r2, w, c⟩
    obtain ⟨i, j, rfl, rfl, w⟩ := int2 (P := fun i j => Q0 (decide (i < j))) w
    exact ⟨i, j, r1.intV, r2.intV, c _ w⟩
  | le =>
    refine OpR.imp (op_le.or op_le_str) ?_
    rintro x y H Q ⟨F, h, d, e, Q0, m, r1, r2, w, c⟩
    have w : (match (generalizing := false) d, e with | .int i, .int j => Q0 (decide (i ≤ j)) | .str a, .str b => Q0 (decide (a ≤ b)) | _, _ => False) := w
    split at w
    · exact .inl ⟨_, _, r1.intV, r2.intV, c _ w⟩
    · refine .inr ⟨_, _, r1.strV.1, r2.strV.1, c _ ?_⟩
      have e : ∀ a b : List Nat, (!decide (b < a)) = decide (a ≤ b) := fun a b => by
        rw [Bool.eq_iff_iff, Bool.not_eq_true', decide_eq_false_iff_not, decide_eq_true_eq]
        exact Iff.rfl
      exact (e _ _) ▸ w
    · exact w.elim
  | gt =>
    refine OpR.imp op_gt ?_
    rintro x y H Q ⟨F, h, d, e, Q0, m, r1, r2, w, c⟩
    obtain ⟨i, j, rfl, rfl, w⟩ := int2 (P := fun i j => Q0 (decide (j < i))) w
    exact ⟨i, j, r1.intV, r2.intV, c _ w⟩
  | ge =>
    refine OpR.imp op_ge ?_
    rintro x y H Q ⟨F, h, d, e, Q0, m, r1, r2, w, c⟩
    obtain ⟨i, j, rfl, rfl, w⟩ := int2 (P := fun i j => Q0 (decide (j ≤ i))) w
    exact ⟨i, j, r1.intV, r2.intV, c _ w⟩
  | isN =>
    refine OpR.imp op_isN ?_
    rintro x y H Q ⟨F, h, d, e, Q0, m, r1, r2, w, c⟩
    have w : (match (generalizing := false) e with | .non => Q0 d.isNon | _ => False) := w
    split at w
    · refine ⟨r2.nonV, ?_⟩
      have q : decide (x = V.non) = d.isNon := by cases r1 <;> rfl
      rw [q]; exact c _ w
    · exact w.elim
  | isnN =>
    refine OpR.imp op_notN ?_
    rintro x y H Q ⟨F, h, d, e, Q0, m, r1, r2, w, c⟩
    have w : (match (generalizing := false) e with | .non => Q0 (!d.isNon) | _ => False) := w
    split at w
    · refine ⟨r2.nonV, ?_⟩
      have q : decide (x = V.non) = d.isNon := by cases r1 <;> rfl
      rw [q]; exact c _ w
    · exact w.elim
  | inn =>
    refine OpR.imp (op_inA hK hu) ?_
    rintro x y H Q ⟨F, h, d, e, Q0, m, r1, r2, w, c⟩
    exact in_of (neg := false) m r1 r2 w c
  | nin =>
    refine OpR.imp (op_notinA hK hu) ?_
    rintro x y H Q ⟨F, h, d, e, Q0, m, r1, r2, w, c⟩
    exact in_of (neg := true) m r1 r2 w c
end

/-! ### indices, slices, stores -/
theorem ixN_eq (n : Nat) (i : Int) : ixN n i = L2.ixN n i := rfl
theorem sIx_eq (n d : Nat) (o : Option Int) : sIx n d o = HT.sIx n d o := by
  cases o with
  | none => rfl
  | some v =>
    have e := HT.clip_eq v n d
    show (if v < 0 then max (v + (n : Int)) 0 else min v (n : Int)).toNat = _
    rw [e]; exact Int.toNat_natCast _
theorem cut_reps {R : RC} {F : Hp} {ds : List D} {vs : List V} (r : Reps R F ds vs) (lo hi : Option Int) : Reps R F (cutL ds lo hi) (cutV vs lo hi) := by
  unfold cutL cutV
  rw [sIx_eq, sIx_eq, r.length]
  exact (r.drop _).take _
theorem atI_reps {R : RC} {F : Hp} {ds : List D} {vs : List V} (r : Reps R F ds vs) {i : Int} {d : D} (e : atI ds i = some d) : ∃ v, L2.atI vs i = some v ∧ Rep R F d v := by
  unfold atI at e
  cases q : ixN ds.length i with
  | none => rw [q] at e; cases e
  | some j =>
    rw [q] at e
    obtain ⟨v, h1, h2⟩ := r.get (i := j) (show ds[j]? = some d from e)
    refine ⟨v, ?_, h2⟩
    unfold L2.atI
    rw [← r.length, ← ixN_eq, q]
    exact h1
theorem IxR.imp {X : Cx} {r r' : R2} (h : IxR X r) (k : ∀ x y H Q, r' x y H Q → r x y H Q) : IxR X r' := fun value slice pins s σ H x y v u Q I rx ry q => h value slice pins s σ H x y v u Q I rx ry (k _ _ _ _ q)
theorem SlR.imp {X : Cx} {r r' : V → Option Int → Option Int → Hp → VK → Prop} (h : SlR X r) (k : ∀ x a b H Q, r' x a b H Q → r x a b H Q) : SlR X r' := fun pins s σ H x v vl vu lo hi sl Q I rx e1 e2 e3 q => h pins s σ H x v vl vu lo hi sl Q I rx e1 e2 e3 (k _ _ _ _ _ q)
theorem CallR.imp {X : Cx} {f : Value} {r r' : List V → Hp → VK → Prop} (h : CallR X f r) (k : ∀ x H Q, r' x H Q → r x H Q) : CallR X f r' := fun pins s σ H xs us Q I r q => h pins s σ H xs us Q I r (k _ _ _ q)
theorem MtR.imp {X : Cx} {f : String} {r r' : V → List V → Hp → VK → Prop} (h : MtR X f r) (k : ∀ x xs H Q, r' x xs H Q → r x xs H Q) : MtR X f r' := fun pins s σ H x xs v us Q I rx r q => h pins s σ H x xs v us Q I rx r (k _ _ _ _ q)
section
variable {X : Cx} {R : RC} (hK : R.K = X.K) (hu : X.A.units + 66 < cLine)
theorem ix_dict (hu : X.A.units + 1 < cLine) : IxR X (fun x y H Q => ∃ a v, x = .ref a ∧ DGet H a y (some v) ∧ Q v H) := by
  intro value slice pins s σ H x y v u Q I rx ry q hs
  obtain ⟨a, w, rfl, g, q⟩ := q
  cases rx
  exact tail_any (dict_typeIs I g) PySem.F.slot_dict_getitem.lookup (d_getItem hu I g ry fun w' s' I' rw' => ⟨w, H, I', rw', q⟩) hs
include hK hu in
theorem ix_D : IxR X (rB R (wIx R.kc)) := by
  refine IxR.imp (ix_list.or (ix_tup.or (ix_str.or (ix_dict (by omega))))) ?_
  rintro x y H Q ⟨F, h, d, e, Q0, m, r1, r2, w, c⟩
  unfold wIx at w
  rw [← hK]
  split at w
  · rename_i a ea
    have ea := rsv_loc _ ea
    subst ea
    obtain ⟨cc, dd, e1, e2, e3⟩ := w
    obtain ⟨ov, g, k⟩ := dlook_get m e1 r2 e2
    rcases k with ⟨k, _⟩ | ⟨d', w', k1, k2, k3⟩
    · cases k
    · cases k1; subst k2
      exact .inr (.inr (.inr ⟨a, w', r1.locV, g, c.now m k3 e3⟩))
  · rename_i xs ex
    split at w
    · rename_i i
      obtain ⟨dd, e1, e2⟩ := w
      obtain ⟨a, vs, rfl, q, rr⟩ := rsv_lst m r1 ex
      obtain ⟨v, e3, r3⟩ := atI_reps rr e1
      exact .inl ⟨a, vs, i, v, rfl, r2.intV, .inl (.inl q), e3, c.now m r3 e2⟩
    · exact w.elim
  · rename_i xs ex
    split at w
    · rename_i i
      obtain ⟨dd, e1, e2⟩ := w
      obtain ⟨a, vs, rfl, q, rr⟩ := rsv_tup m r1 ex
      obtain ⟨v, e3, r3⟩ := atI_reps rr e1
      exact .inr (.inl ⟨a, vs, i, v, rfl, r2.intV, q, e3, c.now m r3 e2⟩)
    · exact w.elim
  · rename_i xs ex
    split at w
    · rename_i i
      obtain ⟨dd, e1, e2⟩ := w
      obtain ⟨a, rfl, q⟩ := rsv_scr m r1 ex
      have e1' : atI (xs.map D.int) i = some (.int dd) := by
        unfold atI at e1 ⊢
        rw [List.length_map]
        cases hq : ixN xs.length i with
        | none => rw [hq] at e1; cases e1
        | some j =>
          rw [hq] at e1
          have e1 : xs[j]? = some dd := e1
          show (xs.map D.int)[j]? = _
          rw [List.getElem?_map, e1]; rfl
      obtain ⟨v, e3, r3⟩ := atI_reps (R := R) (F := F) (Reps.ints xs) e1'
      exact .inl ⟨a, _, i, v, rfl, r2.intV, q, e3, c.now m r3 e2⟩
    · exact w.elim
  · rename_i xs ex
    have ex := rsv_str _ ex
    subst ex
    split at w
    · rename_i i
      obtain ⟨w1, cc, e1, e2⟩ := w
      obtain ⟨v1, o1⟩ := r1.strV
      refine .inr (.inr (.inl ⟨_, i, cc, v1, r2.intV, ?_, ?_, ?_⟩))
      · rw [strOf_len, ← lim_eq]; exact w1
      · exact e1
      · refine c.now m (.str [cc] ?_) e2
        intro z hz
        have hz : z = cc := by simpa using hz
        subst hz
        refine o1 z ?_
        unfold atI at e1
        cases hq : ixN xs.length i with
        | none => rw [hq] at e1; cases e1
        | some j => rw [hq] at e1; exact List.mem_of_getElem? (show xs[j]? = some z from e1)
    · exact w.elim
  · exact w.elim
/-- slices -/
def rSl (R : RC) (fz : Bool) : V → Option Int → Option Int → Hp → VK → Prop := fun x lo hi H Q => ∃ F h d Q0, Sim R F h H ∧ Rep R F d x ∧ wSlc fz d lo hi h Q0 ∧ Cn R F h H Q0 Q
theorem cutL_sub {α : Type} {xs : List α} {lo hi : Option Int} {x : α} (h : x ∈ cutL xs lo hi) : x ∈ xs := List.mem_of_mem_drop (List.mem_of_mem_take h)
include hK in
theorem sl_D {fz : Bool} : SlR X (rSl R fz) := by
  refine SlR.imp (sl_list.or (sl_tupA.or sl_str)) ?_
  rintro x lo hi H Q ⟨F, h, d, Q0, m, r1, w, c⟩
  unfold wSlc at w
  rw [← hK]
  split at w
  · rename_i xs ex
    obtain ⟨a, vs, rfl, q, rr⟩ := rsv_lst m r1 ex
    exact .inl ⟨a, vs, rfl, .inl (.inl q), fun p n => c.lst m (cut_reps rr lo hi) w n⟩
  · rename_i xs ex
    obtain ⟨a, vs, rfl, q, rr⟩ := rsv_tup m r1 ex
    refine .inr (.inl ⟨a, vs, rfl, q, fun hw => ?_, fun _ p n => c.tup m (cut_reps rr lo hi) w n⟩)
    have ex := rsv_tupD _ ex
    subst ex
    have e : cutL xs lo hi = xs := by
      unfold cutL
      rw [sIx_eq, sIx_eq, rr.length, hw.1, hw.2, ← rr.length]
      simp
    rw [e] at w
    exact c.now m r1 w
  · rename_i xs ex
    have ex := rsv_str _ ex
    subst ex
    obtain ⟨v1, o1⟩ := r1.strV
    refine .inr (.inr ⟨_, v1, ?_, ?_⟩)
    · rw [strOf_len, ← lim_eq]; exact w.1
    · have e : cutS (strOf xs) lo hi = strOf (cutL xs lo hi) := by
        unfold cutS cutL strOf
        rw [sIx_eq, sIx_eq]
        rfl
      rw [e]
      exact c.now m (.str _ fun z hz => o1 z (cutL_sub hz)) w.2
  · exact w.elim
/-- stores -/
def rSet (R : RC) : V → V → V → Hp → (Hp → Prop) → Prop := fun o i v H Q => ∃ F h x y d, ∃ Q0 : Hv → Prop, Sim R F h H ∧ Rep R F x o ∧ Rep R F y i ∧ Rep R F d v ∧ wSet R.kc x y d h Q0 ∧ ∀ h' H', Step F h H F h' H' → Sim R F h' H' → Q0 h' → Q H'
theorem set_dict (hu : X.A.units + 1 < cLine) : PSet X (fun o i v H Q => ∃ a H', o = .ref a ∧ DPut H a i v H' ∧ Q H') := by
  intro pins s σ H o i v ov iv u Q I r1 r2 r3 q
  obtain ⟨a, H', rfl, g, q⟩ := q
  cases r1
  exact d_setItem hu I g r2 r3 fun s' I' => ⟨H', I', q⟩
theorem PSet.or {t t' : TSet} (a : PSet X t) (b : PSet X t') : PSet X (fun o i v H Q => t o i v H Q ∨ t' o i v H Q) := by
  intro pins s σ H o i v ov iv u Q I r1 r2 r3 q
  rcases q with q | q
  · exact a pins s σ H o i v ov iv u Q I r1 r2 r3 q
  · exact b pins s σ H o i v ov iv u Q I r1 r2 r3 q
theorem PSet.imp {t t' : TSet} (a : PSet X t) (k : ∀ o i v H Q, t' o i v H Q → t o i v H Q) : PSet X t' := fun pins s σ H o i v ov iv u Q I r1 r2 r3 q => a pins s σ H o i v ov iv u Q I r1 r2 r3 (k _ _ _ _ _ q)
include hu in
theorem set_D : PSet X (rSet R) := by
  refine PSet.imp (PSet.or set_list (set_dict (by omega))) ?_
  rintro o i v H Q ⟨F, h, x, y, d, Q0, m, r1, r2, r3, w, c⟩
  unfold wSet at w
  split at w
  · rename_i a
    have e1 := r1.locV
    subst e1
    split at w
    · rename_i xs hc
      split at w
      · rename_i k
        obtain ⟨j, e2, q⟩ := w
        obtain ⟨vs, eH, rr⟩ := m.cell a _ hc
        refine .inl ⟨a, vs, k, j, rfl, r2.intV, eH, by rw [← rr.length, ← ixN_eq]; exact e2, ?_⟩
        obtain ⟨m', s'⟩ := m.write (c' := .lst (xs.set j d)) (o := .lst (vs.set j v)) hc ⟨_, upd_same, rr.set r3 j⟩
        exact c _ _ s' m' q
      · exact w.elim
    · rename_i kvs hc
      obtain ⟨w1, k, w2, w3⟩ := w
      obtain ⟨vs, eH, rk⟩ := m.cell a _ hc
      have ev := keyD_V r2 w2
      subst ev
      refine .inr ⟨a, _, rfl, DPut.k eH (by rw [← rk.length, ← lim_eq]; exact w1), ?_⟩
      obtain ⟨m', s'⟩ := m.write (c' := .dK (putK kvs k d)) (o := .dK (L2.putK vs (kyV k) v)) hc ⟨_, upd_same, RepKv.put kyV_inj rk r3⟩
      exact c _ _ s' m' w3
    · rename_i kvs hc
      obtain ⟨w1, ks, kk, rfl, w2, w3, w4⟩ := w
      obtain ⟨vs, eH, rk⟩ := m.cell a _ hc
      cases r2 with
      | tup f rs =>
        have ev := keysD_V rs w3
        subst ev
        refine .inr ⟨a, _, rfl, DPut.t eH (m.sub _ _ f) (by rw [← rk.length, ← lim_eq]; exact w1), ?_⟩
        obtain ⟨m', s'⟩ := m.write (c' := .dT (putK kvs kk d)) (o := .dT (L2.putK vs (kk.map kyV) v)) hc ⟨_, upd_same, RepKv.put (map_inj kyV_inj) rk r3⟩
        exact c _ _ s' m' w4
      | ktup f kc rs => rw [w2] at kc; cases kc
    · exact w.elim
  · exact w.elim
end
end VS

set_option Elab.async false
set_option linter.all false
set_option maxRecDepth 100000
set_option maxHeartbeats 4000000
/-! VS5: built-ins and methods on trees. -/
namespace VS
open PySem PySem.Spec PyProof.Rows L2

def rD (R : RC) (wf : List D → Hv → QD → Prop) : List V → Hp → VK → Prop := fun vs H Q => ∃ F h ds Q0, Sim R F h H ∧ Reps R F ds vs ∧ wf ds h Q0 ∧ Cn R F h H Q0 Q
theorem ofString_codes (s : String) : Str.ofString s = strOf (codes s) := TL.ext_tl (by rw [TL.tl_ofString]; rfl)
theorem codes_ok (s : String) : StrOk (codes s) := by
  intro c hc
  obtain ⟨ch, _, e⟩ := List.mem_map.mp hc
  rw [← e]
  have h := ch.valid
  have ht : ch.toNat = ch.val.toNat := rfl
  rw [ht]
  simp only [UInt32.isValidChar, Nat.isValidChar] at h
  omega
section
variable {R : RC} {F H : Hp} {h : Hv}
theorem allInt_V : ∀ {ds : List D} {vs : List V} {ns : List Int}, Reps R F ds vs → allInt ds = some ns → vs = ns.map V.int
  | [], _, _, .nil, e => by cases e; rfl
  | d :: ds, _, ns, .cons r rs, e => by
    unfold allInt at e
    split at e
    · rename_i i
      cases q : allInt ds with
      | none => rw [q] at e; cases e
      | some ms =>
        rw [q] at e
        have e : some (i :: ms) = some ns := e
        cases e
        rw [allInt_V rs q, r.intV]; rfl
    · cases e
theorem allBl_V : ∀ {ds : List D} {vs : List V} {ns : List Bool}, Reps R F ds vs → allBl ds = some ns → vs = ns.map V.bl
  | [], _, _, .nil, e => by cases e; rfl
  | d :: ds, _, ns, .cons r rs, e => by
    unfold allBl at e
    split at e
    · rename_i i
      cases q : allBl ds with
      | none => rw [q] at e; cases e
      | some ms =>
        rw [q] at e
        have e : some (i :: ms) = some ns := e
        cases e
        rw [allBl_V rs q, r.blV]; rfl
    · cases e
theorem allStr_V : ∀ {ds : List D} {vs : List V} {ns : List (List Nat)}, Reps R F ds vs → allStr ds = some ns → vs = (ns.map strOf).map V.str ∧ ∀ s ∈ ns, StrOk s
  | [], _, _, .nil, e => by cases e; exact ⟨rfl, fun _ z => by cases z⟩
  | d :: ds, _, ns, .cons r rs, e => by
    unfold allStr at e
    split at e
    · rename_i i
      cases q : allStr ds with
      | none => rw [q] at e; cases e
      | some ms =>
        rw [q] at e
        have e : some (i :: ms) = some ns := e
        cases e
        obtain ⟨e1, o1⟩ := allStr_V rs q
        obtain ⟨e2, o2⟩ := r.strV
        refine ⟨by rw [e1, e2]; rfl, fun s hs => ?_⟩
        rcases List.mem_cons.mp hs with rfl | hs
        · exact o2
        · exact o1 s hs
    · cases e
theorem Reps.strs : ∀ {ns : List (List Nat)}, (∀ s ∈ ns, StrOk s) → Reps R F (ns.map D.str) ((ns.map strOf).map V.str)
  | [], _ => .nil
  | s :: ns, o => .cons (.str s (o s (by simp))) (Reps.strs fun t ht => o t (by simp [ht]))
theorem lenD_V (m : Sim R F h H) {x : D} {v : V} (r : Rep R F x v) {n : Nat} (e : lenD (rsv h x) = some n) (hn : n ≤ lim) : LenV R.K v H n := by
  cases ex : rsv h x with
  | str s =>
    have e1 := rsv_str _ ex
    subst e1
    cases e
    obtain ⟨rfl, _⟩ := r.strV
    refine ⟨?_, ?_⟩
    · rw [strOf_len, ← lim_eq]; exact hn
    · rw [strOf_len]
  | lst xs =>
    rw [ex] at e
    cases e
    obtain ⟨a, vs, rfl, q, rr⟩ := rsv_lst m r ex
    exact .inl ⟨vs, .inl (.inl q), rr.length⟩
  | tup xs =>
    rw [ex] at e
    cases e
    obtain ⟨a, vs, rfl, q, rr⟩ := rsv_tup m r ex
    exact .inr ⟨vs, q, rr.length⟩
  | scr xs =>
    rw [ex] at e
    cases e
    obtain ⟨a, rfl, q⟩ := rsv_scr m r ex
    exact .inl ⟨_, q, (List.length_map _).symm⟩
  | _ => rw [ex] at e; cases e
theorem seqD_V (m : Sim R F h H) {x : D} {v : V} (r : Rep R F x v) {xs : List D} (e : seqD (rsv h x) = some xs) : ∃ a vs, v = .ref a ∧ (SqL R.K H a vs ∨ SqT R.K H a vs) ∧ Reps R F xs vs ∧ (rsv h x = .lst xs ∨ x = .tup xs) := by
  cases ex : rsv h x with
  | lst ys =>
    rw [ex] at e
    cases e
    obtain ⟨a, vs, rfl, q, rr⟩ := rsv_lst m r ex
    exact ⟨a, vs, rfl, .inl (.inl (.inl q)), rr, .inl rfl⟩
  | tup ys =>
    rw [ex] at e
    cases e
    obtain ⟨a, vs, rfl, q, rr⟩ := rsv_tup m r ex
    exact ⟨a, vs, rfl, .inr q, rr, .inr (rsv_tupD _ ex)⟩
  | _ => rw [ex] at e; cases e
end

def biNm : BI → Str
  | .len => "len" | .abs => "abs" | .min2 => "min" | .max2 => "max" | .int => "int" | .str => "str" | .list _ => "list" | .tuple => "tuple" | .all => "all" | .any => "any" | .max1 => "max" | .min1 => "min" | .sum => "sum" | .sorted _ => "sorted"
def biVl : BI → Value
  | .len => .builtin "len" | .abs => .builtin "abs" | .min2 => .builtin "min" | .max2 => .builtin "max" | .int => .type "int" | .str => .type "str" | .list _ => .type "list" | .tuple => .type "tuple" | .all => .builtin "all" | .any => .builtin "any" | .max1 => .builtin "max" | .min1 => .builtin "min" | .sum => .builtin "sum" | .sorted _ => .builtin "sorted"
theorem bi_boot (b : BI) : bootBuiltins (biNm b) = some (biVl b) := by
  cases b <;> (simp only [biNm, biVl]; decide +kernel)
section
variable {X : Cx} {R : RC} (hK : R.K = X.K) (hc : X.calm = true)
theorem wBI_one {b : BI} {ds : List D} {h : Hv} {Q : QD} (w : wBI b ds h Q) (hb : b ≠ .min2 ∧ b ≠ .max2) : ∃ x, ds = [x] ∧ wBI1 b x h Q := by
  unfold wBI at w
  split at w
  · exact ⟨_, rfl, w⟩
  · unfold wBI2 at w
    split at w
    · exact absurd rfl hb.1
    · exact absurd rfl hb.2
    · exact w.elim
  · exact w.elim
include hK hc in
theorem bi_D (b : BI) : CallR X (biVl b) (rD R (wBI b)) := by
  cases b with
  | len =>
    refine CallR.imp call_len ?_
    rintro vs H Q ⟨F, h, ds, Q0, m, rs, w, c⟩
    obtain ⟨x, rfl, n, w1, w2, w3⟩ := wBI_one w ⟨by simp, by simp⟩
    cases rs with
    | cons r rs =>
      cases rs
      exact ⟨_, n, rfl, hK ▸ lenD_V m r w1 w2, c.ofInt m w3⟩
  | abs =>
    refine CallR.imp call_abs ?_
    rintro vs H Q ⟨F, h, ds, Q0, m, rs, w, c⟩
    obtain ⟨x, rfl, i, rfl, w1⟩ := wBI_one w ⟨by simp, by simp⟩
    cases rs with
    | cons r rs =>
      cases rs
      exact ⟨i, by rw [r.intV], c.ofInt m w1⟩
  | min2 =>
    refine CallR.imp (call_min2 hc) ?_
    rintro vs H Q ⟨F, h, ds, Q0, m, rs, w, c⟩
    unfold wBI at w
    split at w
    · exact (show False from w).elim
    · obtain ⟨i, j, rfl, rfl, w⟩ := w
      cases rs with
      | cons r rs =>
        cases rs with
        | cons r' rs =>
          cases rs
          exact ⟨i, j, by rw [r.intV, r'.intV], c.ofInt m w⟩
    · exact w.elim
  | max2 =>
    refine CallR.imp (call_max2 hc) ?_
    rintro vs H Q ⟨F, h, ds, Q0, m, rs, w, c⟩
    unfold wBI at w
    split at w
    · exact (show False from w).elim
    · obtain ⟨i, j, rfl, rfl, w⟩ := w
      cases rs with
      | cons r rs =>
        cases rs with
        | cons r' rs =>
          cases rs
          exact ⟨i, j, by rw [r.intV, r'.intV], c.ofInt m w⟩
    · exact w.elim
  | int =>
    refine CallR.imp (call_int1.or call_int_str) ?_
    rintro vs H Q ⟨F, h, ds, Q0, m, rs, w, c⟩
    obtain ⟨x, rfl, w⟩ := wBI_one w ⟨by simp, by simp⟩
    cases rs with
    | cons r rs =>
      cases rs
      have w : (match (generalizing := false) x with | .int i => Q0 (.int i) h | .bl k => Q0 (.int (if k then 1 else 0)) h | .str cs => ∃ n, PySem.intText? (strOf cs) = some n ∧ cs.length ≤ 640 ∧ Q0 (.int n) h | _ => False) := w
      split at w
      · exact .inl (.inl ⟨_, by rw [r.intV], c.ofInt m w⟩)
      · exact .inl (.inr ⟨_, by rw [r.blV], c.ofInt m w⟩)
      · obtain ⟨n, w1, w2, w3⟩ := w
        exact .inr ⟨_, n, by rw [r.strV.1], w1, by rw [strOf_len]; exact w2, c.ofInt m w3⟩
      · exact w.elim
  | str =>
    refine CallR.imp (call_str_int.or SkE.call_str_str) ?_
    rintro vs H Q ⟨F, h, ds, Q0, m, rs, w, c⟩
    obtain ⟨x, rfl, w⟩ := wBI_one w ⟨by simp, by simp⟩
    cases rs with
    | cons r rs =>
      cases rs
      have w : (match (generalizing := false) x with | .int i => i.natAbs.log2 < 1920 ∧ Q0 (.str (intD i)) h | .str cs => Q0 (.str cs) h | _ => False) := w
      split at w
      · refine .inl ⟨_, by rw [r.intV], w.1, ?_⟩
        exact (congrArg (fun z => Q (.str z) H) (ofString_codes _)).mpr (c.now m (.str _ (codes_ok _)) w.2)
      · exact .inr ⟨_, by rw [r.strV.1], c.now m (.str _ r.strV.2) w⟩
      · exact w.elim
  | list fz =>
    refine CallR.imp call_list_of ?_
    rintro vs H Q ⟨F, h, ds, Q0, m, rs, w, c⟩
    obtain ⟨x, rfl, xs, w1, w2⟩ := wBI_one w ⟨by simp, by simp⟩
    cases rs with
    | cons r rs =>
      cases rs
      obtain ⟨a, ws, rfl, q, rr, _⟩ := seqD_V m r w1
      exact ⟨a, ws, rfl, hK ▸ q, fun l n => c.lst m rr w2 n⟩
  | tuple =>
    refine CallR.imp call_tuple_of ?_
    rintro vs H Q ⟨F, h, ds, Q0, m, rs, w, c⟩
    obtain ⟨x, rfl, xs, w1, w2⟩ := wBI_one w ⟨by simp, by simp⟩
    cases rs with
    | cons r rs =>
      cases rs
      rw [← hK]
      cases ex : rsv h x with
      | lst ys =>
        rw [ex] at w1
        cases w1
        obtain ⟨a, ws, rfl, q, rr⟩ := rsv_lst m r ex
        exact ⟨a, ws, rfl, .inl ⟨.inl (.inl q), fun l n => c.tup m rr w2 n⟩⟩
      | tup ys =>
        rw [ex] at w1
        cases w1
        obtain ⟨a, ws, rfl, q, rr⟩ := rsv_tup m r ex
        have k := rsv_tupD _ ex
        subst k
        exact ⟨a, ws, rfl, .inr ⟨q, c.now m r w2⟩⟩
      | _ => rw [ex] at w1; cases w1
  | all =>
    refine CallR.imp (cr_all hc) ?_
    rintro vs H Q ⟨F, h, ds, Q0, m, rs, w, c⟩
    obtain ⟨x, rfl, xs, bs, w1, w2, w3⟩ := wBI_one w ⟨by simp, by simp⟩
    cases rs with
    | cons r rs =>
      cases rs
      obtain ⟨a, ws, rfl, q, rr⟩ := rsv_lst m r w1
      have e := allBl_V rr w2
      subst e
      exact ⟨a, bs, rfl, .inl (.inl q), c.ofBl m w3⟩
  | any =>
    refine CallR.imp (cr_any hc) ?_
    rintro vs H Q ⟨F, h, ds, Q0, m, rs, w, c⟩
    obtain ⟨x, rfl, xs, bs, w1, w2, w3⟩ := wBI_one w ⟨by simp, by simp⟩
    cases rs with
    | cons r rs =>
      cases rs
      obtain ⟨a, ws, rfl, q, rr⟩ := rsv_lst m r w1
      have e := allBl_V rr w2
      subst e
      exact ⟨a, bs, rfl, .inl (.inl q), c.ofBl m w3⟩
  | max1 =>
    refine CallR.imp (cr_max hc) ?_
    rintro vs H Q ⟨F, h, ds, Q0, m, rs, w, c⟩
    obtain ⟨x, rfl, xs, ns, w1, w2, w3, w4⟩ := wBI_one w ⟨by simp, by simp⟩
    cases rs with
    | cons r rs =>
      cases rs
      obtain ⟨a, ws, rfl, q, rr⟩ := rsv_lst m r w1
      have e := allInt_V rr w2
      subst e
      exact ⟨a, ns, rfl, .inl (.inl q), w3, fun k hk hm => c.ofInt m (w4 k hk hm)⟩
  | min1 =>
    refine CallR.imp (cr_min hc) ?_
    rintro vs H Q ⟨F, h, ds, Q0, m, rs, w, c⟩
    obtain ⟨x, rfl, xs, ns, w1, w2, w3, w4⟩ := wBI_one w ⟨by simp, by simp⟩
    cases rs with
    | cons r rs =>
      cases rs
      obtain ⟨a, ws, rfl, q, rr⟩ := rsv_lst m r w1
      have e := allInt_V rr w2
      subst e
      exact ⟨a, ns, rfl, .inl (.inl q), w3, fun k hk hm => c.ofInt m (w4 k hk hm)⟩
  | sum =>
    refine CallR.imp (cr_sum hc) ?_
    rintro vs H Q ⟨F, h, ds, Q0, m, rs, w, c⟩
    obtain ⟨x, rfl, xs, ns, w1, w2, w3⟩ := wBI_one w ⟨by simp, by simp⟩
    cases rs with
    | cons r rs =>
      cases rs
      obtain ⟨a, ws, rfl, q, rr⟩ := rsv_lst m r w1
      have e := allInt_V rr w2
      subst e
      exact ⟨a, ns, rfl, .inl (.inl q), c.ofInt m w3⟩
  | sorted fz =>
    refine CallR.imp cr_sorted ?_
    rintro vs H Q ⟨F, h, ds, Q0, m, rs, w, c⟩
    obtain ⟨x, rfl, xs, ns, w1, w2, w3, w4⟩ := wBI_one w ⟨by simp, by simp⟩
    cases rs with
    | cons r rs =>
      cases rs
      obtain ⟨a, ws, rfl, q, rr⟩ := rsv_lst m r w1
      have e := allInt_V rr w2
      subst e
      exact ⟨a, ns, rfl, .inl (.inl q), w3, fun ms p k1 k2 n => c.lst m (Reps.ints ms) (w4 ms k1 k2) n⟩
end

theorem spl_all {P : Nat → Prop} (S : List Nat) : ∀ (l : List Nat) (k : Nat) (acc : List Nat), (∀ c ∈ l, P c) → (∀ c ∈ acc, P c) → ∀ y ∈ TL.spl S k acc l, ∀ c ∈ y, P c
  | [], k, acc, _, ha, y, hy, c, hc => by
    rw [TL.spl_nil] at hy
    have e : y = acc := by simpa using hy
    rw [e] at hc; exact ha c hc
  | x :: l, k + 1, acc, hl, ha, y, hy, c, hc => by
    have e : TL.spl S (k + 1) acc (x :: l) = TL.spl S k acc l := rfl
    rw [e] at hy
    exact spl_all S l k acc (fun c hc => hl c (by simp [hc])) ha y hy c hc
  | x :: l, 0, acc, hl, ha, y, hy, c, hc => by
    have hl' : ∀ c ∈ l, P c := fun c hc => hl c (by simp [hc])
    cases hp : TL.pre S (x :: l) with
    | true =>
      rw [TL.spl_hit hp] at hy
      rcases List.mem_cons.mp hy with rfl | hy
      · exact ha c hc
      · exact spl_all S l _ [] hl' (fun _ z => by cases z) y hy c hc
    | false =>
      rw [TL.spl_miss hp] at hy
      refine spl_all S l 0 _ hl' (fun c hc => ?_) y hy c hc
      rcases List.mem_append.mp hc with z | z
      · exact ha c z
      · have e : c = x := by simpa using z
        rw [e]; exact hl x (by simp)
theorem spl_ok {S l : List Nat} (h : StrOk l) : ∀ y ∈ TL.spl S 0 [] l, StrOk y := spl_all S l 0 [] h (fun _ z => by cases z)
/-! ### methods -/
def mtTy : MT → String
  | .join => "str" | .split _ => "str" | .partition => "str" | .replace => "str" | .upper => "str" | _ => "list"
def mtNm : MT → Str
  | .append => "append" | .pop => "pop" | .clear => "clear" | .count => "count" | .index => "index" | .join => "join" | .split _ => "split" | .partition => "partition" | .replace => "replace" | .upper => "upper"
def mtId : MT → String
  | .append => "list.append" | .pop => "list.pop" | .clear => "list.clear" | .count => "list.count" | .index => "list.index" | .join => "str.join" | .split _ => "str.split" | .partition => "str.partition" | .replace => "str.replace" | .upper => "str.upper"
/-- what the method rule of a built-in type asks -/
structure MtFact (m : MT) : Prop where
  pa : PlainAttrs (mtTy m)
  slot : Slot (mtTy m) (mtNm m) (mtId m)
  ty : typeOf (.builtin (mtId m)) = pure (.type "method_descriptor")
def mtOk : MT → Bool
  | .append => true | .pop => true | .clear => true | .join => true | .split _ => true | _ => false
theorem mt_fact (m : MT) (h : mtOk m = true) : MtFact m := by
  cases m with
  | append => exact ⟨PySem.F.plainAttrs_list, PySem.F.slot_list_append, PySem.F.type_list_append⟩
  | pop => exact ⟨PySem.F.plainAttrs_list, PySem.F.slot_list_pop, PySem.F.type_list_pop⟩
  | clear => exact ⟨PySem.F.plainAttrs_list, PySem.F.slot_list_clear, PySem.F.type_list_clear⟩
  | join => exact ⟨PySem.F.plainAttrs_str, PySem.F.slot_str_join, PySem.F.type_str_join⟩
  | split fz => exact ⟨PySem.F.plainAttrs_str, PySem.F.slot_str_split, PySem.F.type_str_split⟩
  | _ => cases h
def rM (R : RC) (mt : MT) : V → List V → Hp → VK → Prop := fun x vs H Q => ∃ F h d ds Q0, Sim R F h H ∧ Rep R F d x ∧ Reps R F ds vs ∧ wMT mt d ds h Q0 ∧ Cn R F h H Q0 Q
theorem wMT_0 {mt : MT} {d : D} {ds : List D} {h : Hv} {Q : QD} (w : wMT mt d ds h Q) (k : ∀ x Q, ¬ wMT1 mt d x h Q) : ds = [] ∧ wMT0 mt d h Q := by
  unfold wMT at w
  split at w
  · exact ⟨rfl, w⟩
  · exact absurd w (k _ _)
  · exact w.elim
theorem wMT_1 {mt : MT} {d : D} {ds : List D} {h : Hv} {Q : QD} (w : wMT mt d ds h Q) (k : ∀ Q, ¬ wMT0 mt d h Q) : ∃ x, ds = [x] ∧ wMT1 mt d x h Q := by
  unfold wMT at w
  split at w
  · exact absurd w (k _)
  · exact ⟨_, rfl, w⟩
  · exact w.elim
section
variable {X : Cx} {R : RC} (hK : R.K = X.K)
theorem joinL_ok {s : List Nat} (hs : StrOk s) : ∀ {ys : List (List Nat)}, (∀ y ∈ ys, StrOk y) → StrOk (TL.joinL s ys)
  | [], _ => fun c hc => by cases hc
  | [y], o => o y (by simp)
  | x :: y :: r, o => by
    have e : TL.joinL s (x :: y :: r) = x ++ (s ++ TL.joinL s (y :: r)) := rfl
    rw [e]
    exact (o x (by simp)).app (hs.app (joinL_ok hs fun z hz => o z (by simp [List.mem_cons.mp hz])))
include hK in
theorem mt_D (m : MT) (hm : mtOk m = true) : MtR X (mtId m) (rM R m) := by
  have hl := lim_eq
  cases m with
  | append =>
    refine MtR.imp (show MtR X "list.append" rAppend from mt_append) ?_
    rintro x vs H Q ⟨F, h, d, ds, Q0, m, r, rs, w, c⟩
    obtain ⟨y, rfl, a, xs, rfl, w1, w2, w3⟩ := wMT_1 w (fun _ z => z)
    cases rs with
    | cons r1 rs =>
      cases rs
      obtain ⟨ws, q, rr⟩ := m.cell a _ w1
      refine ⟨a, ws, _, r.locV, rfl, q, by rw [← rr.length, ← hl]; exact w2, ?_⟩
      obtain ⟨m', s'⟩ := m.write (c' := .lst (xs ++ [y])) (o := .lst (ws ++ [_])) w1 ⟨_, upd_same, rr.append (.one r1)⟩
      exact c _ _ _ _ _ s' m' .non w3
  | pop =>
    refine MtR.imp (show MtR X "list.pop" rPop from mt_pop) ?_
    rintro x vs H Q ⟨F, h, d, ds, Q0, m, r, rs, w, c⟩
    obtain ⟨rfl, a, xs, y, rfl, w1, w2⟩ := wMT_0 w (fun _ _ z => z)
    cases rs
    obtain ⟨ws, q, rr⟩ := m.cell a _ w1
    obtain ⟨zs, z, rfl, r1, r2⟩ := rr.snoc
    refine ⟨a, zs ++ [z], z, r.locV, rfl, q, by simp, ?_⟩
    rw [List.dropLast_concat]
    obtain ⟨m', s'⟩ := m.write (c' := .lst xs) (o := .lst zs) w1 ⟨_, upd_same, r1⟩
    exact c _ _ _ _ _ s' m' r2 w2
  | clear =>
    refine MtR.imp (show MtR X "list.clear" rClear from mt_clear) ?_
    rintro x vs H Q ⟨F, h, d, ds, Q0, m, r, rs, w, c⟩
    obtain ⟨rfl, a, xs, rfl, w1, w2⟩ := wMT_0 w (fun _ _ z => z)
    cases rs
    obtain ⟨ws, q, rr⟩ := m.cell a _ w1
    refine ⟨a, ws, r.locV, rfl, q, ?_⟩
    obtain ⟨m', s'⟩ := m.write (c' := .lst []) (o := .lst []) w1 ⟨_, upd_same, .nil⟩
    exact c _ _ _ _ _ s' m' .non w2
  | join =>
    refine MtR.imp mt_join ?_
    rintro x vs H Q ⟨F, h, d, ds, Q0, m, r, rs, w, c⟩
    obtain ⟨y, rfl, s, xs, ys, rfl, w1, w2, w3, w4⟩ := wMT_1 w (fun _ z => z)
    cases rs with
    | cons r1 rs =>
      cases rs
      obtain ⟨a, ws, rfl, q, rr⟩ := rsv_lst m r1 w1
      obtain ⟨e, o⟩ := allStr_V rr w2
      subst e
      obtain ⟨rfl, os⟩ := r.strV
      refine ⟨strOf s, a, ys.map strOf, rfl, rfl, .inl (.inl (.inl q)), ?_, ?_⟩
      · have e1 : (ys.map strOf).map (·.length) = ys.map (·.length) := by
          rw [List.map_map]
          refine List.map_congr_left fun z _ => ?_
          exact strOf_len z
        rw [e1, List.length_map, strOf_len]
        exact w3
      · have e2 : Txt.join (strOf s) (ys.map strOf) = strOf (TL.joinL s ys) := by
          rw [TL.join_eq]
          refine TL.ext_tl ?_
          rw [TL.tl_join, List.map_map]
          have e3 : ys.map (TL.tl ∘ strOf) = ys := by
            rw [show (TL.tl ∘ strOf) = id from rfl, List.map_id]
          rw [e3]; rfl
        rw [e2]
        exact c.now m (.str _ (joinL_ok os o)) w4
  | split fz =>
    refine MtR.imp mt_split ?_
    rintro x vs H Q ⟨F, h, d, ds, Q0, m, r, rs, w, c⟩
    obtain ⟨y, rfl, a, s, rfl, rfl, w1, w2, w3, w4⟩ := wMT_1 w (fun _ z => z)
    cases rs with
    | cons r1 rs =>
      cases rs
      obtain ⟨rfl, oa⟩ := r.strV
      obtain ⟨rfl, os⟩ := r1.strV
      refine ⟨strOf a, strOf s, rfl, rfl, ?_, ?_, fun p n => ?_⟩
      · rw [strOf_len]
        cases s with
        | nil => exact absurd rfl w1
        | cons _ _ => rfl
      · rw [strOf_len, ← hl]; exact w3
      · have hk : (strOf s).cps.all (· < 256) = true := by
          rw [Array.all_eq_true']
          intro z hz
          exact decide_eq_true (w2 z (by simpa [strOf] using hz))
        have e := TL.split_spl (strOf a) (strOf s) w1 (TL.kind_ok hk)
        have e1 : Txt.split (strOf a) (strOf s) = (TL.spl s 0 [] a).map strOf := by
          have z : (Txt.split (strOf a) (strOf s)).map TL.tl = ((TL.spl s 0 [] a).map strOf).map TL.tl := by
            rw [e, List.map_map, show (TL.tl ∘ strOf) = id from rfl, List.map_id]; rfl
          exact TL.map_tl_inj z
        rw [e1]
        refine c.lst m (Reps.strs ?_) w4 n
        exact spl_ok oa
  | _ => cases hm
end
end VS

set_option Elab.async false
set_option linter.all false
set_option maxRecDepth 100000
set_option maxHeartbeats 4000000
/-! VS6: the form's expressions against the text. -/
namespace VS
open PySem PySem.Spec PyProof.Rows L2

abbrev XOT := Nat → List D → Value → Option Addr → Hp → Prop
def CnX (R : RC) (XO : XOT) (F : Hp) (h : Hv) (H : Hp) (X0 : XQ) (W : XK) : Prop := ∀ (c : Nat) (fs : List D) (h' : Hv) (F' H' : Hp) (cls : Value) (dx : Option Addr), Step F h H F' h' H' → Sim R F' h' H' → XO c fs cls dx F' → X0 c fs h' → W cls dx H'
def CnL (R : RC) (F : Hp) (h : Hv) (H : Hp) (Q0 : List D → Hv → Prop) (Q : List V → Hp → Prop) : Prop := ∀ (ds : List D) (h' : Hv) (F' H' : Hp) (vs : List V), Step F h H F' h' H' → Sim R F' h' H' → Reps R F' ds vs → Q0 ds h' → Q vs H'
def CnB (R : RC) (F : Hp) (h : Hv) (H : Hp) (Q0 : Bool → Hv → Prop) (Q : Bool → Hp → Prop) : Prop := ∀ (b : Bool) (h' : Hv) (F' H' : Hp), Step F h H F' h' H' → Sim R F' h' H' → Q0 b h' → Q b H'
def CnO (R : RC) (F : Hp) (h : Hv) (H : Hp) (Q0 : Option Int → Hv → Prop) (Q : Option Int → Hp → Prop) : Prop := ∀ (b : Option Int) (h' : Hv) (F' H' : Hp), Step F h H F' h' H' → Sim R F' h' H' → Q0 b h' → Q b H'
theorem CnX.step {R : RC} {XO : XOT} {F F1 H H1 : Hp} {h h1 : Hv} {X0 : XQ} {W : XK} (c : CnX R XO F h H X0 W) (s : Step F h H F1 h1 H1) : CnX R XO F1 h1 H1 X0 W := fun k fs h' F' H' cls dx s' m r q => c k fs h' F' H' cls dx (s.trans s') m r q

section
variable (R : RC) (XO : XOT) (W : WX) (T : Tab)
def tE (e : E) : TE := fun σ H Q => ∃ F h r Q0 X0, Sim R F h H ∧ REnv R F r σ ∧ wE T e r h Q0 X0 ∧ Cn R F h H Q0 Q ∧ CnX R XO F h H X0 fun c d H' => W c d σ H'
def tEs (e : Es) : TA := fun σ H Q => ∃ F h r Q0 X0, Sim R F h H ∧ REnv R F r σ ∧ wEs T e r h Q0 X0 ∧ CnL R F h H Q0 Q ∧ CnX R XO F h H X0 fun c d H' => W c d σ H'
def tAn (e : Es) : TE := fun σ H Q => ∃ F h r Q0 X0, Sim R F h H ∧ REnv R F r σ ∧ wAnd T e r h Q0 X0 ∧ Cn R F h H Q0 Q ∧ CnX R XO F h H X0 fun c d H' => W c d σ H'
def tOr' (e : Es) : TE := fun σ H Q => ∃ F h r Q0 X0, Sim R F h H ∧ REnv R F r σ ∧ wOr T e r h Q0 X0 ∧ Cn R F h H Q0 Q ∧ CnX R XO F h H X0 fun c d H' => W c d σ H'
def tO (e : O) : TO := fun σ H Q => ∃ F h r Q0 X0, Sim R F h H ∧ REnv R F r σ ∧ wO T e r h Q0 X0 ∧ CnO R F h H Q0 Q ∧ CnX R XO F h H X0 fun c d H' => W c d σ H'
def tC (e : C) : TT := fun σ H Q => ∃ F h r Q0 X0, Sim R F h H ∧ REnv R F r σ ∧ wC T e r h Q0 X0 ∧ CnB R F h H Q0 Q ∧ CnX R XO F h H X0 fun c d H' => W c d σ H'
def tAC (e : Cs) : TT := fun σ H Q => ∃ F h r Q0 X0, Sim R F h H ∧ REnv R F r σ ∧ wAndC T e r h Q0 X0 ∧ CnB R F h H Q0 Q ∧ CnX R XO F h H X0 fun c d H' => W c d σ H'
def tOC (e : Cs) : TT := fun σ H Q => ∃ F h r Q0 X0, Sim R F h H ∧ REnv R F r σ ∧ wOrC T e r h Q0 X0 ∧ CnB R F h H Q0 Q ∧ CnX R XO F h H X0 fun c d H' => W c d σ H'
/-- an iterator walks these items -/
def Wk (F1 : Hp) (J : L2.It) (xs : List D) (ok : Hv → Prop) : Prop := ∀ F h H, Same F1 F → Sim R F h H → ok h →
  (∀ i, i < xs.length → J.go i H ∧ ∀ x H', J.yld i H x H' → ∃ F' d, Step F h H F' h H' ∧ Sim R F' h H' ∧ xs[i]? = some d ∧ Rep R F' d x) ∧ J.stop xs.length H
def tI (it : It) : TI := fun σ H Q => ∃ F h r Q0 X0, Sim R F h H ∧ REnv R F r σ ∧ wI T it r h Q0 X0 ∧
  (∀ xs ok h' F' H' J, Step F h H F' h' H' → Sim R F' h' H' → ok h' → Wk R F' J xs ok → xs.length ≤ lim → Q0 xs ok h' → Q J H') ∧ CnX R XO F h H X0 fun c d H' => W c d σ H'
end

/-! ### the static part -/
structure SI where
  fns : List Str
  gls : List Str
def bltNames : List Str := ["len", "abs", "min", "max", "int", "str", "list", "tuple", "all", "any", "sum", "sorted", "isinstance", "range", "enumerate", "zip", "bool", "dict"]
def visB (sc : Scope) (x : Str) : Bool := match sc.names.lookup x with
  | some .local => true | some .cell => true | some .free => true | _ => false
def glB (sc : Scope) (x : Str) : Bool := match sc.names.lookup x with
  | some .globalImplicit => true | _ => false
theorem vis_of {sc : Scope} {x : Str} (h : visB sc x = true) : Vis sc x := by
  unfold visB at h
  unfold Vis
  split at h <;> simp_all
theorem gl_of {sc : Scope} {x : Str} (h : glB sc x = true) : sc.names.lookup x = some .globalImplicit := by
  unfold glB at h
  split at h
  · assumption
  · cases h
def nodbg (x : Str) : Bool := !(x == ("__debug__" : Str)) && !(x == ("__classdict__" : Str))
theorem nodbg1 {x : Str} (h : nodbg x = true) : (x == ("__debug__" : Str)) = false := by
  unfold nodbg at h
  rw [Bool.and_eq_true] at h
  simpa using h.1
theorem nodbg2 {x : Str} (h : nodbg x = true) : (x == ("__classdict__" : Str)) = false := by
  unfold nodbg at h
  rw [Bool.and_eq_true] at h
  simpa using h.2
def noStar : Expr → Bool
  | .Starred _ _ => false
  | _ => true
theorem noStar_each {e : Expr} {es : List Expr} {env : PySem.Env} (h : noStar e = true) : starEach (e :: es) env = (false, eval e env) :: starEach es env := by
  cases e <;> first | rfl | cases h
theorem noStars {env : PySem.Env} {pos : Pos} : ∀ {es : List Expr}, es.all noStar = true → (backTo pos (starEach es env)).any (·.1) = false
  | [], _ => rfl
  | e :: es, h => by
    rw [List.all_cons, Bool.and_eq_true] at h
    rw [noStar_each h.1]
    show (false || (backTo pos (starEach es env)).any (·.1)) = false
    rw [noStars h.2]; rfl
theorem noStarsA {env : PySem.Env} {pos : Pos} : ∀ {es : List Expr}, es.all noStar = true → (backTo pos (starEach es env)).all (fun x => !x.1) = true
  | [], _ => rfl
  | e :: es, h => by
    rw [List.all_cons, Bool.and_eq_true] at h
    rw [noStar_each h.1]
    show (!false && (backTo pos (starEach es env)).all (fun x => !x.1)) = true
    rw [noStarsA h.2]; rfl
def noSet : Expr → Bool
  | .Set _ _ _ => false
  | _ => true
theorem noSet_mark {e : Expr} {op : CmpOp} (h : noSet e = true) : behindInMarks op e = false := by
  cases e <;> first | rfl | cases h
theorem noSet_fold {e : Expr} {env : PySem.Env} (h : noSet e = true) : ∀ x, foldedSetIterable e env x = pure x := by
  intro x
  cases e <;> first | rfl | cases h
def noSlice : Expr → Bool
  | .Slice _ _ _ _ => false
  | _ => true
theorem noSlice_ix {e : Expr} (h : noSlice e = true) : PlainIx e := by
  intro o i
  cases e <;> first | rfl | cases h
def plainT : Expr → Bool
  | .UnaryOp .Not _ _ => false
  | .BoolOp _ _ _ => false
  | .IfExp _ _ _ _ => false
  | .Compare _ _ _ _ => false
  | _ => true
theorem plainT_is {e : Expr} {env : PySem.Env} (h : plainT e = true) : ∀ whole, isTrue e env whole = (do let v ← whole; standAt e.pos; holding [v] (truthy v)) := by
  intro whole
  cases e <;> first | rfl | cases h | skip
  rename_i op _ _
  cases op <;> first | rfl | cases h
def baseOk : Expr → Bool
  | .Call _ [] _ _ => false
  | _ => true
theorem baseOk_is {o : Expr} {a : Str} {env : PySem.Env} (h : baseOk o = true) : attributeBase o a env (eval o env) = eval o env := by
  cases o <;> first | rfl | skip
  rename_i f as ks p
  cases as with
  | nil => cases h
  | cons _ _ => cases f <;> rfl
def cstB : D → Const → Bool
  | .non, .none => true
  | .bl a, .bool b => a == b
  | .int a, .int b => a == b
  | .str a, .str b => b.cps.toList == a && a.all (· < 1114112)
  | _, _ => false
def kdNm : Kd → Str
  | .non => "NoneType" | .int => "int" | .bool => "bool" | .str => "str" | .tuple => "tuple" | .list => "list" | .dict => "dict"
def kdTy : Kd → String
  | .non => "NoneType" | .int => "int" | .bool => "bool" | .str => "str" | .tuple => "tuple" | .list => "list" | .dict => "dict"
/-- a built-in class by its name -/
def tyNm (sc : Scope) (k : Kd) : Expr → Bool
  | .Name x _ => x == kdNm k && glB sc x && !(k == .non)
  | _ => false
def tyNms (sc : Scope) : List Kd → List Expr → Bool
  | [], [] => true
  | k :: ks, x :: xs => tyNm sc k x && tyNms sc ks xs
  | _, _ => false
def tyB (sc : Scope) : List Kd → Expr → Bool
  | [k], .Name x p => tyNm sc k (.Name x p)
  | ks, .Tuple xs _ _ => tyNms sc ks xs
  | _, _ => false
mutual
def Tg.slots : Tg → List Nat
  | .nm i => [i]
  | .tp ts => Tgs.slots ts
def Tgs.slots : Tgs → List Nat
  | .nil => []
  | .cons t ts => Tg.slots t ++ Tgs.slots ts
end
def stoB (sc : Scope) (allc : Bool) (x : Str) : Bool := match sc.names.lookup x with
  | some .local => true | some .cell => allc | _ => false
mutual
def mTg (N : List Str) (sc : Scope) (allc : Bool) : Tg → Expr → Bool
  | .nm i, .Name x _ => N[i]? == some x && stoB sc allc x
  | .tp ts, .Tuple xs _ _ => mTgs N sc allc ts xs
  | _, _ => false
def mTgs (N : List Str) (sc : Scope) (allc : Bool) : Tgs → List Expr → Bool
  | .nil, [] => true
  | .cons t ts, x :: xs => mTg N sc allc t x && mTgs N sc allc ts xs
  | _, _ => false
end
def isTupX : Expr → Bool
  | .Tuple _ _ _ => true
  | _ => false
def zr : Pos := ⟨0, 0, 0, 0⟩
section
variable (I : SI) (N : List Str)
mutual
def mE (sc : Scope) : E → Expr → Bool
  | .var i, x => match x with
    | .Name id _ => N[i]? == some id && visB sc id && nodbg id
    | _ => false
  | .cst d, x => match x with
    | .Constant c _ _ => cstB d c
    | _ => false
  | .glob i, x => match x with
    | .Name id _ => I.gls[i]? == some id && glB sc id && nodbg id
    | _ => false
  | .bop _ o a b, x => match x with
    | .BinOp l op r _ => op == bopOf o && mE sc a l && mE sc b r
    | _ => false
  | .neg a, x => match x with
    | .UnaryOp .USub y _ => mE sc a y
    | _ => false
  | .not a, x => match x with
    | .UnaryOp .Not y _ => mE sc a y
    | _ => false
  | .cmp o a b, x => match x with
    | .Compare l [op] [r] _ => op == copOf o && mE sc a l && mE sc b r && noSet r
    | _ => false
  | .chn o o' a b c, x => match x with
    | .Compare l [p, q] [y, z] _ => p == copOf o && q == copOf o' && mE sc a l && mE sc b y && mE sc c z && noSet z
    | _ => false
  | .andv as, x => match x with
    | .BoolOp .And vs _ => mEs sc as vs
    | _ => false
  | .orv as, x => match x with
    | .BoolOp .Or vs _ => mEs sc as vs
    | _ => false
  | .ite c a b, x => match x with
    | .IfExp t y z _ => mC sc c t && mE sc a y && mE sc b z
    | _ => false
  | .tup as, x => match x with
    | .Tuple xs _ _ => mEs sc as xs
    | _ => false
  | .lst _ as, x => match x with
    | .List xs _ => mEs sc as xs
    | _ => false
  | .ix a i, x => match x with
    | .Subscript y z _ => mE sc a y && mE sc i z && noSlice z
    | _ => false
  | .slc _ a lo hi, x => match x with
    | .Subscript y (.Slice l u none _) _ => mE sc a y && mO sc lo l && mO sc hi u
    | _ => false
  | .rev _ a, x => match x with
    | .Subscript y (.Slice none none (some (.UnaryOp .USub (.Constant (.int 1) _ _) _)) _) _ => mE sc a y
    | _ => false
  | .call f as, x => match x with
    | .Call (.Name id _) (y :: ys) [] _ => I.fns[f]? == some id && glB sc id && nodbg id && mEs sc as (y :: ys)
    | _ => false
  | .bi b as, x => match x with
    | .Call (.Name id _) (y :: ys) [] _ => id == biNm b && glB sc id && mEs sc as (y :: ys)
    | _ => false
  | .lrng1 _ a, x => match x with
    | .Call (.Name id _) [.Call (.Name id2 _) [y] [] _] [] _ => id == "list" && id2 == "range" && glB sc id && glB sc id2 && mE sc a y && noStar y
    | _ => false
  | .lrng2 _ a b, x => match x with
    | .Call (.Name id _) [.Call (.Name id2 _) [y, z] [] _] [] _ => id == "list" && id2 == "range" && glB sc id && glB sc id2 && mE sc a y && mE sc b z && noStar y && noStar z
    | _ => false
  | .isi a tys, x => match x with
    | .Call (.Name id _) [y, t] [] _ => id == "isinstance" && glB sc id && mE sc a y && noStar y && tyB sc tys t && decide (tys.length ≤ 1000)
    | _ => false
  | .isx _ _, _ => false
  | .fld _ _, _ => false
  | .mt m o as, x => match x with
    | .Call (.Attribute y nm ap) xs [] cp => nm == mtNm m && mtOk m && mE sc o y && mEs sc as xs && ap.endLine == cp.line && decide (xs.length < 20) && baseOk y
    | _ => false
  | .comp _ elt tg own it cnd, x => match x with
    | .ListComp el [⟨t, itx, ifs, 0⟩] scope _ => mI sc it t itx && noSet itx && blkC N sc scope own && mTg N (relS scope sc) false tg t && (Tg.slots tg).all (fun i => (own.map (·.2)).contains i)
        && mE (relS scope sc) elt el && mCs (relS scope sc) cnd ifs && decide (ifs.length ≤ 1)
    | _ => false
  | .frz a, x => mE sc a x
  | .dnew _, x => match x with
    | .Dict [] [] _ => true
    | _ => false
def mEs (sc : Scope) : Es → List Expr → Bool
  | .nil, xs => match xs with
    | [] => true
    | _ => false
  | .cons e es, xs => match xs with
    | x :: r => mE sc e x && noStar x && mEs sc es r
    | [] => false
def mO (sc : Scope) : O → Option Expr → Bool
  | .none, x => match x with
    | none => true
    | some _ => false
  | .some e, x => match x with
    | some y => mE sc e y
    | none => false
def mC (sc : Scope) : C → Expr → Bool
  | .val e, x => mE sc e x && plainT x
  | .cmp o a b, x => match x with
    | .Compare l [op] [r] _ => op == copOf o && mE sc a l && mE sc b r && noSet r
    | _ => false
  | .chn o o' a b c, x => match x with
    | .Compare l [p, q] [y, z] _ => p == copOf o && q == copOf o' && mE sc a l && mE sc b y && mE sc c z && noSet z
    | _ => false
  | .not c, x => match x with
    | .UnaryOp .Not y _ => mC sc c y
    | _ => false
  | .and cs, x => match x with
    | .BoolOp .And vs _ => mCs sc cs vs && !vs.isEmpty
    | _ => false
  | .or cs, x => match x with
    | .BoolOp .Or vs _ => mCs sc cs vs && !vs.isEmpty
    | _ => false
def mCs (sc : Scope) : Cs → List Expr → Bool
  | .nil, xs => match xs with
    | [] => true
    | _ => false
  | .cons e es, xs => match xs with
    | x :: r => mC sc e x && mCs sc es r
    | [] => false
/-- against the target and what is walked -/
def mI (sc : Scope) : It → Expr → Expr → Bool
  | .seq a, _, x => mE sc a x
  | .rng1 a, _, x => match x with
    | .Call (.Name id _) [y] [] _ => id == "range" && glB sc id && mE sc a y && noStar y
    | _ => false
  | .rng2 a b, _, x => match x with
    | .Call (.Name id _) [y, z] [] _ => id == "range" && glB sc id && mE sc a y && mE sc b z && noStar y && noStar z
    | _ => false
  | .enm a, t, x => match x with
    | .Call (.Name id _) [y] [] _ => id == "enumerate" && glB sc id && mE sc a y && noStar y && isTupX t
    | _ => false
  | .zip2 a b, t, x => match x with
    | .Call (.Name id _) [y, z] [] _ => id == "zip" && glB sc id && mE sc a y && mE sc b z && noStar y && noStar z && isTupX t
    | _ => false
  | .zip3 _ _ _, _, _ => false
  | .sgn a, _, x => mE sc a x
end
end

/-! ### a def's promise -/
def lift (R : RC) (XO : XOT) (sp : VSp) : Sp := fun vs H Q E => ∃ F h ds Q0 X0, Sim R F h H ∧ Reps R F ds vs ∧ sp ds h Q0 X0 ∧ Cn R F h H Q0 Q ∧ CnX R XO F h H X0 E
/-- what stands around a body -/
structure Good (I : SI) (R : RC) (XO : XOT) (T : Tab) (lev : Nat) (N : List Str) (sc : Scope) (allc : Bool) (X : Cx) : Prop where
  hN : X.N = N
  nd : N.Nodup
  hsc : X.env.scope = sc
  calm : X.calm = true
  room : Room lev X.A
  hK : R.K = X.K
  kc : T.kc = R.kc
  fnc : allc = true → ∀ x, X.fn x = true
  fns : ∀ (f : Nat) (x : Str), I.fns[f]? = some x → ∃ (a : Addr) (fd : FuncData) (ps : List Str), X.mg x = some (.ref a) ∧ PySem.W.keepIn X.K (.ref a) = true ∧ Binds X.K fd ps [] ∧ FnOk X.prog X.w X.K X.mg X.base (L2.CX X.prog X.w) lev a fd ps (lift R XO (T.fn f))
  gls : ∀ (i : Nat) (x : Str) (d : D), I.gls[i]? = some x → T.glob i = some d → ∃ u v, X.mg x = some u ∧ RelV v u ∧ ∀ F, Rep R F d v
  blt : ∀ x ∈ bltNames, X.mg x = none
  po : PassesOwn (model X.prog X.w) X.A X.env X.xe
end VS

set_option Elab.async false
set_option linter.all false
set_option maxRecDepth 100000
set_option maxHeartbeats 4000000
/-! VS7: each form keeps its meaning. -/
namespace VS
open PySem PySem.Spec PyProof.Rows L2

theorem PE.imp {X : Cx} {e : Expr} {t t' : TE} (h : PE X e t) (k : ∀ σ H Q, t' σ H Q → t σ H Q) : PE X e t' := ⟨fun pins s σ H Q I q => h.run pins s σ H Q I (k _ _ _ q)⟩
theorem PT.imp {X : Cx} {e : Expr} {t t' : TT} (h : PT X e t) (k : ∀ σ H Q, t' σ H Q → t σ H Q) : PT X e t' := ⟨fun pins s σ H Q I q => h.run pins s σ H Q I (k _ _ _ q)⟩
theorem PW.imp {X : Cx} {e : Expr} {t t' : TT} (h : PW X e t) (k : ∀ σ H Q, t' σ H Q → t σ H Q) : PW X e t' := ⟨fun wh pins s σ H Q I q => h.run wh pins s σ H Q I (k _ _ _ q)⟩
theorem PA.imp {X : Cx} {e : List Expr} {t t' : TA} (h : PA X e t) (k : ∀ σ H Q, t' σ H Q → t σ H Q) : PA X e t' := ⟨fun pos pins s σ H Q I q => h.run pos pins s σ H Q I (k _ _ _ q)⟩
theorem PI.imp {X : Cx} {tg e : Expr} {t t' : TI} (h : PI X tg e t) (k : ∀ σ H Q, t' σ H Q → t σ H Q) : PI X tg e t' := ⟨fun pins s σ H Q I q => h.run pins s σ H Q I (k _ _ _ q)⟩
theorem PO.imp {X : Cx} {e : Option Expr} {t t' : TO} (h : PO X e t) (k : ∀ σ H Q, t' σ H Q → t σ H Q) : PO X e t' := ⟨fun pins s σ H Q I q => h.run pins s σ H Q I (k _ _ _ q)⟩

section
variable {I : SI} {R : RC} {XO : XOT} {W : WX} {T : Tab} {lev : Nat} {N : List Str} {sc : Scope} {allc : Bool} {X : Cx}
/-- what follows a part: the part's own reading, from a wish that the meaning's rest gives -/
theorem seqE {e : E} {F : Hp} {h : Hv} {r : VS.Env} {σ : L2.St} {H : Hp} {Q0 : QD} {X0 : XQ} {Q : VK} (m : Sim R F h H) (re : REnv R F r σ) (w : wE T e r h Q0 X0) (cx : CnX R XO F h H X0 fun c d H' => W c d σ H')
    (k : ∀ (d : D) (h1 : Hv) (F1 H1 : Hp) (v : V), Step F h H F1 h1 H1 → Sim R F1 h1 H1 → Rep R F1 d v → REnv R F1 r σ → (CnX R XO F1 h1 H1 X0 fun c d H' => W c d σ H') → Q0 d h1 → Q v H1) : tE R XO W T e σ H Q :=
  ⟨F, h, r, Q0, X0, m, re, w, fun d h1 F1 H1 v s m1 r1 q => k d h1 F1 H1 v s m1 r1 (re.mono s.fs) (cx.step s) q, cx⟩
theorem seqC {e : C} {F : Hp} {h : Hv} {r : VS.Env} {σ : L2.St} {H : Hp} {Q0 : Bool → Hv → Prop} {X0 : XQ} {Q : Bool → Hp → Prop} (m : Sim R F h H) (re : REnv R F r σ) (w : wC T e r h Q0 X0) (cx : CnX R XO F h H X0 fun c d H' => W c d σ H')
    (k : ∀ (d : Bool) (h1 : Hv) (F1 H1 : Hp), Step F h H F1 h1 H1 → Sim R F1 h1 H1 → REnv R F1 r σ → (CnX R XO F1 h1 H1 X0 fun c d H' => W c d σ H') → Q0 d h1 → Q d H1) : tC R XO W T e σ H Q :=
  ⟨F, h, r, Q0, X0, m, re, w, fun d h1 F1 H1 s m1 q => k d h1 F1 H1 s m1 (re.mono s.fs) (cx.step s) q, cx⟩
theorem seqEs {e : Es} {F : Hp} {h : Hv} {r : VS.Env} {σ : L2.St} {H : Hp} {Q0 : List D → Hv → Prop} {X0 : XQ} {Q : List V → Hp → Prop} (m : Sim R F h H) (re : REnv R F r σ) (w : wEs T e r h Q0 X0) (cx : CnX R XO F h H X0 fun c d H' => W c d σ H')
    (k : ∀ (d : List D) (h1 : Hv) (F1 H1 : Hp) (v : List V), Step F h H F1 h1 H1 → Sim R F1 h1 H1 → Reps R F1 d v → REnv R F1 r σ → (CnX R XO F1 h1 H1 X0 fun c d H' => W c d σ H') → Q0 d h1 → Q v H1) : tEs R XO W T e σ H Q :=
  ⟨F, h, r, Q0, X0, m, re, w, fun d h1 F1 H1 v s m1 r1 q => k d h1 F1 H1 v s m1 r1 (re.mono s.fs) (cx.step s) q, cx⟩
theorem seqO {e : O} {F : Hp} {h : Hv} {r : VS.Env} {σ : L2.St} {H : Hp} {Q0 : Option Int → Hv → Prop} {X0 : XQ} {Q : Option Int → Hp → Prop} (m : Sim R F h H) (re : REnv R F r σ) (w : wO T e r h Q0 X0) (cx : CnX R XO F h H X0 fun c d H' => W c d σ H')
    (k : ∀ (d : Option Int) (h1 : Hv) (F1 H1 : Hp), Step F h H F1 h1 H1 → Sim R F1 h1 H1 → REnv R F1 r σ → (CnX R XO F1 h1 H1 X0 fun c d H' => W c d σ H') → Q0 d h1 → Q d H1) : tO R XO W T e σ H Q :=
  ⟨F, h, r, Q0, X0, m, re, w, fun d h1 F1 H1 s m1 q => k d h1 F1 H1 s m1 (re.mono s.fs) (cx.step s) q, cx⟩

theorem s_var {i : Nat} {id : Str} {p : Pos} (G : Good I R XO T lev N sc allc X) (h1 : N[i]? = some id) (h2 : visB sc id = true) (h3 : nodbg id = true) : PE X (.Name id p) (tE R XO W T (.var i)) := by
  refine PE.imp (pe_var (i := i) (by rw [G.hN]; exact h1) (by rw [G.hsc]; exact vis_of h2) (nodbg1 h3) (nodbg2 h3)) ?_
  rintro σ H Q ⟨F, h, r, Q0, X0, m, re, w, c, cx⟩
  obtain ⟨d, e, w⟩ := w
  obtain ⟨v, e2, rp⟩ := re.2 i d e
  exact ⟨v, e2, c.now m rp w⟩
theorem s_cst {d : D} {c : Const} {k : Nat} {p : Pos} (h : cstB d c = true) : PE X (.Constant c k p) (tE R XO W T (.cst d)) := by
  cases d <;> cases c <;> first | cases h | skip
  · refine PE.imp pe_non ?_
    rintro σ H Q ⟨F, h, r, Q0, X0, m, re, w, c, cx⟩
    exact c.now m .non w
  · rename_i a b
    have e : a = b := by simpa [cstB] using h
    subst e
    refine PE.imp pe_bl ?_
    rintro σ H Q ⟨F, h, r, Q0, X0, m, re, w, c, cx⟩
    exact c.ofBl m w
  · rename_i a b
    have e : a = b := by simpa [cstB] using h
    subst e
    refine PE.imp pe_int ?_
    rintro σ H Q ⟨F, h, r, Q0, X0, m, re, w, c, cx⟩
    exact c.ofInt m w
  · rename_i a b
    have h' : (b.cps.toList == a && a.all (· < 1114112)) = true := h
    rw [Bool.and_eq_true, beq_iff_eq, List.all_eq_true] at h'
    obtain ⟨e, o⟩ := h'
    have eb : b = strOf a := TL.ext_tl (by rw [← e]; rfl)
    subst eb
    refine PE.imp pe_str ?_
    rintro σ H Q ⟨F, h, r, Q0, X0, m, re, w, c, cx⟩
    exact c.now m (.str a fun z hz => by simpa using o z hz) w
theorem gl_X {x : Str} (G : Good I R XO T lev N sc allc X) (h : glB sc x = true) : Gl X x := by
  show X.env.scope.names.lookup x = _
  rw [G.hsc]; exact gl_of h
theorem s_glob {i : Nat} {id : Str} {p : Pos} (G : Good I R XO T lev N sc allc X) (h1 : I.gls[i]? = some id) (h2 : glB sc id = true) (h3 : nodbg id = true) : PE X (.Name id p) (tE R XO W T (.glob i)) := by
  cases q : T.glob i with
  | none =>
    refine ⟨fun pins s σ H Q I0 h => ?_⟩
    obtain ⟨F, h, r, Q0, X0, m, re, w, c, cx⟩ := h
    obtain ⟨d, e, w⟩ := w
    rw [q] at e; cases e
  | some d =>
    obtain ⟨u, v, e1, e2, e3⟩ := G.gls i id d h1 q
    refine PE.imp (pe_glob (gl_X G h2) e1 e2 (nodbg1 h3)) ?_
    rintro σ H Q ⟨F, h, r, Q0, X0, m, re, w, c, cx⟩
    obtain ⟨d', e, w⟩ := w
    rw [q] at e; cases e
    exact c.now m (e3 F) w
theorem s_bop {fz : Bool} {o : BOp} {a b : E} {x y : Expr} {p : Pos} (G : Good I R XO T lev N sc allc X) (ha : PE X x (tE R XO W T a)) (hb : PE X y (tE R XO W T b)) : PE X (.BinOp x (bopOf o) y p) (tE R XO W T (.bop fz o a b)) := by
  refine PE.imp (pe_op (op_D G.hK (fz := fz) o) ha hb) ?_
  rintro σ H Q ⟨F, h, r, Q0, X0, m, re, w, c, cx⟩
  refine seqE m re w cx fun d h1 F1 H1 v s1 m1 r1 re1 cx1 w1 => ?_
  refine seqE m1 re1 w1 cx1 fun e h2 F2 H2 u s2 m2 r2 re2 cx2 w2 => ?_
  exact ⟨F2, h2, d, e, Q0, m2, r1.mono s2.fs, r2, w2, (c.step s1).step s2⟩
theorem s_neg {a : E} {x : Expr} {p : Pos} (ha : PE X x (tE R XO W T a)) : PE X (.UnaryOp .USub x p) (tE R XO W T (.neg a)) := by
  refine PE.imp (pe_un un_neg ha) ?_
  rintro σ H Q ⟨F, h, r, Q0, X0, m, re, w, c, cx⟩
  refine seqE m re w cx fun d h1 F1 H1 v s1 m1 r1 re1 cx1 w1 => ?_
  obtain ⟨i, rfl, w1⟩ := w1
  exact ⟨i, r1.intV, (c.step s1).ofInt m1 w1⟩
theorem s_not {a : E} {x : Expr} {p : Pos} (ha : PE X x (tE R XO W T a)) : PE X (.UnaryOp .Not x p) (tE R XO W T (.not a)) := by
  refine PE.imp (pe_not ha) ?_
  rintro σ H Q ⟨F, h, r, Q0, X0, m, re, w, c, cx⟩
  refine seqE m re w cx fun d h1 F1 H1 v s1 m1 r1 re1 cx1 w1 => ?_
  obtain ⟨i, rfl, w1⟩ := w1
  exact ⟨i, r1.blV, (c.step s1).ofBl m1 w1⟩
theorem s_cmp {o : COp} {a b : E} {x y : Expr} {p : Pos} (G : Good I R XO T lev N sc allc X) (hn : noSet y = true) (ha : PE X x (tE R XO W T a)) (hb : PE X y (tE R XO W T b)) : PE X (.Compare x [copOf o] [y] p) (tE R XO W T (.cmp o a b)) := by
  refine PE.imp (pe_cmpR (cop_D G.hK (by have := G.room.un; omega) o) ha hb (noSet_mark hn)) ?_
  rintro σ H Q ⟨F, h, r, Q0, X0, m, re, w, c, cx⟩
  refine seqE m re w cx fun d h1 F1 H1 v s1 m1 r1 re1 cx1 w1 => ?_
  refine seqE m1 re1 w1 cx1 fun e h2 F2 H2 u s2 m2 r2 re2 cx2 w2 => ?_
  rw [G.kc] at w2
  exact ⟨F2, h2, d, e, _, m2, r1.mono s2.fs, r2, w2, fun b q => ((c.step s1).step s2).ofBl m2 q⟩
theorem t_cmp {o : COp} {a b : E} {x y : Expr} {p : Pos} (G : Good I R XO T lev N sc allc X) (hn : noSet y = true) (ha : PE X x (tE R XO W T a)) (hb : PE X y (tE R XO W T b)) : PT X (.Compare x [copOf o] [y] p) (tC R XO W T (.cmp o a b)) := by
  refine PT.imp (pt_cmpR (cop_D G.hK (by have := G.room.un; omega) o) ha hb (noSet_mark hn)) ?_
  rintro σ H Q ⟨F, h, r, Q0, X0, m, re, w, c, cx⟩
  refine seqE m re w cx fun d h1 F1 H1 v s1 m1 r1 re1 cx1 w1 => ?_
  refine seqE m1 re1 w1 cx1 fun e h2 F2 H2 u s2 m2 r2 re2 cx2 w2 => ?_
  rw [G.kc] at w2
  exact ⟨F2, h2, d, e, _, m2, r1.mono s2.fs, r2, w2, fun b q => ⟨b, rfl, c b h2 F2 H2 (s1.trans s2) m2 q⟩⟩
theorem lastM {o o' : CmpOp} {y z : Expr} (hn : noSet z = true) : lastMarks [o, o'] [y, z] = false := noSet_mark (op := o') hn
theorem iteB {c : Bool} {A B : Prop} (h1 : c = true → A) (h2 : c = false → B) : if c = true then A else B := by
  cases c with
  | true => rw [if_pos rfl]; exact h1 rfl
  | false => rw [if_neg Bool.false_ne_true]; exact h2 rfl
theorem s_chn {o o' : COp} {a b e : E} {x y z : Expr} {p : Pos} (G : Good I R XO T lev N sc allc X) (hn : noSet z = true) (ha : PE X x (tE R XO W T a)) (hb : PE X y (tE R XO W T b)) (hc : PE X z (tE R XO W T e)) :
    PE X (.Compare x [copOf o, copOf o'] [y, z] p) (tE R XO W T (.chn o o' a b e)) := by
  have hu : X.A.units + 66 < cLine := by have := G.room.un; omega
  refine PE.imp (pe_chain (cop_D G.hK hu o) (cop_D G.hK hu o') ha hb hc (lastM hn)) ?_
  rintro σ H Q ⟨F, h, r, Q0, X0, m, re, w, c, cx⟩
  refine seqE m re w cx fun d h1 F1 H1 v s1 m1 r1 re1 cx1 w1 => ?_
  refine seqE m1 re1 w1 cx1 fun d2 h2 F2 H2 u s2 m2 r2 re2 cx2 w2 => ?_
  rw [G.kc] at w2
  refine ⟨F2, h2, d, d2, _, m2, r1.mono s2.fs, r2, w2, fun k q => ⟨k, rfl, iteB (fun hk => ?_) fun hk => ?_⟩⟩
  · refine seqE m2 re2 (q.1 hk) cx2 fun d3 h3 F3 H3 u3 s3 m3 r3 re3 cx3 w3 => ?_
    exact ⟨F3, h3, d2, d3, _, m3, r2.mono s3.fs, r3, w3, fun b q => (((c.step s1).step s2).step s3).ofBl m3 q⟩
  · exact ((c.step s1).step s2).ofBl m2 (q.2 hk)
theorem t_chn {o o' : COp} {a b e : E} {x y z : Expr} {p : Pos} (G : Good I R XO T lev N sc allc X) (hn : noSet z = true) (ha : PE X x (tE R XO W T a)) (hb : PE X y (tE R XO W T b)) (hc : PE X z (tE R XO W T e)) :
    PT X (.Compare x [copOf o, copOf o'] [y, z] p) (tC R XO W T (.chn o o' a b e)) := by
  have hu : X.A.units + 66 < cLine := by have := G.room.un; omega
  refine PT.imp (pt_chain (cop_D G.hK hu o) (cop_D G.hK hu o') ha hb hc (lastM hn)) ?_
  rintro σ H Q ⟨F, h, r, Q0, X0, m, re, w, c, cx⟩
  refine seqE m re w cx fun d h1 F1 H1 v s1 m1 r1 re1 cx1 w1 => ?_
  refine seqE m1 re1 w1 cx1 fun d2 h2 F2 H2 u s2 m2 r2 re2 cx2 w2 => ?_
  rw [G.kc] at w2
  refine ⟨F2, h2, d, d2, _, m2, r1.mono s2.fs, r2, w2, fun k q => ⟨k, rfl, iteB (fun hk => ?_) fun hk => ?_⟩⟩
  · refine seqE m2 re2 (q.1 hk) cx2 fun d3 h3 F3 H3 u3 s3 m3 r3 re3 cx3 w3 => ?_
    exact ⟨F3, h3, d2, d3, _, m3, r2.mono s3.fs, r3, w3, fun b q => ⟨b, rfl, c b h3 F3 H3 ((s1.trans s2).trans s3) m3 q⟩⟩
  · exact ⟨false, rfl, c false h2 F2 H2 (s1.trans s2) m2 (q.2 hk)⟩
theorem s_ite {k : C} {a b : E} {x y z : Expr} {p : Pos} (hk : PT X x (tC R XO W T k)) (ha : PE X y (tE R XO W T a)) (hb : PE X z (tE R XO W T b)) : PE X (.IfExp x y z p) (tE R XO W T (.ite k a b)) := by
  refine PE.imp (pe_ifExp hk ha hb) ?_
  rintro σ H Q ⟨F, h, r, Q0, X0, m, re, w, c, cx⟩
  refine seqC m re w cx fun d h1 F1 H1 s1 m1 re1 cx1 w1 => iteB (fun hd => ?_) fun hd => ?_
  · exact ⟨F1, h1, r, Q0, X0, m1, re1, w1.1 hd, c.step s1, cx1⟩
  · exact ⟨F1, h1, r, Q0, X0, m1, re1, w1.2 hd, c.step s1, cx1⟩
theorem s_tup {as : Es} {xs : List Expr} {k : Nat} {p : Pos} (h : PA X xs (tEs R XO W T as)) : PE X (.Tuple xs k p) (tE R XO W T (.tup as)) := by
  refine PE.imp (pe_tup h) ?_
  rintro σ H Q ⟨F, h, r, Q0, X0, m, re, w, c, cx⟩
  refine seqEs m re w cx fun d h1 F1 H1 v s1 m1 r1 re1 cx1 w1 => ⟨?_, fun q n => ?_⟩
  · rw [← r1.length, ← lim_eq]; exact w1.1
  · exact (c.step s1).tup m1 r1 w1.2 n
theorem s_lst {fz : Bool} {as : Es} {xs : List Expr} {p : Pos} (h : PA X xs (tEs R XO W T as)) : PE X (.List xs p) (tE R XO W T (.lst fz as)) := by
  refine PE.imp (pe_lst h) ?_
  rintro σ H Q ⟨F, h, r, Q0, X0, m, re, w, c, cx⟩
  refine seqEs m re w cx fun d h1 F1 H1 v s1 m1 r1 re1 cx1 w1 => ⟨?_, fun q n => ?_⟩
  · rw [← r1.length, ← lim_eq]; exact w1.1
  · exact (c.step s1).lst m1 r1 w1.2 n
theorem s_ix {a i : E} {x y : Expr} {p : Pos} (G : Good I R XO T lev N sc allc X) (hn : noSlice y = true) (ha : PE X x (tE R XO W T a)) (hb : PE X y (tE R XO W T i)) : PE X (.Subscript x y p) (tE R XO W T (.ix a i)) := by
  refine PE.imp (pe_ix (ix_D G.hK (by have := G.room.un; omega)) ha hb (noSlice_ix hn)) ?_
  rintro σ H Q ⟨F, h, r, Q0, X0, m, re, w, c, cx⟩
  refine seqE m re w cx fun d h1 F1 H1 v s1 m1 r1 re1 cx1 w1 => ?_
  refine seqE m1 re1 w1 cx1 fun e h2 F2 H2 u s2 m2 r2 re2 cx2 w2 => ?_
  rw [G.kc] at w2
  exact ⟨F2, h2, d, e, Q0, m2, r1.mono s2.fs, r2, w2, (c.step s1).step s2⟩
theorem s_slc {fz : Bool} {a : E} {lo hi : O} {x : Expr} {l u : Option Expr} {p p2 : Pos} (G : Good I R XO T lev N sc allc X) (ha : PE X x (tE R XO W T a)) (hl : PO X l (tO R XO W T lo)) (hh : PO X u (tO R XO W T hi)) : PE X (.Subscript x (.Slice l u none p2) p) (tE R XO W T (.slc fz a lo hi)) := by
  refine PE.imp (pe_slice (sl_D G.hK (fz := fz)) ha hl hh) ?_
  rintro σ H Q ⟨F, h, r, Q0, X0, m, re, w, c, cx⟩
  refine seqE m re w cx fun d h1 F1 H1 v s1 m1 r1 re1 cx1 w1 => ?_
  refine seqO m1 re1 w1 cx1 fun e h2 F2 H2 s2 m2 re2 cx2 w2 => ?_
  refine seqO m2 re2 w2 cx2 fun e3 h3 F3 H3 s3 m3 re3 cx3 w3 => ?_
  exact ⟨F3, h3, d, Q0, m3, (r1.mono s2.fs).mono s3.fs, w3, ((c.step s1).step s2).step s3⟩
theorem s_rev {fz : Bool} {a : E} {x : Expr} {k : Nat} {p p1 p2 p3 : Pos} (ha : PE X x (tE R XO W T a)) (G : Good I R XO T lev N sc allc X) : PE X (.Subscript x (.Slice none none (some (.UnaryOp .USub (.Constant (.int 1) k p1) p2)) p3) p) (tE R XO W T (.rev fz a)) := by
  refine PE.imp (pe_revL ha) ?_
  rintro σ H Q ⟨F, h, r, Q0, X0, m, re, w, c, cx⟩
  refine seqE m re w cx fun d h1 F1 H1 v s1 m1 r1 re1 cx1 w1 => ?_
  obtain ⟨xs, e, w1⟩ := w1
  obtain ⟨a', vs, rfl, q, rr⟩ := rsv_lst m1 r1 e
  exact ⟨a', vs, rfl, .inl (.inl q), fun p n => (c.step s1).lst m1 rr.reverse w1 n⟩
theorem s_call {f : Nat} {id : Str} {as : Es} {y : Expr} {ys : List Expr} {p p2 : Pos} (G : Good I R XO T lev N sc allc X) (tk : Takes X W) (h1 : I.fns[f]? = some id) (h2 : glB sc id = true) (h3 : nodbg id = true) (hs : (y :: ys).all noStar = true) (ha : PA X (y :: ys) (tEs R XO W T as)) :
    PE X (.Call (.Name id p) (y :: ys) [] p2) (tE R XO W T (.call f as)) := by
  obtain ⟨a, fd, ps, e1, e2, e3, e4⟩ := G.fns f id h1
  rw [List.all_cons, Bool.and_eq_true] at hs
  refine PE.imp (pe_callSD (dvs := []) (E := fun σ c d H' => W c d σ H') e4 G.room (gl_X G h2) e1 e2 e3 .nil (fun σ => passAt tk σ) ha (nodbg1 h3) (noStar_each hs.1) (noStars hs.2)) ?_
  rintro σ H Q ⟨F, h, r, Q0, X0, m, re, w, c, cx⟩
  refine seqEs m re w cx fun d h1 F1 H1 v s1 m1 r1 re1 cx1 w1 => ?_
  rw [List.append_nil]
  exact ⟨F1, h1, d, Q0, X0, m1, r1, w1, c.step s1, cx1⟩
theorem s_bi {b : BI} {as : Es} {y : Expr} {ys : List Expr} {p p2 : Pos} (G : Good I R XO T lev N sc allc X) (h2 : glB sc (biNm b) = true) (hs : (y :: ys).all noStar = true) (ha : PA X (y :: ys) (tEs R XO W T as)) : PE X (.Call (.Name (biNm b) p) (y :: ys) [] p2) (tE R XO W T (.bi b as)) := by
  rw [List.all_cons, Bool.and_eq_true] at hs
  have hm : X.mg (biNm b) = none := G.blt _ (by cases b <;> (simp only [biNm]; decide +kernel))
  have hn : biNm b ≠ "__name__" := by cases b <;> (simp only [biNm]; decide +kernel)
  have hd : (biNm b == ("__debug__" : Str)) = false := by cases b <;> (simp only [biNm]; decide +kernel)
  have run := bi_D (R := R) G.hK G.calm b
  have fin : PE X (.Call (.Name (biNm b) p) (y :: ys) [] p2) (tCB (rD R (wBI b)) (tEs R XO W T as)) := by
    cases hb : biVl b with
    | builtin id => exact pe_callB (by rw [← hb]; exact run) (gl_X G h2) hm (by rw [bi_boot, hb]) ha hn hd (noStar_each hs.1) (noStars hs.2)
    | type id => exact pe_callTy (by rw [← hb]; exact run) (gl_X G h2) hm (by rw [bi_boot, hb]) ha hn hd (noStar_each hs.1) (noStars hs.2)
    | _ => cases b <;> cases hb
  refine PE.imp fin ?_
  rintro σ H Q ⟨F, h, r, Q0, X0, m, re, w, c, cx⟩
  refine seqEs m re w cx fun d h1 F1 H1 v s1 m1 r1 re1 cx1 w1 => ?_
  exact ⟨F1, h1, d, Q0, m1, r1, w1, c.step s1⟩
theorem s_mt {mt : MT} {o : E} {as : Es} {x : Expr} {xs : List Expr} {ap cp : Pos} (G : Good I R XO T lev N sc allc X) (hm : mtOk mt = true) (hb : baseOk x = true) (hl : (ap.endLine == cp.line) = true) (h20 : xs.length < 20) (hs : xs.all noStar = true)
    (ho : PE X x (tE R XO W T o)) (ha : PA X xs (tEs R XO W T as)) (h0 : xs = [] → as = .nil) : PE X (.Call (.Attribute x (mtNm mt) ap) xs [] cp) (tE R XO W T (.mt mt o as)) := by
  obtain ⟨pa, slot, ty⟩ := mt_fact mt hm
  have run := mt_D (X := X) (R := R) G.hK mt hm
  have tyv : ∀ {F H : Hp} {h : Hv} {d : D} {v : V}, Sim R F h H → Rep R F d v → isRcv mt d h → tyV X.K (mtTy mt) v H := by
    intro F H h d v m r q
    cases mt <;> first | cases hm | skip
    · obtain ⟨xs, e⟩ := q
      obtain ⟨a, vs, rfl, q, _⟩ := rsv_lst m r e
      exact .inl ⟨rfl, vs, .inl (.inl q)⟩
    · obtain ⟨xs, e⟩ := q
      obtain ⟨a, vs, rfl, q, _⟩ := rsv_lst m r e
      exact .inl ⟨rfl, vs, .inl (.inl q)⟩
    · obtain ⟨xs, e⟩ := q
      obtain ⟨a, vs, rfl, q, _⟩ := rsv_lst m r e
      exact .inl ⟨rfl, vs, .inl (.inl q)⟩
    · obtain ⟨s, rfl⟩ := q
      obtain ⟨rfl, _⟩ := r.strV
      rfl
    · obtain ⟨s, rfl⟩ := q
      obtain ⟨rfl, _⟩ := r.strV
      rfl
  cases xs with
  | nil =>
    cases h0 rfl
    refine PE.imp (pe_bm0 pa slot ty run ho (baseOk_is hb) hl) ?_
    rintro σ H Q ⟨F, h, r, Q0, X0, m, re, w, c, cx⟩
    refine seqE m re w cx fun d h1 F1 H1 v s1 m1 r1 re1 cx1 w1 => ⟨tyv m1 r1 w1.1, ?_⟩
    exact ⟨F1, h1, d, [], Q0, m1, r1, .nil, w1.2, c.step s1⟩
  | cons y ys =>
    rw [List.all_cons, Bool.and_eq_true] at hs
    have hfew : ((backTo cp (starEach (y :: ys) X.env)).all (fun x => !x.1) && (backToKw cp (keywordEach [] X.env)).all (fun x => x.1.isSome)
        && decide ((y :: ys).length + ([] : List Keyword).length + (if ([] : List Keyword).isEmpty then 0 else 1) < 30)) = true := by
      rw [noStarsA (by rw [List.all_cons, Bool.and_eq_true]; exact hs)]
      have hlt : (y :: ys).length + ([] : List Keyword).length + (if ([] : List Keyword).isEmpty then 0 else 1) < 30 := by
        show (y :: ys).length + 0 + 0 < 30
        omega
      rw [decide_eq_true hlt]
      rfl
    refine PE.imp (pe_bm pa slot ty run ho ha (baseOk_is hb) hfew hl (noStar_each hs.1) (noStars hs.2)) ?_
    rintro σ H Q ⟨F, h, r, Q0, X0, m, re, w, c, cx⟩
    refine seqE m re w cx fun d h1 F1 H1 v s1 m1 r1 re1 cx1 w1 => ⟨tyv m1 r1 w1.1, ?_⟩
    refine seqEs m1 re1 w1.2 cx1 fun d2 h2 F2 H2 v2 s2 m2 r2 re2 cx2 w2 => ?_
    exact ⟨F2, h2, d, d2, Q0, m2, r1.mono s2.fs, r2, w2, (c.step s1).step s2⟩
theorem rg_ok {a b : Int} (h : rngOk a b) : RgOk a b := ⟨h.1, h.2.1, h.2.2.1, h.2.2.2.1, h.2.2.2.2⟩
theorem rngL_V {F : Hp} {a b : Int} : Reps R F (rngL a b) (rgV a b) := by
  unfold rngL rgV
  generalize List.range (b - a).toNat = l
  induction l with
  | nil => exact .nil
  | cons x l ih => exact .cons (.int _) ih
theorem s_lrng1 {fz : Bool} {a : E} {y : Expr} {p p2 p3 p4 : Pos} (G : Good I R XO T lev N sc allc X) (h1 : glB sc "list" = true) (h2 : glB sc "range" = true) (hs : noStar y = true) (ha : PE X y (tE R XO W T a)) :
    PE X (.Call (.Name "list" p) [.Call (.Name "range" p2) [y] [] p3] [] p4) (tE R XO W T (.lrng1 fz a)) := by
  refine PE.imp (pe_listRg G.calm (gl_X G h1) (G.blt _ (by decide +kernel)) (prg_1 (gl_X G h2) (G.blt _ (by decide +kernel)) ha (noStar_each hs))) ?_
  rintro σ H Q ⟨F, h, r, Q0, X0, m, re, w, c, cx⟩
  refine seqE m re w cx fun d h1 F1 H1 v s1 m1 r1 re1 cx1 w1 => ?_
  obtain ⟨i, rfl, w2, w3⟩ := w1
  exact ⟨i, r1.intV, rg_ok w2, fun q n => (c.step s1).lst m1 rngL_V w3 n⟩
theorem s_lrng2 {fz : Bool} {a b : E} {y z : Expr} {p p2 p3 p4 : Pos} (G : Good I R XO T lev N sc allc X) (h1 : glB sc "list" = true) (h2 : glB sc "range" = true) (hs : noStar y = true) (hs2 : noStar z = true) (ha : PE X y (tE R XO W T a)) (hb : PE X z (tE R XO W T b)) :
    PE X (.Call (.Name "list" p) [.Call (.Name "range" p2) [y, z] [] p3] [] p4) (tE R XO W T (.lrng2 fz a b)) := by
  refine PE.imp (pe_listRg G.calm (gl_X G h1) (G.blt _ (by decide +kernel)) (prg_2 (gl_X G h2) (G.blt _ (by decide +kernel)) ha hb (noStar_each hs) (noStar_each hs2) (noStars (by simp [hs2])))) ?_
  rintro σ H Q ⟨F, h, r, Q0, X0, m, re, w, c, cx⟩
  refine seqE m re w cx fun d h1 F1 H1 v s1 m1 r1 re1 cx1 w1 => ?_
  refine seqE m1 re1 w1 cx1 fun d2 h2 F2 H2 v2 s2 m2 r2 re2 cx2 w2 => ?_
  obtain ⟨i, j, rfl, rfl, w2, w3⟩ := w2
  exact ⟨i, j, r1.intV, r2.intV, rg_ok w2, fun q n => ((c.step s1).step s2).lst m2 rngL_V w3 n⟩

/-! ### isinstance -/
theorem kit_pair (k t : Kd) (ht : t ≠ .non) : kitB (kdTy k) (kdTy t) = some (k.isOf t) := by
  cases t <;> first | exact absurd rfl ht | skip
  all_goals (cases k <;> (simp only [kdTy]; decide +kernel))
theorem kind_V {F H : Hp} {h : Hv} (m : Sim R F h H) {d : D} {v : V} (r : Rep R F d v) {k : Kd} (e : kindD h d = some k) : TyX R.K H v (.type (kdTy k)) := by
  cases r with
  | non => cases e; exact .base .non
  | bl b => cases e; exact .base (.bl b)
  | int b => cases e; exact .base (.int b)
  | str b _ => cases e; exact .base (.str _)
  | tup f _ => cases e; exact .base (.tup (m.sub _ _ f))
  | ktup f _ _ =>
    cases e
    rcases f with (f | ⟨o, f⟩) | ⟨o, its, n, f1, f2, _⟩
    · cases f
    · cases f
    · exact .kTuple f1 f2
  | lst f _ => cases e; exact .base (.lst (m.sub _ _ f))
  | scr f => cases e
  | loc a =>
    have e' : (match h a with | some (.lst _) => some Kd.list | some (.dK _) => some Kd.dict | some (.dT _) => some Kd.dict | _ => none) = some k := e
    split at e'
    · rename_i hc
      cases e'
      obtain ⟨vs, q, _⟩ := m.cell _ _ hc
      exact .base (.lst q)
    · rename_i hc
      cases e'
      obtain ⟨vs, q, _⟩ := m.cell _ _ hc
      exact .base (.dK q)
    · rename_i hc
      cases e'
      obtain ⟨vs, q, _⟩ := m.cell _ _ hc
      exact .base (.dT q)
    · cases e'
theorem pe_tyNm {k : Kd} {t : Expr} (G : Good I R XO T lev N sc allc X) (h : tyNm sc k t = true) : PE X t (L2.tC (.ty (kdTy k))) ∧ k ≠ .non ∧ noStar t = true := by
  cases t <;> first | cases h | skip
  rename_i x p
  have h' : (x == kdNm k && glB sc x && !(k == .non)) = true := h
  rw [Bool.and_eq_true, Bool.and_eq_true, beq_iff_eq] at h'
  obtain ⟨⟨rfl, hg⟩, hk⟩ := h'
  have hk : k ≠ .non := by rintro rfl; cases hk
  refine ⟨?_, hk, rfl⟩
  have hm : X.mg (kdNm k) = none := G.blt _ (by cases k <;> first | exact absurd rfl hk | (simp only [kdNm]; decide +kernel))
  have hb : bootBuiltins (kdNm k) = some (.type (kdTy k)) := by cases k <;> first | exact absurd rfl hk | (simp only [kdNm, kdTy]; decide +kernel)
  have hn : kdNm k ≠ "__name__" := by cases k <;> (simp only [kdNm]; decide +kernel)
  have hd : (kdNm k == ("__debug__" : Str)) = false := by cases k <;> (simp only [kdNm]; decide +kernel)
  exact pe_bltn (gl_X G hg) hm hb rfl hn hd
def tTys : List Kd → TA := fun ks _ H Q => Q (ks.map fun k => V.ty (kdTy k)) H
theorem pa_tyNms (G : Good I R XO T lev N sc allc X) : ∀ {ks : List Kd} {xs : List Expr}, tyNms sc ks xs = true → PA X xs (tTys ks) ∧ ∀ k ∈ ks, k ≠ .non
  | [], [], _ => ⟨PA.imp pa_nil fun _ _ _ q => q, fun _ z => by cases z⟩
  | k :: ks, x :: xs, h => by
    have h' : (tyNm sc k x && tyNms sc ks xs) = true := h
    rw [Bool.and_eq_true] at h'
    obtain ⟨p1, n1, s1⟩ := pe_tyNm G h'.1
    obtain ⟨p2, n2⟩ := pa_tyNms G h'.2
    refine ⟨PA.imp (pa_cons p1 p2 (noStar_each s1)) fun _ _ _ q => q, fun j hj => ?_⟩
    rcases List.mem_cons.mp hj with rfl | hj
    · exact n1
    · exact n2 j hj
  | [], _ :: _, h => by cases h
  | _ :: _, [], h => by cases h
theorem kit_all {k : Kd} : ∀ {ks : List Kd}, (∀ t ∈ ks, t ≠ .non) → PySem.W.kitAny X.K (.type (kdTy k)) (ks.map fun t => Value.type (kdTy t)) = some (ks.any k.isOf)
  | [], _ => rfl
  | t :: ks, h => by
    refine kitAny_cons (b := k.isOf t) (kit_ty (kit_pair k t (h t (by simp)))) (fun e => ?_) fun e => ?_
    · rw [List.any_cons, e, Bool.false_or]
      exact kit_all fun z hz => h z (by simp [hz])
    · rw [List.any_cons, e, Bool.true_or]
theorem cls_all : ∀ ks : List Kd, Paired ClsV (ks.map fun k => V.ty (kdTy k)) (ks.map fun t => Value.type (kdTy t))
  | [] => .nil
  | k :: ks => .cons (.ty _) (cls_all ks)
theorem boot_isi : bootBuiltins "isinstance" = some (.builtin "isinstance") := by decide +kernel
theorem s_isi {a : E} {tys : List Kd} {y t : Expr} {p p2 : Pos} (G : Good I R XO T lev N sc allc X) (hg : glB sc "isinstance" = true) (hs : noStar y = true) (ht : tyB sc tys t = true) (hl : tys.length ≤ 1000) (ha : PE X y (tE R XO W T a)) : PE X (.Call (.Name "isinstance" p) [y, t] [] p2) (tE R XO W T (.isi a tys)) := by
  have hm : X.mg "isinstance" = none := G.blt _ (by decide +kernel)
  have one : ∀ k, tys = [k] → tyNm sc k t = true → PE X (.Call (.Name "isinstance" p) [y, t] [] p2) (tE R XO W T (.isi a tys)) := by
    rintro k rfl ht
    obtain ⟨pt, nk, st⟩ := pe_tyNm G ht
    refine PE.imp (pe_callB call_isi (gl_X G hg) hm boot_isi (pa_cons ha (pa_cons pt pa_nil (noStar_each st)) (noStar_each hs)) (by decide +kernel) (by decide +kernel) (noStar_each hs) (noStars (by simp [st]))) ?_
    rintro σ H Q ⟨F, h, r, Q0, X0, m, re, w, c, cx⟩
    refine seqE m re w cx fun d h1 F1 H1 v s1 m1 r1 re1 cx1 w1 => ?_
    obtain ⟨kd, w1, w2⟩ := w1
    refine ⟨v, .ty (kdTy k), .type (kdTy kd), .type (kdTy k), kd.isOf k, rfl, .ty _, G.hK ▸ kind_V m1 r1 w1, kit_ty (kit_pair kd k nk), ?_⟩
    refine (c.step s1).ofBl m1 ?_
    rw [List.any_cons, List.any_nil, Bool.or_false] at w2
    exact w2
  have many : ∀ (xs : List Expr) (kk : Nat) (tp : Pos), t = .Tuple xs kk tp → tyNms sc tys xs = true → PE X (.Call (.Name "isinstance" p) [y, t] [] p2) (tE R XO W T (.isi a tys)) := by
    rintro xs kk tp rfl ht
    obtain ⟨pt, nk⟩ := pa_tyNms G ht
    refine PE.imp (pe_callB call_isiT (gl_X G hg) hm boot_isi (pa_cons ha (pa_cons (pe_tup pt) pa_nil (noStar_each rfl)) (noStar_each hs)) (by decide +kernel) (by decide +kernel) (noStar_each hs) (noStars (by simp [noStar]))) ?_
    rintro σ H Q ⟨F, h, r, Q0, X0, m, re, w, c, cx⟩
    refine seqE m re w cx fun d h1 F1 H1 v s1 m1 r1 re1 cx1 w1 => ?_
    obtain ⟨kd, w1, w2⟩ := w1
    refine ⟨?_, fun q n => ?_⟩
    · rw [List.length_map]
      exact Nat.le_of_lt (small1000 hl)
    · obtain ⟨m', s'⟩ := m1.newTree (o := .tup (tys.map fun k => V.ty (kdTy k))) n
      refine ⟨v, q, tys.map fun k => V.ty (kdTy k), .type (kdTy kd), tys.map fun t => Value.type (kdTy t), tys.any kd.isOf, rfl, upd_same, cls_all tys, ?_, kit_all nk, ?_⟩
      · exact G.hK ▸ kind_V m' (r1.mono s'.fs) w1
      · exact ((c.step s1).step s').ofBl m' w2
  unfold tyB at ht
  split at ht
  · exact one _ rfl ht
  · exact many _ _ _ rfl ht
  · cases ht
end
end VS

set_option Elab.async false
set_option linter.all false
set_option maxRecDepth 100000
set_option maxHeartbeats 4000000
/-! VS8: targets, what is walked, comprehensions. -/
namespace VS
open PySem PySem.Spec PyProof.Rows L2

/-! ### targets -/
def Chg (sl : List Nat) (σ σ' : L2.St) : Prop := σ'.length = σ.length ∧ ∀ j, j ∉ sl → σ'[j]? = σ[j]?
theorem Chg.refl {sl : List Nat} {σ : L2.St} : Chg sl σ σ := ⟨rfl, fun _ _ => rfl⟩
theorem Chg.trans {a b : List Nat} {σ σ1 σ2 : L2.St} (x : Chg a σ σ1) (y : Chg b σ1 σ2) : Chg (a ++ b) σ σ2 := ⟨y.1.trans x.1, fun j hj => by
  rw [List.mem_append, not_or] at hj
  exact (y.2 j hj.2).trans (x.2 j hj.1)⟩
theorem wipe_chg {sl vs : List Nat} (hs : ∀ i ∈ sl, i ∈ vs) {σ σ' : L2.St} (c : Chg sl σ σ') : wipe σ' vs = wipe σ vs := by
  have key : ∀ (vs : List Nat) (σ : L2.St) (j : Nat), (wipe σ vs)[j]? = if j ∈ vs then (if j < σ.length then some none else none) else σ[j]? := by
    intro vs
    induction vs with
    | nil => intro σ j; simp [wipe]
    | cons v vs ih =>
      intro σ j
      unfold wipe
      by_cases hv : v = j
      · subst hv
        by_cases hl : v < σ.length
        · rw [List.getElem?_set_self (by rw [wipe_length]; exact hl)]
          simp [hl]
        · rw [List.getElem?_eq_none (by rw [List.length_set, wipe_length]; omega)]
          simp [hl]
      · rw [List.getElem?_set_ne hv, ih σ j]
        by_cases hj : j ∈ vs
        · simp [hj]
        · simp [hj, Ne.symm hv]
  apply List.ext_getElem?
  intro j
  rw [key, key, c.1]
  split
  · rfl
  · rename_i hj
    exact c.2 j fun z => hj (hs j z)
theorem wipe_wipe (σ : L2.St) (vs : List Nat) : wipe (wipe σ vs) vs = wipe σ vs := by
  refine wipe_chg (sl := vs) (fun _ h => h) ⟨wipe_length _ _, fun j hj => ?_⟩
  induction vs with
  | nil => rfl
  | cons v vs ih =>
    rw [List.mem_cons, not_or] at hj
    unfold wipe
    rw [List.getElem?_set_ne (Ne.symm hj.1)]
    exact ih hj.2
theorem REnv.wipe {R : RC} {F : Hp} {r : VS.Env} {σ : L2.St} (h : REnv R F r σ) : ∀ own : List (Str × Nat), REnv R F (wipeE r own) (wipe σ (own.map (·.2)))
  | [] => h
  | i :: is => (REnv.wipe h is).unset i.2

def tG (R : RC) (tg : Tg) : TG := fun v σ H Q => ∃ F r d Q0, REnv R F r σ ∧ Same F H ∧ Rep R F d v ∧ asgT tg d r Q0 ∧ ∀ r' σ', REnv R F r' σ' → Chg (Tg.slots tg) σ σ' → Q0 r' → Q σ' H
def tGs (R : RC) (tg : Tgs) : TGs := fun vs σ H Q => ∃ F r ds Q0, REnv R F r σ ∧ Same F H ∧ Reps R F ds vs ∧ asgTs tg ds r Q0 ∧ ∀ r' σ', REnv R F r' σ' → Chg (Tgs.slots tg) σ σ' → Q0 r' → Q σ' H
theorem PG.imp {X : Cx} {e : Expr} {t t' : TG} (h : PG X e t) (k : ∀ v σ H Q, t' v σ H Q → t v σ H Q) : PG X e t' := ⟨fun pins s σ H v u Q I r q => h.run pins s σ H v u Q I r (k _ _ _ _ q)⟩
theorem PGs.imp {X : Cx} {e : List Expr} {t t' : TGs} (h : PGs X e t) (k : ∀ v σ H Q, t' v σ H Q → t v σ H Q) : PGs X e t' := ⟨fun pins s σ H v u Q I r q => h.run pins s σ H v u Q I r (k _ _ _ _ q)⟩
theorem asgEach_of {x : Expr} {env : PySem.Env} {xs : List Expr} (h : noStar x = true) : assignEach (x :: xs) env = (false, assign x env) :: assignEach xs env := by
  cases x <;> first | rfl | cases h
section
variable {I : SI} {R : RC} {XO : XOT} {W : WX} {T : Tab} {lev : Nat} {N : List Str} {sc : Scope} {allc : Bool} {X : Cx}
theorem sto_of {x : Str} (G : Good I R XO T lev N sc allc X) (h : stoB sc allc x = true) : Loc X.env.scope x ∧ (X.fn x = true ∨ X.env.scope.names.lookup x = some .local) := by
  unfold stoB at h
  rw [G.hsc]
  split at h
  · rename_i e
    exact ⟨.inl e, .inr e⟩
  · rename_i e
    exact ⟨.inr e, .inl (G.fnc h x)⟩
  · cases h
theorem mTgs_len : ∀ {ts : Tgs} {xs : List Expr}, mTgs N sc allc ts xs = true → xs.length = Tgs.len ts
  | .nil, [], _ => rfl
  | .nil, _ :: _, h => by cases h
  | .cons t ts, [], h => by cases h
  | .cons t ts, x :: xs, h => by
    have h' : (mTg N sc allc t x && mTgs N sc allc ts xs) = true := h
    rw [Bool.and_eq_true] at h'
    show xs.length + 1 = Tgs.len ts + 1
    rw [mTgs_len h'.2]
mutual
theorem s_tg (G : Good I R XO T lev N sc allc X) : ∀ (tg : Tg) (x : Expr), mTg N sc allc tg x = true → PG X x (tG R tg) ∧ noStar x = true
  | .nm i, x, h => by
    cases x <;> first | cases h | skip
    rename_i id p
    have h' : (N[i]? == some id && stoB sc allc id) = true := h
    rw [Bool.and_eq_true, beq_iff_eq] at h'
    obtain ⟨l1, l2⟩ := sto_of G h'.2
    refine ⟨PG.imp (pg_name (i := i) (by rw [G.hN]; exact G.nd) (by rw [G.hN]; exact h'.1) l1 l2) ?_, rfl⟩
    rintro v σ H Q ⟨F, r, d, Q0, re, sm, rd, w, k⟩
    exact k _ _ (re.set i rd) ⟨by simp, fun j hj => List.getElem?_set_ne (fun e => hj (by simp [Tg.slots, e]))⟩ w.2
  | .tp ts, x, h => by
    cases x <;> first | cases h | skip
    rename_i xs kk p
    obtain ⟨h1, h2⟩ := s_tgs G ts xs h
    have hl : (assignEach xs X.env).length = xs.length := by
      clear h1 h
      induction xs with
      | nil => rfl
      | cons y ys ih =>
        rw [asgEach_of (h2 y (by simp)), List.length_cons, ih (fun z hz => h2 z (by simp [hz]))]
        rfl
    have hf : (assignEach xs X.env).findIdx? (·.1) = none := by
      clear h1 h hl
      induction xs with
      | nil => rfl
      | cons y ys ih =>
        rw [asgEach_of (h2 y (by simp)), List.findIdx?_cons]
        rw [ih (fun z hz => h2 z (by simp [hz]))]
        rfl
    refine ⟨PG.imp (pg_tup G.calm h1 hl hf) ?_, rfl⟩
    rintro v σ H Q ⟨F, r, d, Q0, re, sm, rd, w, k⟩
    obtain ⟨ds, rfl, hlen, w⟩ := w
    have e1 : ds.length = xs.length := by rw [hlen, mTgs_len h]
    cases rd with
    | tup f rs => exact ⟨_, _, rfl, .inl (.inl (sm _ _ f)), by rw [← rs.length]; exact e1, F, r, ds, Q0, re, sm, rs, w, k⟩
    | ktup f kc rs => exact ⟨_, _, rfl, G.hK ▸ VS.SqT.free f, by rw [← rs.length]; exact e1, F, r, ds, Q0, re, sm, rs, w, k⟩
theorem s_tgs (G : Good I R XO T lev N sc allc X) : ∀ (tg : Tgs) (xs : List Expr), mTgs N sc allc tg xs = true → PGs X xs (tGs R tg) ∧ ∀ y ∈ xs, noStar y = true
  | .nil, xs, h => by
    cases xs <;> first | cases h | skip
    refine ⟨PGs.imp pgs_nil ?_, fun _ z => by cases z⟩
    rintro v σ H Q ⟨F, r, d, Q0, re, sm, rd, w, k⟩
    obtain ⟨rfl, w⟩ := w
    cases rd
    exact ⟨rfl, k r σ re Chg.refl w⟩
  | .cons t ts, xs, h => by
    cases xs with
    | nil => cases h
    | cons y ys =>
      have h' : (mTg N sc allc t y && mTgs N sc allc ts ys) = true := h
      rw [Bool.and_eq_true] at h'
      obtain ⟨p1, n1⟩ := s_tg G t y h'.1
      obtain ⟨p2, n2⟩ := s_tgs G ts ys h'.2
      refine ⟨PGs.imp (pgs_cons p1 p2 (by rw [asgEach_of n1]; rfl)) ?_, fun z hz => ?_⟩
      · rintro vs σ H Q ⟨F, r, ds, Q0, re, sm, rd, w, k⟩
        obtain ⟨d, es, rfl, w⟩ := w
        cases rd with
        | cons r1 rs =>
          refine ⟨_, _, rfl, F, r, d, _, re, sm, r1, w, fun r' σ' re' ch w' => ?_⟩
          exact ⟨F, r', es, Q0, re', sm, rs, w', fun r2 σ2 re2 ch2 w2 => k r2 σ2 re2 (ch.trans ch2) w2⟩
      · rcases List.mem_cons.mp hz with rfl | hz
        · exact n1
        · exact n2 z hz
end
end
end VS

set_option Elab.async false
set_option linter.all false
set_option maxRecDepth 100000
set_option maxHeartbeats 4000000
/-! VS9: what is walked. -/
namespace VS
open PySem PySem.Spec PyProof.Rows L2
section
variable {I : SI} {R : RC} {XO : XOT} {W : WX} {T : Tab} {lev : Nat} {N : List Str} {sc : Scope} {allc : Bool} {X : Cx}
theorem stay_lst {F1 H1 : Hp} {h1 : Hv} (m1 : Sim R F1 h1 H1) {x : D} {v : V} (r : Rep R F1 x v) {xs : List D} (e : rsv h1 x = .lst xs) :
    ∃ a, v = .ref a ∧ ∀ F h H, Same F1 F → Sim R F h H → itOk x (cellOf h1 x) h → ∃ vs, H a = some (.lst vs) ∧ Reps R F xs vs := by
  cases r with
  | lst f q => cases e; exact ⟨_, rfl, fun F h H s m _ => ⟨_, m.sub _ _ (s _ _ f), q.mono s⟩⟩
  | loc a =>
    have e' : (match h1 a with | some (.lst xs) => D.lst xs | _ => .loc a) = .lst xs := e
    split at e'
    · rename_i ys hc
      cases e'
      refine ⟨a, rfl, fun F h H s m ok => ?_⟩
      have ok : h a = h1 a := ok
      exact m.cell a _ (ok.trans hc)
    · cases e'
  | _ => cases e
theorem stay_tup {F1 H1 : Hp} {h1 : Hv} (m1 : Sim R F1 h1 H1) {xs : List D} {v : V} (r : Rep R F1 (.tup xs) v) :
    ∃ a, v = .ref a ∧ ∀ F h H, Same F1 F → Sim R F h H → ∃ vs, SqT R.K H a vs ∧ Reps R F xs vs := by
  cases r with
  | tup f q => exact ⟨_, rfl, fun F h H s m => ⟨_, .inl (.inl (m.sub _ _ (s _ _ f))), q.mono s⟩⟩
  | ktup f k q => exact ⟨_, rfl, fun F h H s m => ⟨_, VS.SqT.free f, q.mono s⟩⟩
theorem list_func {K : PySem.W.Frag} {H : Hp} {a : Addr} {xs : List V} (e : H a = some (.lst xs)) {P : List V → Prop} (p : ∀ ys, SqL K H a ys → P ys) : P xs := p xs (.inl (.inl e))
theorem wk_list {F1 H1 : Hp} {h1 : Hv} (m1 : Sim R F1 h1 H1) {x : D} {a : Addr} {xs : List D} {ok : Hv → Prop} (k : ∀ F h H, Same F1 F → Sim R F h H → ok h → ∃ vs, H a = some (.lst vs) ∧ Reps R F xs vs) : Wk R F1 (Itl R.K a) xs ok := by
  intro F h H s m o
  obtain ⟨vs, e, rr⟩ := k F h H s m o
  refine ⟨fun i hi => ?_, ⟨vs, .inl (.inl e), by rw [rr.length]; exact Nat.le_refl _⟩⟩
  obtain ⟨v, e1, r1⟩ := rr.get (List.getElem?_eq_getElem hi)
  refine ⟨⟨vs, v, .inl (.inl e), e1⟩, fun y H' hy => ?_⟩
  obtain ⟨rfl, hy⟩ := hy
  have e2 := hy vs (.inl (.inl e))
  rw [e1] at e2; cases e2
  exact ⟨F, _, Step.refl, m, List.getElem?_eq_getElem hi, r1⟩
theorem wk_tup {F1 H1 : Hp} {h1 : Hv} (m1 : Sim R F1 h1 H1) {a : Addr} {xs : List D} {ok : Hv → Prop} (k : ∀ F h H, Same F1 F → Sim R F h H → ∃ vs, SqT R.K H a vs ∧ Reps R F xs vs) : Wk R F1 (Itt R.K a) xs ok := by
  intro F h H s m o
  obtain ⟨vs, e, rr⟩ := k F h H s m
  refine ⟨fun i hi => ?_, ⟨vs, e, by rw [rr.length]; exact Nat.le_refl _⟩⟩
  obtain ⟨v, e1, r1⟩ := rr.get (List.getElem?_eq_getElem hi)
  refine ⟨⟨vs, v, e, e1⟩, fun y H' hy => ?_⟩
  obtain ⟨rfl, hy⟩ := hy
  have e2 := hy vs e
  rw [e1] at e2; cases e2
  exact ⟨F, _, Step.refl, m, List.getElem?_eq_getElem hi, r1⟩
theorem rngL_len (a b : Int) : (rngL a b).length = (b - a).toNat := by unfold rngL; rw [List.length_map, List.length_range]
theorem rngL_get {a b : Int} {i : Nat} (h : i < (b - a).toNat) : (rngL a b)[i]? = some (.int (a + (i : Nat))) := by
  unfold rngL
  rw [List.getElem?_map, List.getElem?_range h]; rfl
theorem wk_rng {F1 : Hp} {a b : Int} {n : Nat} (hn : n = (b - a).toNat) : Wk R F1 (Itr a n) (rngL a b) (fun _ => True) := by
  intro F h H s m o
  rw [rngL_len]
  refine ⟨fun i hi => ⟨by show i < n; omega, fun y H' hy => ?_⟩, by show n ≤ _; omega⟩
  obtain ⟨rfl, rfl⟩ := hy
  exact ⟨F, _, Step.refl, m, rngL_get hi, .int _⟩
theorem wk_sgn {F1 : Hp} {cs : List Nat} (hok : StrOk cs) : Wk R F1 (Its (strOf cs)) (sgnL cs) (fun _ => True) := by
  intro F h H s m o
  have e : (strOf cs).cps.size = cs.length := by simp [strOf]
  have e2 : (sgnL cs).length = cs.length := by simp [sgnL]
  rw [e2]
  refine ⟨fun i hi => ⟨by show i < _; rw [e]; exact hi, fun y H' hy => ?_⟩, by show _ ≤ cs.length; rw [e]; exact Nat.le_refl _⟩
  obtain ⟨rfl, c, hc, rfl⟩ := hy
  have hc' : cs[i]? = some c := by simpa [strOf] using hc
  refine ⟨F, .str [c], Step.refl, m, by simp [sgnL, hc'], ?_⟩
  exact .str [c] fun z hz => by
    have : z = c := by simpa using hz
    rw [this]
    exact hok c (List.mem_of_getElem? hc')
theorem enumL_get : ∀ (xs : List D) (n i : Nat), (enumL n xs)[i]? = xs[i]?.map fun x => .tup [.int (n + i : Nat), x]
  | [], _, _ => by simp [enumL]
  | x :: xs, n, 0 => by simp [enumL]
  | x :: xs, n, i + 1 => by
    have e := enumL_get xs (n + 1) i
    show (enumL (n + 1) xs)[i]? = _
    rw [e, show n + 1 + i = n + (i + 1) by omega]
    simp
theorem enumL_len : ∀ (xs : List D) (n : Nat), (enumL n xs).length = xs.length
  | [], _ => rfl
  | _ :: xs, n => congrArg (· + 1) (enumL_len xs (n + 1))
theorem tup_new {F H : Hp} {h : Hv} (m : Sim R F h H) {ds : List D} {vs : List V} (r : Reps R F ds vs) {p : Addr} (n : H p = none) : Step F h H (upd F p (.tup vs)) h (upd H p (.tup vs)) ∧ Sim R (upd F p (.tup vs)) h (upd H p (.tup vs)) ∧ Rep R (upd F p (.tup vs)) (.tup ds) (.ref p) := by
  obtain ⟨m', s'⟩ := m.newTree (o := .tup vs) n
  exact ⟨s', m', .tup upd_same (r.mono s'.fs)⟩
theorem wk_enum {F1 H1 : Hp} {h1 : Hv} (m1 : Sim R F1 h1 H1) {a : Addr} {xs : List D} {ok : Hv → Prop} (k : ∀ F h H, Same F1 F → Sim R F h H → ok h → ∃ vs, H a = some (.lst vs) ∧ Reps R F xs vs) : Wk R F1 (Ite R.K a) (enumL 0 xs) ok := by
  intro F h H s m o
  obtain ⟨vs, e, rr⟩ := k F h H s m o
  rw [enumL_len]
  refine ⟨fun i hi => ?_, ⟨vs, .inl (.inl e), by rw [rr.length]; exact Nat.le_refl _⟩⟩
  obtain ⟨v, e1, r1⟩ := rr.get (List.getElem?_eq_getElem hi)
  refine ⟨⟨vs, v, .inl (.inl e), e1⟩, fun y H' hy => ?_⟩
  obtain ⟨t, x, rfl, n, rfl, hy⟩ := hy
  have e2 := hy vs (.inl (.inl e))
  rw [e1] at e2; cases e2
  obtain ⟨s', m', r'⟩ := tup_new m (.cons (.int (i : Nat)) (.cons r1 .nil)) n
  refine ⟨_, _, s', m', ?_, r'⟩
  rw [enumL_get, List.getElem?_eq_getElem hi, Nat.zero_add]; rfl
theorem zip2L_get : ∀ (xs ys : List D) (i : Nat) (x y : D), xs[i]? = some x → ys[i]? = some y → (zip2L xs ys)[i]? = some (.tup [x, y])
  | [], _, _, _, _, h, _ => by simp at h
  | _ :: _, [], _, _, _, _, h => by simp at h
  | a :: xs, b :: ys, 0, x, y, h, h' => by simp at h h'; subst h; subst h'; rfl
  | a :: xs, b :: ys, i + 1, x, y, h, h' => zip2L_get xs ys i x y (by simpa using h) (by simpa using h')
theorem zip2L_len : ∀ (xs ys : List D), (zip2L xs ys).length = min xs.length ys.length
  | [], _ => by simp [zip2L]
  | _ :: _, [] => by simp [zip2L]
  | a :: xs, b :: ys => by
    show (zip2L xs ys).length + 1 = _
    rw [zip2L_len xs ys, List.length_cons, List.length_cons]; omega
theorem wk_zip {F1 H1 : Hp} {h1 : Hv} (m1 : Sim R F1 h1 H1) {a b : Addr} {xs ys : List D} {ok ok' : Hv → Prop} (k : ∀ F h H, Same F1 F → Sim R F h H → ok h → ∃ vs, H a = some (.lst vs) ∧ Reps R F xs vs)
    (k' : ∀ F h H, Same F1 F → Sim R F h H → ok' h → ∃ vs, H b = some (.lst vs) ∧ Reps R F ys vs) : Wk R F1 (Itz R.K a b) (zip2L xs ys) (fun h => ok h ∧ ok' h) := by
  intro F h H s m o
  obtain ⟨vs, e, rr⟩ := k F h H s m o.1
  obtain ⟨ws, e', rr'⟩ := k' F h H s m o.2
  rw [zip2L_len]
  refine ⟨fun i hi => ?_, ⟨vs, ws, .inl (.inl e), .inl (.inl e'), by rw [← rr.length, ← rr'.length]; omega⟩⟩
  have hx : i < xs.length := by omega
  have hy : i < ys.length := by omega
  obtain ⟨v, e1, r1⟩ := rr.get (List.getElem?_eq_getElem hx)
  obtain ⟨w, e2, r2⟩ := rr'.get (List.getElem?_eq_getElem hy)
  refine ⟨⟨vs, ws, v, w, .inl (.inl e), .inl (.inl e'), e1, e2⟩, fun y H' hyy => ?_⟩
  obtain ⟨t, x, x', rfl, n, rfl, q1, q2⟩ := hyy
  have z1 := q1 vs (.inl (.inl e))
  have z2 := q2 ws (.inl (.inl e'))
  rw [e1] at z1; cases z1
  rw [e2] at z2; cases z2
  obtain ⟨s', m', r'⟩ := tup_new m (.cons r1 (.cons r2 .nil)) n
  exact ⟨_, _, s', m', zip2L_get _ _ _ _ _ (List.getElem?_eq_getElem hx) (List.getElem?_eq_getElem hy), r'⟩

/-- a list or a tuple walked, whichever comes -/
def iSeq (K : PySem.W.Frag) (tl : TE) : TI := fun σ H R => tl σ H fun x H1 => ∃ a, x = .ref a ∧ (((∃ xs, SqL K H1 a xs) ∧ R (Itl K a) H1) ∨ ((∃ xs, SqT K H1 a xs) ∧ R (Itt K a) H1))
theorem pi_seq {tg l : Expr} {tl : TE} (hl : PE X l tl) : PI X tg l (iSeq X.K tl) := by
  refine ⟨fun pins s σ H R I h => ?_⟩
  refine thn (hl.run pins s σ H _ I h) ?_
  rintro v s1 ⟨x, H1, I1, r1, a, rfl, q⟩
  cases r1
  have one : s1.heap.objs.size ∈ [s1.heap.objs.size] := List.mem_cons_self
  have fp : ∀ b ∈ [s1.heap.objs.size], FpOk X pins H1 b := by
    intro b hb
    cases List.mem_singleton.mp hb
    exact I1.fpOk (Nat.le_refl _) (I1.hok.fresh (Nat.le_refl _))
  rcases q with ⟨⟨xs, hq⟩, q⟩ | ⟨⟨xs, hq⟩, q⟩
  · obtain ⟨its, rv, p, hz⟩ := I1.list hq
    exact wpAny_pyIter_list p.isList ⟨s1.heap.objs.size, [s1.heap.objs.size], _, _, H1, rfl, I1.kept (t' := s1.toks) (fun b o e => Heap.get?_push_of_some _ e), turn_list a _, ⟨_, Heap.get?_push_size _ rfl, rfl, rfl⟩, fp, q⟩
  · obtain ⟨its, rv, p, hz⟩ := I1.tuple hq
    exact wpAny_pyIter_tuple (show s1.heap.IsTuple a its.toArray from p) ⟨s1.heap.objs.size, [s1.heap.objs.size], _, _, H1, rfl, I1.kept (t' := s1.toks) (fun b o e => Heap.get?_push_of_some _ e), turn_tuple a _, ⟨_, Heap.get?_push_size _ rfl, rfl, rfl⟩, fp, q⟩
theorem len_lim {F H : Hp} {h : Hv} {X : Cx} {pins : List (Addr × Obj)} {σ : L2.St} {s : Shared} (J : Inv X pins σ H s) {a : Addr} {vs : List V} (e : H a = some (.lst vs)) : vs.length ≤ lim := by
  rw [lim_eq]; exact (J.hok a _ e).1
theorem s_seq {a : E} {tg x : Expr} (G : Good I R XO T lev N sc allc X) (ha : PE X x (tE R XO W T a)) : PI X tg x (tI R XO W T (.seq a)) := by
  refine PI.imp (pi_seq ha) ?_
  rintro σ H Q ⟨F, h, r, Q0, X0, m, re, w, k, cx⟩
  refine seqE m re w cx fun d h1 F1 H1 v s1 m1 r1 re1 cx1 w1 => ?_
  obtain ⟨xs, w1, hl, w2⟩ := w1
  rw [← G.hK]
  cases ex : rsv h1 d with
  | lst ys =>
    rw [ex] at w1; cases w1
    obtain ⟨a', rfl, st⟩ := stay_lst m1 r1 ex
    have ok0 : itOk d (cellOf h1 d) h1 := by cases d <;> first | trivial | rfl
    obtain ⟨vs, e, rr⟩ := st F1 h1 H1 (Same.refl _) m1 ok0
    exact ⟨a', rfl, .inl ⟨⟨vs, .inl (.inl e)⟩, k _ _ h1 F1 H1 _ s1 m1 ok0 (wk_list (x := d) m1 st) hl w2⟩⟩
  | tup ys =>
    rw [ex] at w1; cases w1
    have ed := rsv_tupD _ ex
    subst ed
    obtain ⟨a', rfl, st⟩ := stay_tup m1 r1
    obtain ⟨vs, e, rr⟩ := st F1 h1 H1 (Same.refl _) m1
    exact ⟨a', rfl, .inr ⟨⟨vs, e⟩, k _ _ h1 F1 H1 _ s1 m1 trivial (wk_tup m1 st) hl w2⟩⟩
  | _ => rw [ex] at w1; cases w1
theorem s_sgn {a : E} {tg x : Expr} (G : Good I R XO T lev N sc allc X) (ha : PE X x (tE R XO W T a)) : PI X tg x (tI R XO W T (.sgn a)) := by
  refine PI.imp (pi_str ha) ?_
  rintro σ H Q ⟨F, h, r, Q0, X0, m, re, w, k, cx⟩
  refine seqE m re w cx fun d h1 F1 H1 v s1 m1 r1 re1 cx1 w1 => ?_
  obtain ⟨cs, rfl, hl, w2⟩ := w1
  refine ⟨strOf cs, r1.strV.1, k _ _ h1 F1 H1 _ s1 m1 trivial (wk_sgn r1.strV.2) (by simpa [sgnL] using hl) w2⟩
theorem s_rng1 {a : E} {tg y : Expr} {p p2 : Pos} (G : Good I R XO T lev N sc allc X) (hg : glB sc "range" = true) (hs : noStar y = true) (ha : PE X y (tE R XO W T a)) : PI X tg (.Call (.Name "range" p) [y] [] p2) (tI R XO W T (.rng1 a)) := by
  refine PI.imp (pi_range1 (gl_X G hg) (G.blt _ (by decide +kernel)) (pa_cons ha pa_nil (noStar_each hs)) (noStar_each hs)) ?_
  rintro σ H Q ⟨F, h, r, Q0, X0, m, re, w, k, cx⟩
  refine seqE m re w cx fun d h1 F1 H1 v s1 m1 r1 re1 cx1 w1 => ?_
  obtain ⟨i, rfl, ok, w2⟩ := w1
  refine ⟨i, by rw [r1.intV], ok.2.2.1, ok.2.2.2.1, k _ _ h1 F1 H1 _ s1 m1 trivial (wk_rng (by omega)) ?_ w2⟩
  rw [rngL_len]; exact ok.2.2.2.2
theorem s_rng2 {a b : E} {tg y z : Expr} {p p2 : Pos} (G : Good I R XO T lev N sc allc X) (hg : glB sc "range" = true) (hs : noStar y = true) (hs2 : noStar z = true) (ha : PE X y (tE R XO W T a)) (hb : PE X z (tE R XO W T b)) : PI X tg (.Call (.Name "range" p) [y, z] [] p2) (tI R XO W T (.rng2 a b)) := by
  refine PI.imp (pi_range2 (gl_X G hg) (G.blt _ (by decide +kernel)) (pa_cons ha (pa_cons hb pa_nil (noStar_each hs2)) (noStar_each hs)) (by rw [noStar_each hs, noStar_each hs2]; rfl) (noStar_each hs2)) ?_
  rintro σ H Q ⟨F, h, r, Q0, X0, m, re, w, k, cx⟩
  refine seqE m re w cx fun d h1 F1 H1 v s1 m1 r1 re1 cx1 w1 => ?_
  refine seqE m1 re1 w1 cx1 fun d2 h2 F2 H2 v2 s2 m2 r2 re2 cx2 w2 => ?_
  obtain ⟨i, j, rfl, rfl, ok, w2⟩ := w2
  refine ⟨i, j, by rw [r1.intV, r2.intV], ⟨ok.1, ok.2.1, ok.2.2.1, ok.2.2.2.1⟩, k _ _ h2 F2 H2 _ (s1.trans s2) m2 trivial (wk_rng rfl) ?_ w2⟩
  rw [rngL_len]; exact ok.2.2.2.2
theorem itOk_now (d : D) (h : Hv) : itOk d (cellOf h d) h := by cases d <;> first | trivial | rfl
theorem s_enm {a : E} {tg y : Expr} {p p2 : Pos} (G : Good I R XO T lev N sc allc X) (ht : isTupX tg = true) (hg : glB sc "enumerate" = true) (hs : noStar y = true) (ha : PE X y (tE R XO W T a)) : PI X tg (.Call (.Name "enumerate" p) [y] [] p2) (tI R XO W T (.enm a)) := by
  cases tg <;> first | cases ht | skip
  refine PI.imp (pi_enum (gl_X G hg) (G.blt _ (by decide +kernel)) (pa_cons ha pa_nil (noStar_each hs)) (noStar_each hs)) ?_
  rintro σ H Q ⟨F, h, r, Q0, X0, m, re, w, k, cx⟩
  refine seqE m re w cx fun d h1 F1 H1 v s1 m1 r1 re1 cx1 w1 => ?_
  obtain ⟨xs, ex, hl, w2⟩ := w1
  obtain ⟨a', rfl, st⟩ := stay_lst m1 r1 ex
  obtain ⟨vs, e, rr⟩ := st F1 h1 H1 (Same.refl _) m1 (itOk_now d h1)
  rw [← G.hK]
  refine ⟨a', vs, rfl, .inl (.inl e), k _ _ h1 F1 H1 _ s1 m1 (itOk_now d h1) (wk_enum m1 st) ?_ w2⟩
  rw [enumL_len]; exact hl
theorem s_zip2 {a b : E} {tg y z : Expr} {p p2 : Pos} (G : Good I R XO T lev N sc allc X) (ht : isTupX tg = true) (hg : glB sc "zip" = true) (hs : noStar y = true) (hs2 : noStar z = true) (ha : PE X y (tE R XO W T a)) (hb : PE X z (tE R XO W T b)) : PI X tg (.Call (.Name "zip" p) [y, z] [] p2) (tI R XO W T (.zip2 a b)) := by
  cases tg <;> first | cases ht | skip
  refine PI.imp (pi_zip (gl_X G hg) (G.blt _ (by decide +kernel)) (pa_cons ha (pa_cons hb pa_nil (noStar_each hs2)) (noStar_each hs)) (noStar_each hs) (noStars (by simp [hs2]))) ?_
  rintro σ H Q ⟨F, h, r, Q0, X0, m, re, w, k, cx⟩
  refine seqE m re w cx fun d h1 F1 H1 v s1 m1 r1 re1 cx1 w1 => ?_
  refine seqE m1 re1 w1 cx1 fun d2 h2 F2 H2 v2 s2 m2 r2 re2 cx2 w2 => ?_
  obtain ⟨xs, ys, ex, ey, hl, w2⟩ := w2
  obtain ⟨a', rfl, st⟩ := stay_lst m2 (r1.mono s2.fs) ex
  obtain ⟨b', rfl, st'⟩ := stay_lst m2 r2 ey
  obtain ⟨vs, e, rr⟩ := st F2 h2 H2 (Same.refl _) m2 (itOk_now d h2)
  obtain ⟨ws, e', rr'⟩ := st' F2 h2 H2 (Same.refl _) m2 (itOk_now d2 h2)
  rw [← G.hK]
  refine ⟨a', b', vs, ws, rfl, .inl (.inl e), .inl (.inl e'), k _ _ h2 F2 H2 _ (s1.trans s2) m2 ⟨itOk_now d h2, itOk_now d2 h2⟩ (wk_zip m2 st st') ?_ w2⟩
  rw [zip2L_len]; omega
end
end VS

set_option Elab.async false
set_option linter.all false
set_option maxRecDepth 100000
set_option maxHeartbeats 4000000
/-! VS10: comprehensions; all expressions. -/
namespace VS
open PySem PySem.Spec PyProof.Rows L2
section
variable {I : SI} {R : RC} {XO : XOT} {W : WX} {T : Tab} {lev : Nat} {N : List Str} {sc : Scope} {allc : Bool} {X : Cx}
abbrev W0 : WX := fun _ _ _ _ => False
abbrev no : XQ := fun _ _ _ => False
theorem Good.blk {scope : Scope} {s : Shared} {H : Hp} {C : Addr} {cl : List (Str × Addr)} {fp : List Addr} (G : Good I R XO T lev N sc allc X) : Good I R XO T lev N (relS scope sc) false (X.blk s H scope (compEnvC scope cl C X.env) fp) where
  hN := G.hN
  nd := G.nd
  hsc := by
    rw [← G.hsc]; rfl
  calm := G.calm
  room := G.room
  hK := G.hK
  kc := G.kc
  fnc := fun h => by cases h
  fns := G.fns
  gls := G.gls
  blt := G.blt
  po := PassesOwn.never
theorem cnx_no {F H : Hp} {h : Hv} {K : XK} : CnX R XO F h H no K := fun _ _ _ _ _ _ _ _ _ _ z => z.elim
/-- one turn of a comprehension -/
def cpStep (T : Tab) (elt : E) (tg : Tg) (own : List (Str × Nat)) (cnd : Cs) (r : VS.Env) : D → Hv → (Option D → Hv → Prop) → Prop := fun x h2 K =>
  asgT tg x (wipeE r own) fun r1 => wAndC T cnd r1 h2 (fun c h3 => br c (wE T elt r1 h3 (fun d h4 => K (some d) h4) no) (K none h3)) no
theorem comp_read {fz : Bool} {elt : E} {tg : Tg} {own : List (Str × Nat)} {it : VS.It} {cnd : Cs} {te : TE} {tt : TT} (hsl : ∀ i ∈ Tg.slots tg, i ∈ own.map (·.2))
    (hte : ∀ σ H Q, tE R XO W0 T elt σ H Q → te σ H Q) (htt : ∀ σ H Q, tAC R XO W0 T cnd σ H Q → tt σ H Q) (σ : L2.St) (H : Hp) (Q : VK) :
    tE R XO W T (.comp fz elt tg own it cnd) σ H Q → tLc (tI R XO W T it) (tG R tg) tt te (own.map (·.2)) σ H Q := by
  rintro ⟨F, h, r, Q0, X0, m, re, w, c, cx⟩
  refine ⟨F, h, r, _, X0, m, re, w, ?_, cx⟩
  intro xs ok h1 F1 H1 J s1 m1 o1 wk hl cp D nD
  have c1 := c.step s1
  have cp : wCp ok (cpStep T elt tg own cnd r) xs [] h1 (fun ds h2 => mkL fz ds h2 Q0) := cp
  have re1 := (re.mono s1.fs)
  refine ⟨fun i mm H2 => mm = xs.length - i ∧ i ≤ xs.length ∧ ∃ F2 h2 acc accV, Step F1 h1 H1 F2 h2 H2 ∧ Sim R F2 h2 H2 ∧ H2 D = some (.lst accV) ∧ Reps R F2 acc accV ∧ acc.length ≤ i ∧ h2 D = none ∧ F2 D = none ∧
    wCp ok (cpStep T elt tg own cnd r) (xs.drop i) acc h2 (fun ds h2 => mkL fz ds h2 Q0), ⟨xs.length, by omega, by omega, F1, h1, [], [], ?_, ?_, upd_same, .nil, Nat.le_refl _, m1.nh nD, m1.noneF nD, cp⟩, ?_⟩
  · exact ⟨Same.refl _, fun b o e _ => same_upd nD b o e, fun b z => .inl z, fun b z => .inl z⟩
  · refine ⟨fun b o e => same_upd nD b o (m1.sub b o e), fun b d e => ?_, m1.out⟩
    have nb : b ≠ D := by rintro rfl; rw [m1.nh nD] at e; cases e
    exact (m1.cell b d e).stay (Same.refl _) (upd_ne nb)
  · rintro i mm H2 ⟨rfl, hi, F2, h2, acc, accV, s2, m2, eD, ra, la, hD, fD, cp2⟩
    by_cases hlt : i < xs.length
    · rw [List.drop_eq_getElem_cons hlt] at cp2
      obtain ⟨o2, st⟩ := cp2
      obtain ⟨go, _⟩ := wk F2 h2 H2 s2.fs m2 o2
      obtain ⟨g1, g2⟩ := go i hlt
      refine .inr ⟨g1, fun H' => xs.length - (i + 1) = xs.length - (i + 1) ∧ ∃ F3 h3 acc' accV', Step F1 h1 H1 F3 h3 H' ∧ Sim R F3 h3 H' ∧ H' D = some (.lst accV') ∧ Reps R F3 acc' accV' ∧ acc'.length ≤ i + 1 ∧ h3 D = none ∧ F3 D = none ∧
        wCp ok (cpStep T elt tg own cnd r) (xs.drop (i + 1)) acc' h3 (fun ds h2 => mkL fz ds h2 Q0), ?_, ?_⟩
      · rintro H' ⟨_, q⟩
        exact ⟨xs.length - (i + 1), by omega, rfl, by omega, q⟩
      · intro y H3 hy
        obtain ⟨F3, d, s3, m3, ed, rd⟩ := g2 y H3 hy
        have ed' : xs[i] = d := by
          rw [List.getElem?_eq_getElem hlt] at ed
          exact Option.some.inj ed
        subst ed'
        -- what stays of D
        have keepD : ∀ {F4 : Hp} {h4 : Hv} {H4 : Hp}, Step F2 h2 H2 F4 h4 H4 → H4 D = some (.lst accV) ∧ h4 D = none ∧ F4 D = none := by
          intro F4 h4 H4 s
          refine ⟨s.frame D _ eD hD, ?_, ?_⟩
          · by_cases z : h4 D = none
            · exact z
            · rcases s.dom D z with q | q
              · exact absurd hD q
              · rw [eD] at q; cases q
          · by_cases z : F4 D = none
            · exact z
            · rcases s.fnew D z with q | q | q
              · exact absurd fD q
              · exact absurd hD q
              · rw [eD] at q; cases q
        refine ⟨F3, wipeE r own, _, _, ((re1.mono s2.fs).mono s3.fs).wipe own, m3.sub, rd, st, ?_⟩
        intro r' σ' re' ch w'
        refine ⟨(wipe_chg hsl ch).trans (wipe_wipe _ _), ?_⟩
        refine htt _ _ _ ⟨F3, h2, r', _, no, m3, re', w', ?_, cnx_no⟩
        intro b h4 F4 H4 s4 m4 w4
        have s24 := s3.trans s4
        refine iteB (fun hb => ?_) fun hb => ?_
        · refine hte _ _ _ ⟨F4, h4, r', _, no, m4, re'.mono s4.fs, w4.1 hb, ?_, cnx_no⟩
          intro d5 h5 F5 H5 v5 s5 m5 r5 w5
          have s25 := s24.trans s5
          obtain ⟨k1, k2, k3⟩ := keepD s25
          refine ⟨accV, k1, ?_, rfl, F5, h5, acc ++ [d5], accV ++ [v5], ?_, ?_, upd_same, (ra.mono s25.fs).append (.one r5), ?_, k2, k3, w5⟩
          · rw [← ra.length, ← lim_eq]; omega
          · have st := s2.trans s25
            refine ⟨st.fs, fun b o e n => ?_, st.dom, st.fnew⟩
            have nb : b ≠ D := by rintro rfl; rw [nD] at e; cases e
            rw [upd_ne nb]
            exact st.frame b o e n
          · refine ⟨fun b o e => ?_, fun b d e => ?_, m5.out⟩
            · have nb : b ≠ D := by rintro rfl; rw [k3] at e; cases e
              rw [upd_ne nb]; exact m5.sub b o e
            · have nb : b ≠ D := by rintro rfl; rw [k2] at e; cases e
              exact (m5.cell b d e).stay (Same.refl _) (upd_ne nb)
          · rw [List.length_append]; show acc.length + 1 ≤ i + 1; omega
        · obtain ⟨k1, k2, k3⟩ := keepD s24
          exact ⟨rfl, F4, h4, acc, accV, s2.trans s24, m4, k1, ra.mono s24.fs, by omega, k2, k3, w4.2 hb⟩
    · have e : i = xs.length := by omega
      subst e
      rw [List.drop_length] at cp2
      obtain ⟨o2, q2⟩ := cp2
      obtain ⟨_, stop⟩ := wk F2 h2 H2 s2.fs m2 o2
      refine .inl ⟨stop, ?_⟩
      have hback : h D ≠ none ∨ H D = none := s1.back nD
      have s12 := s1.trans s2
      cases fz with
      | true =>
        refine c (.lst acc) h2 (upd F2 D (.lst accV)) H2 (.ref D) ?_ ?_ (.lst upd_same (ra.mono (same_upd fD))) q2
        · refine ⟨s12.fs.trans (same_upd fD), s12.frame, s12.dom, fun b z => ?_⟩
          by_cases hb : b = D
          · subst hb
            rcases hback with q | q
            · exact .inr (.inl q)
            · exact .inr (.inr q)
          · rw [upd_ne hb] at z; exact s12.fnew b z
        · refine ⟨fun b o e => ?_, fun b d e => (m2.cell b d e).stay (same_upd fD) rfl, fun b d e => ?_⟩
          · by_cases hb : b = D
            · subst hb; rw [upd_same] at e; cases e; exact eD
            · rw [upd_ne hb] at e; exact m2.sub b o e
          · have nb : b ≠ D := by rintro rfl; rw [hD] at e; cases e
            rw [upd_ne nb]; exact m2.out b d e
      | false =>
        refine c (.loc D) (hup h2 D (.lst acc)) F2 H2 (.ref D) ?_ ?_ (.loc D) (q2 D hD)
        · refine ⟨s12.fs, s12.frame, fun b z => ?_, s12.fnew⟩
          by_cases hb : b = D
          · subst hb; exact hback
          · rw [hup_ne hb] at z; exact s12.dom b z
        · refine ⟨m2.sub, fun b d e => ?_, fun b d e => ?_⟩
          · by_cases hb : b = D
            · subst hb; rw [hup_same] at e; cases e; exact ⟨accV, eD, ra⟩
            · rw [hup_ne hb] at e; exact m2.cell b d e
          · by_cases hb : b = D
            · subst hb; exact fD
            · rw [hup_ne hb] at e; exact m2.out b d e
end
end VS

set_option Elab.async false
set_option linter.all false
set_option maxRecDepth 100000
set_option maxHeartbeats 8000000
/-! VS11: all expressions. -/
namespace VS
open PySem PySem.Spec PyProof.Rows L2
section
variable {I : SI} {R : RC} {XO : XOT} {T : Tab} {lev : Nat} {N : List Str}
theorem PTs.imp {X : Cx} {e : List Expr} {t t' : TT} (h : PTs X e t) (k : ∀ σ H Q, t' σ H Q → t σ H Q) : PTs X e t' := ⟨fun pins s σ H Q I q => h.run pins s σ H Q I (k _ _ _ q)⟩
theorem bl_cn {F H F1 H1 : Hp} {h h1 : Hv} {Q0 : Bool → Hv → Prop} {Q : Bool → Hp → Prop} (c : CnB R F h H Q0 Q) (s : Step F h H F1 h1 H1) (m : Sim R F1 h1 H1) {b : Bool} (q : Q0 b h1) : Q b H1 := c b h1 F1 H1 s m q
theorem CnB.step {F H F1 H1 : Hp} {h h1 : Hv} {Q0 : Bool → Hv → Prop} {Q : Bool → Hp → Prop} (c : CnB R F h H Q0 Q) (s : Step F h H F1 h1 H1) : CnB R F1 h1 H1 Q0 Q := fun b h' F' H' s' m q => c b h' F' H' (s.trans s') m q
theorem tk0 {X : Cx} : Takes X W0 := takes0
mutual
theorem sE : ∀ (e : E) (x : Expr) (sc : Scope) (allc : Bool) (X : Cx) (W : WX), Good I R XO T lev N sc allc X → Takes X W → mE I N sc e x = true → PE X x (tE R XO W T e)
  | .var i, x, sc, allc, X, W, G, tk, h => by
    unfold mE at h
    split at h
    · simp only [Bool.and_eq_true, beq_iff_eq] at h
      exact s_var G h.1.1 h.1.2 h.2
    · cases h
  | .cst d, x, sc, allc, X, W, G, tk, h => by
    unfold mE at h
    split at h
    · exact s_cst h
    · cases h
  | .glob i, x, sc, allc, X, W, G, tk, h => by
    unfold mE at h
    split at h
    · simp only [Bool.and_eq_true, beq_iff_eq] at h
      exact s_glob G h.1.1 h.1.2 h.2
    · cases h
  | .bop fz o a b, x, sc, allc, X, W, G, tk, h => by
    unfold mE at h
    split at h
    · simp only [Bool.and_eq_true, beq_iff_eq] at h
      obtain ⟨⟨rfl, h1⟩, h2⟩ := h
      exact s_bop G (sE a _ sc allc X W G tk h1) (sE b _ sc allc X W G tk h2)
    · cases h
  | .neg a, x, sc, allc, X, W, G, tk, h => by
    unfold mE at h
    split at h
    · exact s_neg (sE a _ sc allc X W G tk h)
    · cases h
  | .not a, x, sc, allc, X, W, G, tk, h => by
    unfold mE at h
    split at h
    · exact s_not (sE a _ sc allc X W G tk h)
    · cases h
  | .cmp o a b, x, sc, allc, X, W, G, tk, h => by
    unfold mE at h
    split at h
    · simp only [Bool.and_eq_true, beq_iff_eq] at h
      obtain ⟨⟨⟨rfl, h1⟩, h2⟩, h3⟩ := h
      exact s_cmp G h3 (sE a _ sc allc X W G tk h1) (sE b _ sc allc X W G tk h2)
    · cases h
  | .chn o o' a b c, x, sc, allc, X, W, G, tk, h => by
    unfold mE at h
    split at h
    · simp only [Bool.and_eq_true, beq_iff_eq] at h
      obtain ⟨⟨⟨⟨⟨rfl, rfl⟩, h1⟩, h2⟩, h3⟩, h4⟩ := h
      exact s_chn G h4 (sE a _ sc allc X W G tk h1) (sE b _ sc allc X W G tk h2) (sE c _ sc allc X W G tk h3)
    · cases h
  | .andv as, x, sc, allc, X, W, G, tk, h => by
    unfold mE at h
    split at h
    · refine PE.imp (sAn as _ sc allc X W G tk h _) ?_
      exact fun σ H Q q => q
    · cases h
  | .orv as, x, sc, allc, X, W, G, tk, h => by
    unfold mE at h
    split at h
    · refine PE.imp (sOr as _ sc allc X W G tk h _) ?_
      exact fun σ H Q q => q
    · cases h
  | .ite c a b, x, sc, allc, X, W, G, tk, h => by
    unfold mE at h
    split at h
    · simp only [Bool.and_eq_true] at h
      exact s_ite (sC c _ sc allc X W G tk h.1.1) (sE a _ sc allc X W G tk h.1.2) (sE b _ sc allc X W G tk h.2)
    · cases h
  | .tup as, x, sc, allc, X, W, G, tk, h => by
    unfold mE at h
    split at h
    · exact s_tup (sEs as _ sc allc X W G tk h).1
    · cases h
  | .lst fz as, x, sc, allc, X, W, G, tk, h => by
    unfold mE at h
    split at h
    · exact s_lst (sEs as _ sc allc X W G tk h).1
    · cases h
  | .ix a i, x, sc, allc, X, W, G, tk, h => by
    unfold mE at h
    split at h
    · simp only [Bool.and_eq_true] at h
      exact s_ix G h.2 (sE a _ sc allc X W G tk h.1.1) (sE i _ sc allc X W G tk h.1.2)
    · cases h
  | .slc fz a lo hi, x, sc, allc, X, W, G, tk, h => by
    unfold mE at h
    split at h
    · simp only [Bool.and_eq_true] at h
      exact s_slc G (sE a _ sc allc X W G tk h.1.1) (sO lo _ sc allc X W G tk h.1.2) (sO hi _ sc allc X W G tk h.2)
    · cases h
  | .rev fz a, x, sc, allc, X, W, G, tk, h => by
    unfold mE at h
    split at h
    · exact s_rev (sE a _ sc allc X W G tk h) G
    · cases h
  | .call f as, x, sc, allc, X, W, G, tk, h => by
    unfold mE at h
    split at h
    · simp only [Bool.and_eq_true, beq_iff_eq] at h
      obtain ⟨p, q⟩ := sEs as _ sc allc X W G tk h.2
      exact s_call G tk h.1.1.1 h.1.1.2 h.1.2 q p
    · cases h
  | .bi b as, x, sc, allc, X, W, G, tk, h => by
    unfold mE at h
    split at h
    · simp only [Bool.and_eq_true, beq_iff_eq] at h
      obtain ⟨⟨rfl, h1⟩, h2⟩ := h
      obtain ⟨p, q⟩ := sEs as _ sc allc X W G tk h2
      exact s_bi G h1 q p
    · cases h
  | .lrng1 fz a, x, sc, allc, X, W, G, tk, h => by
    unfold mE at h
    split at h
    · simp only [Bool.and_eq_true, beq_iff_eq] at h
      obtain ⟨⟨⟨⟨⟨rfl, rfl⟩, h1⟩, h2⟩, h3⟩, h4⟩ := h
      exact s_lrng1 G h1 h2 h4 (sE a _ sc allc X W G tk h3)
    · cases h
  | .lrng2 fz a b, x, sc, allc, X, W, G, tk, h => by
    unfold mE at h
    split at h
    · simp only [Bool.and_eq_true, beq_iff_eq] at h
      obtain ⟨⟨⟨⟨⟨⟨⟨rfl, rfl⟩, h1⟩, h2⟩, h3⟩, h4⟩, h5⟩, h6⟩ := h
      exact s_lrng2 G h1 h2 h5 h6 (sE a _ sc allc X W G tk h3) (sE b _ sc allc X W G tk h4)
    · cases h
  | .isi a tys, x, sc, allc, X, W, G, tk, h => by
    unfold mE at h
    split at h
    · simp only [Bool.and_eq_true, beq_iff_eq, decide_eq_true_eq] at h
      obtain ⟨⟨⟨⟨⟨rfl, h1⟩, h2⟩, h3⟩, h4⟩, h5⟩ := h
      exact s_isi G h1 h3 h4 h5 (sE a _ sc allc X W G tk h2)
    · cases h
  | .isx _ _, x, sc, allc, X, W, G, tk, h => by unfold mE at h; cases h
  | .fld _ _, x, sc, allc, X, W, G, tk, h => by unfold mE at h; cases h
  | .mt m o as, x, sc, allc, X, W, G, tk, h => by
    unfold mE at h
    split at h
    · simp only [Bool.and_eq_true, beq_iff_eq, decide_eq_true_eq] at h
      obtain ⟨⟨⟨⟨⟨⟨rfl, h1⟩, h2⟩, h3⟩, h4⟩, h5⟩, h6⟩ := h
      obtain ⟨p, q⟩ := sEs as _ sc allc X W G tk h3
      refine s_mt G h1 h6 (beq_iff_eq.mpr h4) h5 q (sE o _ sc allc X W G tk h2) p fun e => ?_
      subst e
      cases as with
      | nil => rfl
      | cons _ _ => unfold mEs at h3; cases h3
    · cases h
  | .comp fz elt tg own it cnd, x, sc, allc, X, W, G, tk, h => by
    unfold mE at h
    split at h
    · simp only [Bool.and_eq_true, decide_eq_true_eq] at h
      obtain ⟨⟨⟨⟨⟨⟨⟨h1, h2⟩, h3⟩, h4⟩, h5⟩, h6⟩, h7⟩, h8⟩ := h
      have hsl : ∀ i ∈ Tg.slots tg, i ∈ own.map (·.2) := fun i hi => by
        have z := List.all_eq_true.mp h5 i hi
        simpa using z
      refine PE.imp (pe_lc G.calm (by rw [G.hN]; exact G.nd) (sI it _ _ sc allc X W G tk h1) (by rw [G.hN, G.hsc]; exact blkOk_by h3)
        (fun s H C cl fp => (s_tg G.blk tg _ h4).1) (fun s H C cl fp => sCs1 cnd _ _ false _ W0 G.blk tk0 h7 h8) (fun s H C cl fp => sE elt _ _ false _ W0 G.blk tk0 h6) (noSet_fold h2)) ?_
      exact fun σ H Q q => comp_read hsl (fun _ _ _ z => z) (fun _ _ _ z => z) σ H Q q
    · cases h
  | .frz a, x, sc, allc, X, W, G, tk, h => by
    unfold mE at h
    refine PE.imp (sE a _ sc allc X W G tk h) ?_
    rintro σ H Q ⟨F, h, r, Q0, X0, m, re, w, c, cx⟩
    refine seqE m re w cx fun d h1 F1 H1 v s1 m1 r1 re1 cx1 w1 => ?_
    have c1 := c.step s1
    cases d with
    | loc a =>
      obtain ⟨xs, e, q⟩ := w1
      obtain ⟨vs, rr, m', s'⟩ := m1.freeze e
      have ev := r1.locV
      subst ev
      exact c1 _ _ _ _ _ s' m' (.lst upd_same (rr.mono s'.fs)) q
    | _ => exact c1.now m1 r1 w1
  | .dnew b, x, sc, allc, X, W, G, tk, h => by
    unfold mE at h
    split at h
    · cases b with
      | true =>
        refine PE.imp pe_dnewT ?_
        rintro σ H Q ⟨F, h, r, Q0, X0, m, re, w, c, cx⟩
        intro a n
        obtain ⟨m', s'⟩ := m.newCell (c := .dT []) (o := .dT []) n ⟨[], upd_same, .nil⟩
        exact c _ _ _ _ _ s' m' (.loc a) (w a (m.nh n))
      | false =>
        refine PE.imp pe_dnewK ?_
        rintro σ H Q ⟨F, h, r, Q0, X0, m, re, w, c, cx⟩
        intro a n
        obtain ⟨m', s'⟩ := m.newCell (c := .dK []) (o := .dK []) n ⟨[], upd_same, .nil⟩
        exact c _ _ _ _ _ s' m' (.loc a) (w a (m.nh n))
    · cases h
theorem sEs : ∀ (e : Es) (xs : List Expr) (sc : Scope) (allc : Bool) (X : Cx) (W : WX), Good I R XO T lev N sc allc X → Takes X W → mEs I N sc e xs = true → PA X xs (tEs R XO W T e) ∧ xs.all noStar = true
  | .nil, xs, sc, allc, X, W, G, tk, h => by
    unfold mEs at h
    split at h
    · refine ⟨PA.imp pa_nil ?_, rfl⟩
      rintro σ H Q ⟨F, h, r, Q0, X0, m, re, w, c, cx⟩
      exact c [] h F H [] Step.refl m .nil w
    · cases h
  | .cons e es, xs, sc, allc, X, W, G, tk, h => by
    unfold mEs at h
    split at h
    · simp only [Bool.and_eq_true] at h
      obtain ⟨⟨h1, h2⟩, h3⟩ := h
      obtain ⟨p, q⟩ := sEs es _ sc allc X W G tk h3
      refine ⟨PA.imp (pa_cons (sE e _ sc allc X W G tk h1) p (noStar_each h2)) ?_, by rw [List.all_cons, h2, q]; rfl⟩
      rintro σ H Q ⟨F, h, r, Q0, X0, m, re, w, c, cx⟩
      refine seqE m re w cx fun d h1 F1 H1 v s1 m1 r1 re1 cx1 w1 => ?_
      refine seqEs m1 re1 w1 cx1 fun d2 h2 F2 H2 v2 s2 m2 r2 re2 cx2 w2 => ?_
      exact c _ _ _ _ _ (s1.trans s2) m2 (.cons (r1.mono s2.fs) r2) w2
    · cases h
theorem sAn : ∀ (e : Es) (xs : List Expr) (sc : Scope) (allc : Bool) (X : Cx) (W : WX), Good I R XO T lev N sc allc X → Takes X W → mEs I N sc e xs = true → ∀ p, PE X (.BoolOp .And xs p) (tAn R XO W T e)
  | .nil, xs, sc, allc, X, W, G, tk, h, p => ⟨fun pins s σ H Q I0 z => by
    obtain ⟨F, h, r, Q0, X0, m, re, w, c, cx⟩ := z
    exact w.elim⟩
  | .cons e es, xs, sc, allc, X, W, G, tk, h, p => by
    unfold mEs at h
    split at h
    · simp only [Bool.and_eq_true] at h
      obtain ⟨⟨h1, h2⟩, h3⟩ := h
      have pe := sE e _ sc allc X W G tk h1
      have pr := sAn es _ sc allc X W G tk h3 p
      cases es with
      | nil =>
        unfold mEs at h3
        split at h3
        · exact PE.imp (pe_one pe) fun σ H Q q => q
        · cases h3
      | cons e' es' =>
        rename_i y ys
        cases ys with
        | nil => unfold mEs at h3; cases h3
        | cons y' ys' =>
          refine PE.imp (pe_and pe pr) ?_
          rintro σ H Q ⟨F, h, r, Q0, X0, m, re, w, c, cx⟩
          refine seqE m re w cx fun d h1 F1 H1 v s1 m1 r1 re1 cx1 w1 => ?_
          obtain ⟨k, rfl, w1⟩ := w1
          refine ⟨k, r1.blV, iteB (fun hk => ?_) fun hk => ?_⟩
          · exact ⟨F1, h1, r, Q0, X0, m1, re1, w1.1 hk, c.step s1, cx1⟩
          · exact (c.step s1).ofBl m1 (w1.2 hk)
    · cases h
theorem sOr : ∀ (e : Es) (xs : List Expr) (sc : Scope) (allc : Bool) (X : Cx) (W : WX), Good I R XO T lev N sc allc X → Takes X W → mEs I N sc e xs = true → ∀ p, PE X (.BoolOp .Or xs p) (tOr' R XO W T e)
  | .nil, xs, sc, allc, X, W, G, tk, h, p => ⟨fun pins s σ H Q I0 z => by
    obtain ⟨F, h, r, Q0, X0, m, re, w, c, cx⟩ := z
    exact w.elim⟩
  | .cons e es, xs, sc, allc, X, W, G, tk, h, p => by
    unfold mEs at h
    split at h
    · simp only [Bool.and_eq_true] at h
      obtain ⟨⟨h1, h2⟩, h3⟩ := h
      have pe := sE e _ sc allc X W G tk h1
      have pr := sOr es _ sc allc X W G tk h3 p
      cases es with
      | nil =>
        unfold mEs at h3
        split at h3
        · exact PE.imp (pe_one pe) fun σ H Q q => q
        · cases h3
      | cons e' es' =>
        rename_i y ys
        cases ys with
        | nil => unfold mEs at h3; cases h3
        | cons y' ys' =>
          refine PE.imp (pe_or pe pr) ?_
          rintro σ H Q ⟨F, h, r, Q0, X0, m, re, w, c, cx⟩
          refine seqE m re w cx fun d h1 F1 H1 v s1 m1 r1 re1 cx1 w1 => ?_
          obtain ⟨k, rfl, w1⟩ := w1
          refine ⟨k, r1.blV, iteB (fun hk => ?_) fun hk => ?_⟩
          · exact (c.step s1).ofBl m1 (w1.1 hk)
          · exact ⟨F1, h1, r, Q0, X0, m1, re1, w1.2 hk, c.step s1, cx1⟩
    · cases h
theorem sO : ∀ (e : O) (x : Option Expr) (sc : Scope) (allc : Bool) (X : Cx) (W : WX), Good I R XO T lev N sc allc X → Takes X W → mO I N sc e x = true → PO X x (tO R XO W T e)
  | .none, x, sc, allc, X, W, G, tk, h => by
    unfold mO at h
    split at h
    · refine PO.imp po_none ?_
      rintro σ H Q ⟨F, h, r, Q0, X0, m, re, w, c, cx⟩
      exact c _ _ _ _ Step.refl m w
    · cases h
  | .some e, x, sc, allc, X, W, G, tk, h => by
    unfold mO at h
    split at h
    · refine PO.imp (po_some (sE e _ sc allc X W G tk h)) ?_
      rintro σ H Q ⟨F, h, r, Q0, X0, m, re, w, c, cx⟩
      refine seqE m re w cx fun d h1 F1 H1 v s1 m1 r1 re1 cx1 w1 => ?_
      obtain ⟨i, rfl, w1⟩ := w1
      exact ⟨i, r1.intV, c _ _ _ _ s1 m1 w1⟩
    · cases h
theorem sC : ∀ (e : C) (x : Expr) (sc : Scope) (allc : Bool) (X : Cx) (W : WX), Good I R XO T lev N sc allc X → Takes X W → mC I N sc e x = true → PT X x (tC R XO W T e)
  | .val e, x, sc, allc, X, W, G, tk, h => by
    unfold mC at h
    simp only [Bool.and_eq_true] at h
    refine PT.imp (pt_val (sE e _ sc allc X W G tk h.1) (plainT_is h.2)) ?_
    rintro σ H Q ⟨F, h, r, Q0, X0, m, re, w, c, cx⟩
    refine seqE m re w cx fun d h1 F1 H1 v s1 m1 r1 re1 cx1 w1 => ?_
    obtain ⟨i, rfl, w1⟩ := w1
    exact ⟨i, r1.blV, c _ _ _ _ s1 m1 w1⟩
  | .cmp o a b, x, sc, allc, X, W, G, tk, h => by
    unfold mC at h
    split at h
    · simp only [Bool.and_eq_true, beq_iff_eq] at h
      obtain ⟨⟨⟨rfl, h1⟩, h2⟩, h3⟩ := h
      exact t_cmp G h3 (sE a _ sc allc X W G tk h1) (sE b _ sc allc X W G tk h2)
    · cases h
  | .chn o o' a b c, x, sc, allc, X, W, G, tk, h => by
    unfold mC at h
    split at h
    · simp only [Bool.and_eq_true, beq_iff_eq] at h
      obtain ⟨⟨⟨⟨⟨rfl, rfl⟩, h1⟩, h2⟩, h3⟩, h4⟩ := h
      exact t_chn G h4 (sE a _ sc allc X W G tk h1) (sE b _ sc allc X W G tk h2) (sE c _ sc allc X W G tk h3)
    · cases h
  | .not c, x, sc, allc, X, W, G, tk, h => by
    unfold mC at h
    split at h
    · refine PT.imp (pt_not (sC c _ sc allc X W G tk h)) ?_
      rintro σ H Q ⟨F, h, r, Q0, X0, m, re, w, c, cx⟩
      exact seqC m re w cx fun d h1 F1 H1 s1 m1 re1 cx1 w1 => c _ _ _ _ s1 m1 w1
    · cases h
  | .and cs, x, sc, allc, X, W, G, tk, h => by
    unfold mC at h
    split at h
    · simp only [Bool.and_eq_true] at h
      exact PT.imp (sCsA cs _ sc allc X W G tk h.1 (by rintro rfl; cases h.2) _).pt fun σ H Q q => q
    · cases h
  | .or cs, x, sc, allc, X, W, G, tk, h => by
    unfold mC at h
    split at h
    · simp only [Bool.and_eq_true] at h
      exact PT.imp (sCsO cs _ sc allc X W G tk h.1 (by rintro rfl; cases h.2) _).pt fun σ H Q q => q
    · cases h
theorem sCsA : ∀ (e : Cs) (xs : List Expr) (sc : Scope) (allc : Bool) (X : Cx) (W : WX), Good I R XO T lev N sc allc X → Takes X W → mCs I N sc e xs = true → xs ≠ [] → ∀ p, PW X (.BoolOp .And xs p) (tAC R XO W T e)
  | .nil, xs, sc, allc, X, W, G, tk, h, hne, p => by
    unfold mCs at h
    split at h
    · exact absurd rfl hne
    · cases h
  | .cons e es, xs, sc, allc, X, W, G, tk, h, hne, p => by
    unfold mCs at h
    split at h
    · simp only [Bool.and_eq_true] at h
      rename_i y ys
      have pe := sC e _ sc allc X W G tk h.1
      cases ys with
      | nil =>
        cases es with
        | nil =>
          refine PW.imp (pw_and1 pe) ?_
          rintro σ H Q ⟨F, h, r, Q0, X0, m, re, w, c, cx⟩
          refine seqC m re w cx fun d h1 F1 H1 s1 m1 re1 cx1 w1 => ?_
          cases d with
          | true => exact c _ _ _ _ s1 m1 (w1.1 rfl)
          | false => exact c _ _ _ _ s1 m1 (w1.2 rfl)
        | cons _ _ => have z := h.2; unfold mCs at z; cases z
      | cons y' ys' =>
        refine PW.imp (pw_and pe (sCsA es _ sc allc X W G tk h.2 (by simp) p)) ?_
        rintro σ H Q ⟨F, h, r, Q0, X0, m, re, w, c, cx⟩
        refine seqC m re w cx fun d h1 F1 H1 s1 m1 re1 cx1 w1 => iteB (fun hk => ?_) fun hk => ?_
        · exact ⟨F1, h1, r, Q0, X0, m1, re1, w1.1 hk, c.step s1, cx1⟩
        · exact c _ _ _ _ s1 m1 (w1.2 hk)
    · cases h
theorem sCsO : ∀ (e : Cs) (xs : List Expr) (sc : Scope) (allc : Bool) (X : Cx) (W : WX), Good I R XO T lev N sc allc X → Takes X W → mCs I N sc e xs = true → xs ≠ [] → ∀ p, PW X (.BoolOp .Or xs p) (tOC R XO W T e)
  | .nil, xs, sc, allc, X, W, G, tk, h, hne, p => by
    unfold mCs at h
    split at h
    · exact absurd rfl hne
    · cases h
  | .cons e es, xs, sc, allc, X, W, G, tk, h, hne, p => by
    unfold mCs at h
    split at h
    · simp only [Bool.and_eq_true] at h
      rename_i y ys
      have pe := sC e _ sc allc X W G tk h.1
      cases ys with
      | nil =>
        cases es with
        | nil =>
          refine PW.imp (pw_or1 pe) ?_
          rintro σ H Q ⟨F, h, r, Q0, X0, m, re, w, c, cx⟩
          refine seqC m re w cx fun d h1 F1 H1 s1 m1 re1 cx1 w1 => ?_
          cases d with
          | true => exact c _ _ _ _ s1 m1 (w1.1 rfl)
          | false => exact c _ _ _ _ s1 m1 (w1.2 rfl)
        | cons _ _ => have z := h.2; unfold mCs at z; cases z
      | cons y' ys' =>
        refine PW.imp (pw_or pe (sCsO es _ sc allc X W G tk h.2 (by simp) p)) ?_
        rintro σ H Q ⟨F, h, r, Q0, X0, m, re, w, c, cx⟩
        refine seqC m re w cx fun d h1 F1 H1 s1 m1 re1 cx1 w1 => iteB (fun hk => ?_) fun hk => ?_
        · exact c _ _ _ _ s1 m1 (w1.1 hk)
        · exact ⟨F1, h1, r, Q0, X0, m1, re1, w1.2 hk, c.step s1, cx1⟩
    · cases h
/-- a comprehension's condition, or none -/
theorem sCs1 : ∀ (e : Cs) (xs : List Expr) (sc : Scope) (allc : Bool) (X : Cx) (W : WX), Good I R XO T lev N sc allc X → Takes X W → mCs I N sc e xs = true → xs.length ≤ 1 → PTs X xs (tAC R XO W T e)
  | .nil, xs, sc, allc, X, W, G, tk, h, hl => by
    unfold mCs at h
    split at h
    · refine PTs.imp pts_nil ?_
      rintro σ H Q ⟨F, h, r, Q0, X0, m, re, w, c, cx⟩
      exact c _ _ _ _ Step.refl m w
    · cases h
  | .cons e es, xs, sc, allc, X, W, G, tk, h, hl => by
    unfold mCs at h
    split at h
    · simp only [Bool.and_eq_true] at h
      rename_i y ys
      have pe := sC e _ sc allc X W G tk h.1
      cases ys with
      | nil =>
        cases es with
        | nil =>
          refine PTs.imp (pts_one pe) ?_
          rintro σ H Q ⟨F, h, r, Q0, X0, m, re, w, c, cx⟩
          refine seqC m re w cx fun d h1 F1 H1 s1 m1 re1 cx1 w1 => ?_
          cases d with
          | true => exact c _ _ _ _ s1 m1 (w1.1 rfl)
          | false => exact c _ _ _ _ s1 m1 (w1.2 rfl)
        | cons _ _ => have z := h.2; unfold mCs at z; cases z
      | cons y' ys' => simp at hl
    · cases h
theorem sI : ∀ (it : It) (tg x : Expr) (sc : Scope) (allc : Bool) (X : Cx) (W : WX), Good I R XO T lev N sc allc X → Takes X W → mI I N sc it tg x = true → PI X tg x (tI R XO W T it)
  | .seq a, tg, x, sc, allc, X, W, G, tk, h => by
    unfold mI at h
    exact s_seq G (sE a _ sc allc X W G tk h)
  | .rng1 a, tg, x, sc, allc, X, W, G, tk, h => by
    unfold mI at h
    split at h
    · simp only [Bool.and_eq_true, beq_iff_eq] at h
      obtain ⟨⟨⟨rfl, h1⟩, h2⟩, h3⟩ := h
      exact s_rng1 G h1 h3 (sE a _ sc allc X W G tk h2)
    · cases h
  | .rng2 a b, tg, x, sc, allc, X, W, G, tk, h => by
    unfold mI at h
    split at h
    · simp only [Bool.and_eq_true, beq_iff_eq] at h
      obtain ⟨⟨⟨⟨⟨rfl, h1⟩, h2⟩, h3⟩, h4⟩, h5⟩ := h
      exact s_rng2 G h1 h4 h5 (sE a _ sc allc X W G tk h2) (sE b _ sc allc X W G tk h3)
    · cases h
  | .enm a, tg, x, sc, allc, X, W, G, tk, h => by
    unfold mI at h
    split at h
    · simp only [Bool.and_eq_true, beq_iff_eq] at h
      obtain ⟨⟨⟨⟨rfl, h1⟩, h2⟩, h3⟩, h4⟩ := h
      exact s_enm G h4 h1 h3 (sE a _ sc allc X W G tk h2)
    · cases h
  | .zip2 a b, tg, x, sc, allc, X, W, G, tk, h => by
    unfold mI at h
    split at h
    · simp only [Bool.and_eq_true, beq_iff_eq] at h
      obtain ⟨⟨⟨⟨⟨⟨rfl, h1⟩, h2⟩, h3⟩, h4⟩, h5⟩, h6⟩ := h
      exact s_zip2 G h6 h1 h4 h5 (sE a _ sc allc X W G tk h2) (sE b _ sc allc X W G tk h3)
    · cases h
  | .zip3 _ _ _, tg, x, sc, allc, X, W, G, tk, h => by unfold mI at h; cases h
  | .sgn a, tg, x, sc, allc, X, W, G, tk, h => by
    unfold mI at h
    exact s_sgn G (sE a _ sc allc X W G tk h)
end
end
end VS

set_option Elab.async false
set_option linter.all false
set_option maxRecDepth 100000
set_option maxHeartbeats 8000000
/-! VS12: statements, defs. -/
namespace VS
open PySem PySem.Spec PyProof.Rows L2

def noComp : Expr → Bool
  | .ListComp _ _ _ _ => false | .SetComp _ _ _ _ => false | .DictComp _ _ _ _ _ => false
  | _ => true
theorem noComp_sw {e : Expr} {t : Option Expr} {l : Nat} {env : PySem.Env} (h : noComp e = true) : swapsWith e t l env = pure false := by
  cases e <;> first | rfl | cases h
def isCompE : E → Bool
  | .comp _ _ _ _ _ _ => true
  | _ => false
def isNmX : Expr → Bool
  | .Name _ _ => true
  | _ => false
/-- the pair's stores are told: two names of the frame's own, on one line, distinct; not constants alone -/
def parOk (sc : Scope) (x y : Str) (px py : Pos) (a b : Expr) : Bool :=
  (match sc.names.lookup x with | some .local => true | _ => false) && (match sc.names.lookup y with | some .local => true | _ => false) && px.line == py.line && !(x == y) && noStar a && noStar b &&
    !([a, b].all (foldedForSure 8)) && !([a, b].all (constantsAlone 8)) && (match sc.kind with | .function => true | _ => false)
section
variable (I : SI) (N : List Str) (sc : Scope)
mutual
def mS : S → Stmt → Bool
  | .asg tg e, x => match x with
    | .Assign [t] v p => mTg N sc true tg t && mE I N sc e v && (match v with
      | .ListComp _ _ csc cp => isCompE e && (match t with
        | .Name y py => (match sc.names.lookup y with | some .local => true | _ => false) && py.line == cp.line && !(csc.names.any fun (n, k) => n == y && (k == .local || k == .cell)) && (match sc.kind with | .function => true | _ => false)
        | _ => false)
      | .Tuple _ _ _ => isNmX t
      | _ => noComp v)
    | _ => false
  | .par i j a b, x => match x with
    | .Assign [.Tuple [.Name x1 p1, .Name x2 p2] _ _] (.Tuple [y1, y2] _ _) p => N[i]? == some x1 && N[j]? == some x2 && parOk sc x1 x2 p1 p2 y1 y2 && !(i == j) && mE I N sc a y1 && mE I N sc b y2
    | _ => false
  | .asgIx o i e, x => match x with
    | .Assign [.Subscript y z _] v p => mE I N sc o y && mE I N sc i z && noSlice z && mE I N sc e v
    | _ => false
  | .aug i e, x => match x with
    | .AugAssign (.Name x1 _) .Add v _ => N[i]? == some x1 && stoB sc true x1 && mE I N sc e v
    | _ => false
  | .ex e, x => match x with
    | .Expr v p => mE I N sc e v && noComp v
    | _ => false
  | .ret e, x => match x with
    | .Return (some v) _ => mE I N sc e v
    | _ => false
  | .ret0, x => match x with
    | .Return none _ => true
    | _ => false
  | .ife c t f, x => match x with
    | .If c' t' f' _ => mC I N sc c c' && mSs t t' && mSs f f'
    | _ => false
  | .whl c b, x => match x with
    | .While c' b' [] _ => mC I N sc c c' && mSs b b'
    | _ => false
  | .fr tg it b, x => match x with
    | .For t i' b' [] _ => mTg N sc true tg t && mI I N sc it t i' && noSet i' && mSs b b'
    | _ => false
  | .rs _ _, _ => false
  | .tr _ _ _ _, _ => false
  | .never, _ => true
def mSs : Ss → List Stmt → Bool
  | .nil, xs => match xs with
    | [] => true
    | _ => false
  | .cons s ss, xs => match xs with
    | x :: r => mS s x && mSs ss r
    | [] => false
end
end
structure KC (R : RC) (XO : XOT) (W : WX) (F : Hp) (h : Hv) (H : Hp) (k : Ks) (D : Ends) : Prop where
  nx : ∀ r' h' F' H' σ', Step F h H F' h' H' → Sim R F' h' H' → REnv R F' r' σ' → k.nx r' h' → D.nx σ' H'
  rt : ∀ d h' F' H' v, Step F h H F' h' H' → Sim R F' h' H' → Rep R F' d v → k.rt d h' → D.rt v H'
  ex : ∀ c fs r' h' F' H' σ' cls dx, Step F h H F' h' H' → Sim R F' h' H' → REnv R F' r' σ' → XO c fs cls dx F' → k.ex c fs r' h' → W cls dx σ' H'
theorem KC.step {R : RC} {XO : XOT} {W : WX} {F F1 H H1 : Hp} {h h1 : Hv} {k : Ks} {D : Ends} (c : KC R XO W F h H k D) (s : Step F h H F1 h1 H1) : KC R XO W F1 h1 H1 k D :=
  ⟨fun r' h' F' H' σ' s' m re q => c.nx r' h' F' H' σ' (s.trans s') m re q, fun d h' F' H' v s' m re q => c.rt d h' F' H' v (s.trans s') m re q, fun cc fs r' h' F' H' σ' cls dx s' m re xo q => c.ex cc fs r' h' F' H' σ' cls dx (s.trans s') m re xo q⟩
theorem KC.cnx {R : RC} {XO : XOT} {W : WX} {F H : Hp} {h : Hv} {k : Ks} {D : Ends} (c : KC R XO W F h H k D) {r : VS.Env} {σ : L2.St} (re : REnv R F r σ) : CnX R XO F h H (fun cc fs h1 => k.ex cc fs r h1) fun cc d H' => W cc d σ H' :=
  fun cc fs h' F' H' cls dx s m xo q => c.ex cc fs r h' F' H' σ cls dx s m (re.mono s.fs) xo q
section
variable (R : RC) (XO : XOT) (W : WX) (T : Tab)
def tS (s : S) : TS := fun D σ H => ∃ F h r k, Sim R F h H ∧ REnv R F r σ ∧ wS T s r h k ∧ KC R XO W F h H k D
def tSs (s : Ss) : TS := fun D σ H => ∃ F h r k, Sim R F h H ∧ REnv R F r σ ∧ wSs T s r h k ∧ KC R XO W F h H k D
end
theorem PS.imp {X : Cx} {e : Stmt} {t t' : TS} (h : PS X e t) (k : ∀ D σ H, t' D σ H → t D σ H) : PS X e t' := ⟨fun pins s σ H D I q => h.run pins s σ H D I (k _ _ _ q)⟩
theorem PSs.imp {X : Cx} {e : List Stmt} {t t' : TS} (h : PSs X e t) (k : ∀ D σ H, t' D σ H → t D σ H) : PSs X e t' := ⟨fun pins s σ H D I q => h.run pins s σ H D I (k _ _ _ q)⟩
section
variable {I : SI} {R : RC} {XO : XOT} {T : Tab} {lev : Nat} {N : List Str} {sc : Scope}
theorem tupSwap {k1 k2 : Nat} {p1 p2 : Pos} {env : PySem.Env} {x y : Str} {px py : Pos} {a b : Expr} (h : parOk env.scope x y px py a b = true) :
    swappedStores [.Tuple [.Name x px, .Name y py] k1 p1] (.Tuple [a, b] k2 p2) env = pure (some [x, y]) := by
  unfold parOk at h
  simp only [Bool.and_eq_true] at h
  obtain ⟨⟨⟨⟨⟨⟨⟨⟨h1, h2⟩, h3⟩, h4⟩, h5⟩, h6⟩, h7⟩, h8⟩, h9⟩ := h
  have kx : env.kindOf x = some .local := by
    show env.scope.names.lookup x = _
    split at h1
    · assumption
    · cases h1
  have ky : env.kindOf y = some .local := by
    show env.scope.names.lookup y = _
    split at h2
    · assumption
    · cases h2
  have kk : env.scope.kind = .function := by
    split at h9
    · assumption
    · cases h9
  have kb : env.blockKind = .function := by unfold PySem.Env.blockKind; rw [kk]; rfl
  have hl : (px.line == px.line) = true := beq_self_eq_true _
  have h3' : py.line = px.line := (beq_iff_eq.mp h3).symm
  have hxy : (x == y) = false := by simpa using h4
  have hyx : ¬ (y = x) := fun e => by rw [e] at hxy; simp at hxy
  have st : ∀ e : Expr, noStar e = true → (match e with | .Starred .. => true | _ => false) = false := by
    intro e he
    cases e <;> first | rfl | cases he
  have h7' : ([a, b].all (foldedForSure 8)) = false := by rw [Bool.not_eq_true'] at h7; exact h7
  have h8' : ([a, b].all (constantsAlone 8)) = false := by rw [Bool.not_eq_true'] at h8; exact h8
  have hyx' : (y == x) = false := by simpa using hyx
  unfold swappedStores
  simp only [List.length_cons, List.length_nil, kb, h7', h8', List.head?_cons, Option.map_some, Option.getD_some, List.filterMap_cons, List.filterMap_nil, kx, ky, h3', Expr.pos]
  simp [List.eraseDups, List.eraseDupsBy, List.eraseDupsBy.loop, hyx']
  rintro (hh | hh)
  · cases (st a h5).symm.trans hh
  · cases (st b h6).symm.trans hh
theorem swN_single {t : Expr} {v : Expr} {env : PySem.Env} (h : (match v with | .Tuple _ _ _ => isNmX t | _ => true) = true) : swappedStores [t] v env = pure none := by
  cases v <;> first | (cases t <;> rfl) | skip
  have h : isNmX t = true := h
  cases t <;> first | rfl | cases h
theorem asg_each {t : Expr} {env : PySem.Env} (h : noStar t = true) : (assignEach [t] env).map (·.2) = [assign t env] := by
  rw [asgEach_of h]; rfl
theorem asg_sub {o i : Expr} {p : Pos} {env : PySem.Env} (h : noSlice i = true) : ∀ v, assign (.Subscript o i p) env v = (do
    let ov ← holding [v] (eval o env)
    let iv ← holding [v, ov] (eval i env)
    standAt p
    holding [v, ov, iv] (setItem ov iv v)
    release [v, ov, iv] []) := by
  intro v
  cases i <;> first | rfl | cases h
theorem lst_chain {W : WX} {X : Cx} {s : S} {ss : Ss} {st : Stmt} {rest : List Stmt} (h1 : PS X st (tS R XO W T s)) (h2 : PSs X rest (tSs R XO W T ss)) : PSs X (st :: rest) (tSs R XO W T (.cons s ss)) := by
  refine PSs.imp (pss_cons h1 h2) ?_
  rintro D σ H ⟨F, h, r, k, m, re, w, c⟩
  refine ⟨F, h, r, _, m, re, w, ?_, c.rt, c.ex⟩
  intro r1 h1 F1 H1 σ1 s1 m1 re1 w1
  exact ⟨F1, h1, r1, k, m1, re1, w1, c.step s1⟩
mutual
theorem sS : ∀ (s : S) (x : Stmt) (X : Cx) (W : WX), Good I R XO T lev N sc true X → Takes X W → mS I N sc s x = true → PS X x (tS R XO W T s)
  | .asg tg e, x, X, W, G, tk, h => by
    unfold mS at h
    split at h
    · rename_i t v p
      simp only [Bool.and_eq_true] at h
      obtain ⟨⟨h1, h2⟩, h3⟩ := h
      have pe := sE e v sc true X W G tk h2
      obtain ⟨pg, ns⟩ := s_tg G tg t h1
      -- what follows the value
      have rd : ∀ D σ H, tS R XO W T (.asg tg e) D σ H → tAsg (tE R XO W T e) (tG R tg) D σ H := by
        rintro D σ H ⟨F, h, r, k, m, re, w, c⟩
        refine seqE m re w (c.cnx re) fun d h1 F1 H1 v s1 m1 r1 re1 cx1 w1 => ?_
        exact ⟨F1, r, d, _, re1, m1.sub, r1, w1, fun r' σ' re' _ w' => c.nx r' h1 F1 H1 σ' s1 m1 re' w'⟩
      by_cases hv : noComp v = true
      · refine PS.imp (ps_asg pe pg (noComp_sw hv) (swN_single ?_) (asg_each ns)) rd
        cases v <;> first | rfl | exact h3
      · cases v <;> first | exact absurd rfl hv | (cases h3) | skip
        rename_i el gs csc cp
        cases e <;> first | (cases h3) | skip
        rename_i fz elt tg' own it cnd
        rw [Bool.and_eq_true] at h3
        obtain ⟨_, h3⟩ := h3
        cases t <;> first | cases h3 | skip
        rename_i y py
        cases tg <;> first | (unfold mTg at h1; cases h1) | skip
        rename_i i
        have hm : (N[i]? == some y && stoB sc true y) = true := h1
        rw [Bool.and_eq_true, beq_iff_eq] at hm
        unfold mE at h2
        split at h2
        · rename_i heq
          cases heq
          simp only [Bool.and_eq_true, decide_eq_true_eq] at h2 h3
          obtain ⟨⟨⟨k1, k2⟩, k3⟩, k4⟩ := h3
          have kl : X.env.scope.names.lookup y = some .local := by
            rw [G.hsc]
            split at k1
            · assumption
            · cases k1
          have kf : X.env.scope.kind = .function := by
            rw [G.hsc]
            split at k4
            · assumption
            · cases k4
          rw [Bool.not_eq_true'] at k3
          obtain ⟨⟨⟨⟨⟨⟨⟨h1', h2'⟩, h3'⟩, h4'⟩, h5'⟩, h6'⟩, h7'⟩, h8'⟩ := h2
          have hsl : ∀ i ∈ Tg.slots tg', i ∈ own.map (·.2) := fun i hi => by
            have z := List.all_eq_true.mp h5' i hi
            simpa using z
          refine PS.imp (ps_setLc (i := i) G.calm (by rw [G.hN]; exact G.nd) (by rw [G.hN]; exact hm.1) kl (sw_true kf kl k2 k3) (sI it _ _ sc true X W G tk h1') (by rw [G.hN, G.hsc]; exact blkOk_by h3')
            (fun s H C cl fp => (s_tg G.blk tg' _ h4').1) (fun s H C cl fp => sCs1 cnd _ _ false _ W0 G.blk tk0 h7' h8') (fun s H C cl fp => sE elt _ _ false _ W0 G.blk tk0 h6') (noSet_fold h2')) ?_
          rintro D σ H ⟨F, h, r, k, m, re, w, c⟩
          refine comp_read (fz := fz) hsl (fun _ _ _ z => z) (fun _ _ _ z => z) σ H _ ?_
          refine seqE m re w (c.cnx re) fun d h1 F1 H1 v s1 m1 r1 re1 cx1 w1 => ?_
          exact c.nx _ _ _ _ _ s1 m1 (re1.set i r1) w1.2
        · cases h2
    · cases h
  | .par i j a b, x, X, W, G, tk, h => by
    unfold mS at h
    split at h
    · rename_i nx1 pp1 nx2 pp2 kk1 ps1 y1 y2 kk2 ps2 pp
      simp only [Bool.and_eq_true, beq_iff_eq] at h
      obtain ⟨⟨⟨⟨⟨h1, h2⟩, h3⟩, h4⟩, h5⟩, h6⟩ := h
      have p1 := sE a _ sc true X W G tk h5
      have p2 := sE b _ sc true X W G tk h6
      have q := h3
      unfold parOk at q
      simp only [Bool.and_eq_true] at q
      obtain ⟨⟨⟨⟨⟨⟨⟨⟨q1, q2⟩, q3⟩, q4⟩, q5⟩, q6⟩, q7⟩, q8⟩, q9⟩ := q
      have hx : X.env.scope.names.lookup nx1 = some .local := by
        rw [G.hsc]
        split at q1
        · assumption
        · cases q1
      have hy : X.env.scope.names.lookup nx2 = some .local := by
        rw [G.hsc]
        split at q2
        · assumption
        · cases q2
      have hij : i ≠ j := by
        rw [Bool.not_eq_true'] at h4
        simpa using h4
      refine PS.imp (ps_par G.calm (by rw [G.hN]; exact G.nd) (by rw [G.hN]; exact h1) (by rw [G.hN]; exact h2) hij hx hy (pa_cons p1 (pa_cons p2 pa_nil (noStar_each q6)) (noStar_each q5)) (tupSwap (by rw [G.hsc]; exact h3)) rfl) ?_
      rintro D σ H ⟨F, h, r, k, m, re, w, c⟩
      refine seqE m re w (c.cnx re) fun d h1 F1 H1 v s1 m1 r1 re1 cx1 w1 => ?_
      refine seqE m1 re1 w1 cx1 fun d2 h2 F2 H2 v2 s2 m2 r2 re2 cx2 w2 => ?_
      refine ⟨v, v2, rfl, ?_⟩
      exact c.nx _ _ _ _ _ (s1.trans s2) m2 ((re2.set i (r1.mono s2.fs)).set j r2) w2.2.2
    · cases h
  | .asgIx o i e, x, X, W, G, tk, h => by
    unfold mS at h
    split at h
    · rename_i y z p1 v p2
      simp only [Bool.and_eq_true] at h
      obtain ⟨⟨⟨h1, h2⟩, h3⟩, h4⟩ := h
      refine PS.imp (ps_asg (sE e _ sc true X W G tk h4) (pg_sub (sE o _ sc true X W G tk h1) (sE i _ sc true X W G tk h2) (set_D (R := R) (by have := G.room.un; omega)) (asg_sub h3)) ?_ ?_ rfl) ?_
      · cases v <;> rfl
      · cases v <;> rfl
      · rintro D σ H ⟨F, h, r, k, m, re, w, c⟩
        refine seqE m re w (c.cnx re) fun d h1 F1 H1 v s1 m1 r1 re1 cx1 w1 => ?_
        refine seqE m1 re1 w1 cx1 fun d2 h2 F2 H2 v2 s2 m2 r2 re2 cx2 w2 => ?_
        refine seqE m2 re2 w2 cx2 fun d3 h3 F3 H3 v3 s3 m3 r3 re3 cx3 w3 => ?_
        rw [G.kc] at w3
        refine ⟨F3, h3, d2, d3, d, _, m3, r2.mono s3.fs, r3, (r1.mono s2.fs).mono s3.fs, w3, fun h4 H4 s4 m4 w4 => ?_⟩
        exact c.nx _ _ _ _ _ (((s1.trans s2).trans s3).trans s4) m4 re3 w4
    · cases h
  | .aug i e, x, X, W, G, tk, h => by
    unfold mS at h
    split at h
    · simp only [Bool.and_eq_true, beq_iff_eq] at h
      obtain ⟨⟨h1, h2⟩, h3⟩ := h
      obtain ⟨l1, l2⟩ := sto_of G h2
      refine PS.imp (ps_aug (by rw [G.hN]; exact G.nd) (by rw [G.hN]; exact h1) l1 (sE e _ sc true X W G tk h3) ip_add l2) ?_
      rintro D σ H ⟨F, h, r, k, m, re, w, c⟩
      obtain ⟨a, e1, w⟩ := w
      obtain ⟨v, e2, rv⟩ := re.2 i _ e1
      refine ⟨v, e2, ?_⟩
      refine seqE m re w (c.cnx re) fun d h1 F1 H1 v1 s1 m1 r1 re1 cx1 w1 => ?_
      obtain ⟨b, rfl, w1⟩ := w1
      exact ⟨a, b, rv.intV, r1.intV, c.nx _ _ _ _ _ s1 m1 (re1.set i (.int _)) w1⟩
    · cases h
  | .ex e, x, X, W, G, tk, h => by
    unfold mS at h
    split at h
    · simp only [Bool.and_eq_true] at h
      refine PS.imp (ps_expr (sE e _ sc true X W G tk h.1) (noComp_sw h.2)) ?_
      rintro D σ H ⟨F, h, r, k, m, re, w, c⟩
      exact seqE m re w (c.cnx re) fun d h1 F1 H1 v1 s1 m1 r1 re1 cx1 w1 => c.nx _ _ _ _ _ s1 m1 re1 w1
    · cases h
  | .ret e, x, X, W, G, tk, h => by
    unfold mS at h
    split at h
    · refine PS.imp (ps_ret (sE e _ sc true X W G tk h)) ?_
      rintro D σ H ⟨F, h, r, k, m, re, w, c⟩
      refine seqE m re w (c.cnx re) fun d h1 F1 H1 v1 s1 m1 r1 re1 cx1 w1 => ?_
      obtain ⟨h2, sb, w1⟩ := w1
      exact c.rt _ _ _ _ _ (s1.less sb) (m1.less sb) r1 w1
    · cases h
  | .ret0, x, X, W, G, tk, h => by
    unfold mS at h
    split at h
    · refine PS.imp ps_retN ?_
      rintro D σ H ⟨F, h, r, k, m, re, w, c⟩
      obtain ⟨h2, sb, w1⟩ := w
      exact c.rt _ _ _ _ _ (Step.refl.less sb) (m.less sb) .non w1
    · cases h
  | .ife c t f, x, X, W, G, tk, h => by
    unfold mS at h
    split at h
    · simp only [Bool.and_eq_true] at h
      refine PS.imp (ps_if (sC c _ sc true X W G tk h.1.1) (sSs t _ X W G tk h.1.2) (sSs f _ X W G tk h.2)) ?_
      rintro D σ H ⟨F, h, r, k, m, re, w, c⟩
      refine seqC m re w (c.cnx re) fun d h1 F1 H1 s1 m1 re1 cx1 w1 => iteB (fun hd => ?_) fun hd => ?_
      · exact ⟨F1, h1, r, k, m1, re1, w1.1 hd, c.step s1⟩
      · exact ⟨F1, h1, r, k, m1, re1, w1.2 hd, c.step s1⟩
    · cases h
  | .whl c b, x, X, W, G, tk, h => by
    unfold mS at h
    split at h
    · simp only [Bool.and_eq_true] at h
      refine PS.imp (ps_while G.po (sC c _ sc true X W G tk h.1) (sSs b _ X W G tk h.2)) ?_
      rintro D σ H ⟨F, h, r, k, m, re, w, c⟩
      obtain ⟨n, w⟩ := w
      refine ⟨fun mm σ2 H2 => ∃ F2 h2 r2, Step F h H F2 h2 H2 ∧ Sim R F2 h2 H2 ∧ REnv R F2 r2 σ2 ∧ wWhl (wC T _) (wSs T b) mm r2 h2 k, ⟨n, F, h, r, Step.refl, m, re, w⟩, ?_⟩
      rintro mm σ2 H2 ⟨F2, h2, r2, s2, m2, re2, w2⟩
      cases mm with
      | zero => exact w2.elim
      | succ mm =>
        have c2 := c.step s2
        refine seqC m2 re2 w2 (c2.cnx re2) fun d h3 F3 H3 s3 m3 re3 cx3 w3 => iteB (fun hd => ?_) fun hd => ?_
        · refine ⟨fun σ' H' => ∃ F4 h4 r4, Step F h H F4 h4 H' ∧ Sim R F4 h4 H' ∧ REnv R F4 r4 σ' ∧ wWhl (wC T _) (wSs T b) mm r4 h4 k, fun σ' H' q => ⟨mm, by omega, q⟩, ?_⟩
          refine ⟨F3, h3, r2, _, m3, re3, w3.1 hd, ?_, (c2.step s3).rt, (c2.step s3).ex⟩
          intro r4 h4 F4 H4 σ4 s4 m4 re4 w4
          exact ⟨F4, h4, r4, (s2.trans s3).trans s4, m4, re4, w4⟩
        · exact c2.nx _ _ _ _ _ s3 m3 re3 (w3.2 hd)
    · cases h
  | .fr tg it b, x, X, W, G, tk, h => by
    unfold mS at h
    split at h
    · simp only [Bool.and_eq_true] at h
      obtain ⟨⟨⟨h1, h2⟩, h3⟩, h4⟩ := h
      refine PS.imp (ps_for G.po G.calm (sI it _ _ sc true X W G tk h2) (s_tg G tg _ h1).1 (sSs b _ X W G tk h4) (noSet_fold h3)) ?_
      rintro D σ H ⟨F, h, r, k, m, re, w, c⟩
      refine ⟨F, h, r, _, _, m, re, w, ?_, c.cnx re⟩
      intro xs ok h1 F1 H1 J s1 m1 o1 wk hl w1
      refine ⟨fun i mm σ2 H2 => mm = xs.length - i ∧ i ≤ xs.length ∧ ∃ F2 h2 r2, Step F1 h1 H1 F2 h2 H2 ∧ Sim R F2 h2 H2 ∧ REnv R F2 r2 σ2 ∧ wFor ok (asgT tg) (wSs T b) (xs.drop i) r2 h2 k, ⟨xs.length, by omega, by omega, F1, h1, r, Step.refl, m1, re.mono s1.fs, w1⟩, ?_⟩
      rintro i mm σ2 H2 ⟨rfl, hi, F2, h2, r2, s2, m2, re2, w2⟩
      have c2 := (c.step s1).step s2
      by_cases hlt : i < xs.length
      · rw [List.drop_eq_getElem_cons hlt] at w2
        obtain ⟨o2, w2⟩ := w2
        obtain ⟨go, _⟩ := wk F2 h2 H2 s2.fs m2 o2
        obtain ⟨g1, g2⟩ := go i hlt
        refine .inr ⟨g1, fun σ' H' => ∃ F4 h4 r4, Step F1 h1 H1 F4 h4 H' ∧ Sim R F4 h4 H' ∧ REnv R F4 r4 σ' ∧ wFor ok (asgT tg) (wSs T b) (xs.drop (i + 1)) r4 h4 k, ?_, ?_⟩
        · exact fun σ' H' q => ⟨xs.length - (i + 1), by omega, rfl, by omega, q⟩
        · intro y H3 hy
          obtain ⟨F3, d, s3, m3, ed, rd⟩ := g2 y H3 hy
          have ed' : xs[i] = d := by
            rw [List.getElem?_eq_getElem hlt] at ed
            exact Option.some.inj ed
          subst ed'
          refine ⟨F3, r2, _, _, re2.mono s3.fs, m3.sub, rd, w2, ?_⟩
          intro r4 σ4 re4 _ w4
          have c3 := c2.step s3
          refine ⟨F3, h2, r4, _, m3, re4, w4, ?_, c3.rt, c3.ex⟩
          intro r5 h5 F5 H5 σ5 s5 m5 re5 w5
          exact ⟨F5, h5, r5, (s2.trans s3).trans s5, m5, re5, w5⟩
      · have e : i = xs.length := by omega
        subst e
        rw [List.drop_length] at w2
        obtain ⟨_, stop⟩ := wk F2 h2 H2 s2.fs m2 w2.1
        exact .inl ⟨stop, c2.nx _ _ _ _ _ Step.refl m2 re2 w2.2⟩
    · cases h
  | .rs _ _, x, X, W, G, tk, h => by unfold mS at h; cases h
  | .tr _ _ _ _, x, X, W, G, tk, h => by unfold mS at h; cases h
  | .never, x, X, W, G, tk, h => by
    refine PS.imp ps_never ?_
    rintro D σ H ⟨F, h, r, k, m, re, w, c⟩
    exact w
theorem sSs : ∀ (s : Ss) (x : List Stmt) (X : Cx) (W : WX), Good I R XO T lev N sc true X → Takes X W → mSs I N sc s x = true → PSs X x (tSs R XO W T s)
  | .nil, x, X, W, G, tk, h => by
    unfold mSs at h
    split at h
    · refine PSs.imp pss_nil ?_
      rintro D σ H ⟨F, h, r, k, m, re, w, c⟩
      exact c.nx _ _ _ _ _ Step.refl m re w
    · cases h
  | .cons s ss, x, X, W, G, tk, h => by
    unfold mSs at h
    split at h
    · simp only [Bool.and_eq_true] at h
      exact lst_chain (sS s _ X W G tk h.1) (sSs ss _ X W G tk h.2)
    · cases h
end
end
end VS

set_option Elab.async false
set_option linter.all false
set_option maxRecDepth 100000
set_option maxHeartbeats 4000000
/-! VS13: defs, stages, the law's own end. -/
namespace VS
open PySem PySem.Spec PyProof.Rows L2

/-- what the top has of a def by name, at a level of the stack -/
def Has (P : Program) (w : World) (K : PySem.W.Frag) (mg : Str → Option Value) (base : Heap) (R : RC) (XO : XOT) (lev : Nat) (x : Str) (sp : VSp) : Prop :=
  ∃ (a : Addr) (fd : FuncData) (ps : List Str), mg x = some (.ref a) ∧ PySem.W.keepIn K (.ref a) = true ∧ Binds K fd ps [] ∧ FnOk P w K mg base (L2.CX P w) lev a fd ps (lift R XO sp)
def noSp : VSp := fun _ _ _ _ => False
/-- a def of the text -/
structure Df where
  nm : Str
  args : Arguments
  stm : List Stmt
  scope : Scope
  ps : List Str
  N : List Str
  body : Ss
def Df.at_ (K : PySem.W.Frag) (mg : Str → Option Value) (d : Df) : Prop := ∃ a fd, mg d.nm = some (.ref a) ∧ FunD K d.nm d.nm d.args d.stm d.scope [] [] a fd
/-- its parameters are plain -/
def Df.bind (d : Df) : Prop := ∀ (kV doc pm : Value) (an : Option Addr) (cdv ct : Value) (us : List Value), us.length = d.ps.length →
  bindArgs (PySem.W.fnOf d.nm d.nm d.args d.stm d.scope .none kV doc pm an cdv ct) ⟨us, []⟩ = pure (d.ps.zip us)
def isLC : NameKind → Bool
  | .local => true | .cell => true | _ => false
def Df.okB (I : SI) (d : Df) : Bool :=
  (match d.scope.kind with | .function => true | _ => false) && !d.scope.isCoroutine && !d.scope.isGenerator && decide d.N.Nodup && (d.N.take d.ps.length == d.ps) &&
    (d.ps.all fun x => match d.scope.names.lookup x with | some .local => true | some .cell => true | _ => false) && (d.scope.names.all fun y => match y.2 with | .free => false | _ => true) && mSs I d.N d.scope d.body d.stm
theorem Df.scope_ok {I : SI} {d : Df} (h : d.okB I = true) : FnScope d.N d.ps d.scope ∧ mSs I d.N d.scope d.body d.stm = true := by
  unfold Df.okB at h
  simp only [Bool.and_eq_true] at h
  obtain ⟨⟨⟨⟨⟨⟨⟨h1, h2⟩, h3⟩, h4⟩, h5⟩, h6⟩, h7⟩, h8⟩ := h
  refine ⟨⟨?_, ?_, ?_, of_decide_eq_true h4, by simpa using h5, fun x hx => ?_, fun y hy => ?_⟩, h8⟩
  · split at h1
    · assumption
    · cases h1
  · simpa using h2
  · simpa using h3
  · have z := List.all_eq_true.mp h6 x hx
    split at z
    · exact .inl (by assumption)
    · exact .inr (by assumption)
    · cases z
  · have z := List.all_eq_true.mp h7 y hy
    intro e
    rw [e] at z
    cases z
/-- what stands around the defs -/
structure Wd (I : SI) (P : Program) (w : World) (K : PySem.W.Frag) (mg : Str → Option Value) (base : Heap) (R : RC) (XO : XOT) : Prop where
  hK : R.K = K
  blt : ∀ x ∈ bltNames, mg x = none
def Gls (I : SI) (mg : Str → Option Value) (R : RC) (gl : Nat → Option D) : Prop :=
  ∀ (i : Nat) (x : Str) (d : D), I.gls[i]? = some x → gl i = some d → ∃ u v, mg x = some u ∧ RelV v u ∧ ∀ F, Rep R F d v
section
variable {I : SI} {P : Program} {w : World} {K : PySem.W.Frag} {mg : Str → Option Value} {base : Heap} {R : RC} {XO : XOT}
def AllHas (I : SI) (P : Program) (w : World) (K : PySem.W.Frag) (mg : Str → Option Value) (base : Heap) (R : RC) (XO : XOT) (lev : Nat) (T : Tab) : Prop :=
  ∀ (f : Nat) (x : Str), I.fns[f]? = some x → Has P w K mg base R XO lev x (T.fn f)
theorem Has.mono {lev lev' : Nat} {x : Str} {sp : VSp} (h : Has P w K mg base R XO lev x sp) (l : lev ≤ lev') : Has P w K mg base R XO lev' x sp := by
  obtain ⟨a, fd, ps, h1, h2, h3, h4⟩ := h
  exact ⟨a, fd, ps, h1, h2, h3, h4.mono l⟩
theorem Has.imp {lev : Nat} {x : Str} {sp sp' : VSp} (h : Has P w K mg base R XO lev x sp) (l : ∀ ds h Q X, sp' ds h Q X → sp ds h Q X) : Has P w K mg base R XO lev x sp' := by
  obtain ⟨a, fd, ps, h1, h2, h3, h4⟩ := h
  refine ⟨a, fd, ps, h1, h2, h3, h4.imp ?_⟩
  rintro vs H Q E ⟨F, h, ds, Q0, X0, m, r, q, c⟩
  exact ⟨F, h, ds, Q0, X0, m, r, l _ _ _ _ q, c⟩
theorem REnv_start {R : RC} {F : Hp} : ∀ {ds : List D} {vs : List V} (N : List Str), Reps R F ds vs → REnv R F (ds.map some ++ List.replicate (N.length - ds.length) none) (start N vs) := by
  intro ds vs N r
  have hl := r.length
  unfold L2.start
  refine ⟨by simp [hl], fun i d e => ?_⟩
  rw [List.getElem?_append] at e
  split at e
  · rename_i hi
    rw [List.getElem?_map] at e
    rw [List.length_map] at hi
    cases q : ds[i]? with
    | none => rw [q] at e; cases e
    | some d' =>
      rw [q] at e
      cases e
      obtain ⟨v, e1, e2⟩ := r.get q
      refine ⟨v, ?_, e2⟩
      rw [List.getElem?_append_left (by rw [List.length_map, ← hl]; exact hi), List.getElem?_map, e1]
      rfl
  · rw [List.getElem?_replicate] at e
    split at e <;> cases e
theorem Df.has0 {d : Df} {lev : Nat} (h : d.at_ K mg) (b : d.bind) : Has P w K mg base R XO lev d.nm noSp := by
  obtain ⟨a, fd, h1, h2⟩ := h
  refine ⟨a, fd, d.ps, h1, h2.kp, h2.bindsN fun kV doc pm an cdv ct us hl => b kV doc pm an cdv ct us hl, ⟨?_, ?_⟩⟩
  · rintro vs H Q E ⟨F, h, ds, Q0, X0, m, r, q, c⟩
    exact q.elim
  · rintro A outer s H args us vs Q E hr he hb hv ⟨F, h, ds, Q0, X0, m, r, q, c⟩
    exact q.elim
/-- THE RULE of a def -/
theorem Df.fnok {d : Df} {lev : Nat} {T : Tab} {sp : VSp} {a : Addr} {fd : FuncData} (W0 : Wd I P w K mg base R XO) (h2 : FunD K d.nm d.nm d.args d.stm d.scope [] [] a fd) (ok : d.okB I = true) (hT : AllHas I P w K mg base R XO lev T) (hg : Gls I mg R T.glob) (hkc : T.kc = R.kc)
    (len : ∀ ds h Q X, sp ds h Q X → ds.length = d.ps.length)
    (hb : ∀ ds h Q X, sp ds h Q X → wSs T d.body (ds.map some ++ List.replicate (d.N.length - ds.length) none) h ⟨fun _ h1 => Q .non h1, Q, fun c fs _ h1 => X c fs h1⟩) : FnOk P w K mg base (L2.CX P w) (lev + 1) a fd d.ps (lift R XO sp) := by
  obtain ⟨S, hm⟩ := Df.scope_ok ok
  refine FunD.ok h2 S ?_ ?_
  · rintro vs H Q E ⟨F, h, ds, Q0, X0, m, r, q, c⟩
    rw [← r.length]
    exact len _ _ _ _ q
  · rintro cdv A outer s H vs Q E hr ⟨F, h, ds, Q0, X0, m, r, q, c, cx⟩
    refine ⟨tSs R XO (fun cls d _ H => E cls d H) T d.body, sSs (lev := lev) d.body d.stm _ _ ?_ (takes_of rfl rfl rfl rfl) hm, ?_⟩
    · refine ⟨rfl, S.nd, rfl, rfl, hr, W0.hK, hkc, fun _ _ => rfl, fun f x e => ?_, hg, W0.blt, passes_of rfl⟩
      exact hT f x e
    · refine ⟨F, h, _, _, m, REnv_start d.N r, hb _ _ _ _ q, ?_, ?_, ?_⟩
      · intro r' h' F' H' σ' s1 m1 re1 q1
        exact c .non h' F' H' .non s1 m1 .non q1
      · intro d h' F' H' v s1 m1 r1 q1
        exact c d h' F' H' v s1 m1 r1 q1
      · intro cc fs r' h' F' H' σ' cls dx s1 m1 _ xo q1
        exact cx cc fs h' F' H' cls dx s1 m1 xo q1
theorem Df.has {d : Df} {lev : Nat} {T : Tab} {sp : VSp} (W0 : Wd I P w K mg base R XO) (h : d.at_ K mg) (b : d.bind) (ok : d.okB I = true) (hT : AllHas I P w K mg base R XO lev T) (hg : Gls I mg R T.glob) (hkc : T.kc = R.kc)
    (len : ∀ ds h Q X, sp ds h Q X → ds.length = d.ps.length)
    (hb : ∀ ds h Q X, sp ds h Q X → wSs T d.body (ds.map some ++ List.replicate (d.N.length - ds.length) none) h ⟨fun _ h1 => Q .non h1, Q, fun c fs _ h1 => X c fs h1⟩) : Has P w K mg base R XO (lev + 1) d.nm sp := by
  obtain ⟨a, fd, h1, h2⟩ := h
  exact ⟨a, fd, d.ps, h1, h2.kp, h2.bindsN fun kV doc pm an cdv ct us hl => b kV doc pm an cdv ct us hl, Df.fnok W0 h2 ok hT hg hkc len hb⟩
end
/-- a table with one promise more -/
def Tab.put (T : Tab) (f : Nat) (sp : VSp) : Tab := { T with fn := fun g => if g = f then sp else T.fn g }
theorem Tab.put_same {T : Tab} {f : Nat} {sp : VSp} : (T.put f sp).fn f = sp := if_pos rfl
section
variable {I : SI} {P : Program} {w : World} {K : PySem.W.Frag} {mg : Str → Option Value} {base : Heap} {R : RC} {XO : XOT}
theorem AllHas.put {lev : Nat} {T : Tab} {f : Nat} {x : Str} {sp : VSp} (hT : AllHas I P w K mg base R XO lev T) (hx : I.fns[f]? = some x) (h : Has P w K mg base R XO lev x sp) : AllHas I P w K mg base R XO lev (T.put f sp) := by
  intro g y e
  show Has P w K mg base R XO lev y (if g = f then sp else T.fn g)
  split
  · rename_i q
    rw [q, hx] at e
    cases e
    exact h
  · exact hT g y e
theorem AllHas.mono {lev lev' : Nat} {T : Tab} (hT : AllHas I P w K mg base R XO lev T) (l : lev ≤ lev') : AllHas I P w K mg base R XO lev' T := fun f x e => (hT f x e).mono l
/-- what stands at a level: the table -/
structure Stg (I : SI) (P : Program) (w : World) (K : PySem.W.Frag) (mg : Str → Option Value) (base : Heap) (R : RC) (XO : XOT) (lev : Nat) (T : Tab) : Prop where
  wd : Wd I P w K mg base R XO
  all : AllHas I P w K mg base R XO lev T
  gl : Gls I mg R T.glob
  kc : T.kc = R.kc
/-- one def more -/
theorem Stg.add {lev : Nat} {T : Tab} (S : Stg I P w K mg base R XO lev T) (d : Df) (f : Nat) (sp : VSp) (hx : I.fns[f]? = some d.nm) (h : d.at_ K mg) (b : d.bind) (ok : d.okB I = true)
    (len : ∀ ds h Q X, sp ds h Q X → ds.length = d.ps.length)
    (hb : ∀ ds h Q X, sp ds h Q X → wSs T d.body (ds.map some ++ List.replicate (d.N.length - ds.length) none) h ⟨fun _ h1 => Q .non h1, Q, fun c fs _ h1 => X c fs h1⟩) : Stg I P w K mg base R XO (lev + 1) (T.put f sp) :=
  ⟨S.wd, (S.all.mono (Nat.le_succ _)).put hx (Df.has S.wd h b ok S.all S.gl S.kc len hb), S.gl, S.kc⟩
/-- one that calls itself -/
theorem Stg.recr {lev : Nat} {T : Tab} (S : Stg I P w K mg base R XO lev T) (d : Df) (f : Nat) (sp : Nat → VSp) (hx : I.fns[f]? = some d.nm) (h : d.at_ K mg) (b : d.bind) (ok : d.okB I = true)
    (len : ∀ n ds h Q X, sp n ds h Q X → ds.length = d.ps.length) (h0 : ∀ ds h Q X, ¬ sp 0 ds h Q X)
    (hb : ∀ n ds h Q X, sp (n + 1) ds h Q X → wSs (T.put f (sp n)) d.body (ds.map some ++ List.replicate (d.N.length - ds.length) none) h ⟨fun _ h1 => Q .non h1, Q, fun c fs _ h1 => X c fs h1⟩) :
    ∀ n, Stg I P w K mg base R XO (lev + n) (T.put f (sp n))
  | 0 => ⟨S.wd, S.all.put hx ((Df.has0 h b).imp h0), S.gl, S.kc⟩
  | n + 1 => by
    have S1 := Stg.recr S d f sp hx h b ok len h0 hb n
    refine ⟨S.wd, ?_, S.gl, S.kc⟩
    exact (S.all.mono (by omega)).put hx (Df.has S1.wd h b ok S1.all S1.gl S1.kc (len (n + 1)) (hb n))
theorem Stg.start {ds : List Df} {lev : Nat} {T : Tab} (wd : Wd I P w K mg base R XO) (gl : Gls I mg R T.glob) (kc : T.kc = R.kc) (hf : ∀ f, T.fn f = noSp) (hn : I.fns = ds.map Df.nm) (h : ∀ d ∈ ds, d.at_ K mg ∧ d.bind) : Stg I P w K mg base R XO lev T := by
  refine ⟨wd, fun f x e => ?_, gl, kc⟩
  rw [hf f]
  rw [hn, List.getElem?_map] at e
  cases q : ds[f]? with
  | none => rw [q] at e; cases e
  | some d =>
    rw [q] at e
    cases e
    obtain ⟨h1, h2⟩ := h d (List.mem_of_getElem? q)
    exact Df.has0 h1 h2
end
/-! ### what the top's end tells -/
def Df.dd (d : Df) : He.DefD := ⟨(d.nm, none), d.nm, d.nm, d.args, d.stm, d.scope, [], []⟩
section
variable {fa : List He.Fa} {fn : List He.DefD} {K : PySem.W.Frag} {h : Heap} {mg : Str → Option Value}
theorem factM (c : He.SaysD fa fn K) {f : He.Fa} (hf : f ∈ fa) : f.ok K = true := by
  obtain ⟨i, e⟩ := List.mem_iff_getElem?.mp hf
  exact c.fact i e
theorem Df.fun_of {ds : List Df} (c : He.SaysD fa (ds.map Df.dd) K) {d : Df} (hd : d ∈ ds) : ∃ fd, FunD K d.nm d.nm d.args d.stm d.scope [] [] (He.ga K d.nm) fd := by
  obtain ⟨i, e⟩ := List.mem_iff_getElem?.mp hd
  have q : (ds.map Df.dd)[i]? = some d.dd := by rw [List.getElem?_map, e]; rfl
  exact c.def_ i q
theorem Df.at_of {ds : List Df} (X : K.In h) (G : h.Ns mainGlobals mg) (c : He.SaysD fa (ds.map Df.dd) K) {d : Df} (hd : d ∈ ds) (hf : He.Fa.glo d.nm ∈ fa) : d.at_ K mg := by
  obtain ⟨fd, F⟩ := Df.fun_of c hd
  exact ⟨_, fd, He.glo_ok X G (factM c hf), F⟩
theorem blt_of (X : K.In h) (G : h.Ns mainGlobals mg) (c : He.SaysD fa fn K) (hf : ∀ x ∈ bltNames, He.Fa.free x ∈ fa) : ∀ x ∈ bltNames, mg x = none := fun x hx => He.free_ok X G (factM c (hf x hx))
theorem gl_int {R : RC} (X : K.In h) (G : h.Ns mainGlobals mg) (c : He.SaysD fa fn K) {x : Str} {i : Int} (hf : He.Fa.int x i ∈ fa) : ∃ u v, mg x = some u ∧ RelV v u ∧ ∀ F, Rep R F (.int i) v := by
  obtain ⟨t, e⟩ := He.int_ok X G (factM c hf)
  exact ⟨_, .int i, e, ⟨t, rfl⟩, fun _ => .int i⟩
theorem gl_str {R : RC} (X : K.In h) (G : h.Ns mainGlobals mg) (c : He.SaysD fa fn K) {x z : Str} {cs : List Nat} (hf : He.Fa.str x z ∈ fa) (hz : z = strOf cs) (ok : StrOk cs) : ∃ u v, mg x = some u ∧ RelV v u ∧ ∀ F, Rep R F (.str cs) v := by
  obtain ⟨t, e⟩ := He.str_ok X G (factM c hf)
  subst hz
  exact ⟨_, .str (strOf cs), e, ⟨t, rfl⟩, fun _ => .str cs ok⟩
end
/-! ### the law's own end -/
theorem FnOk.to0 {P : Program} {w : World} {K : PySem.W.Frag} {mg : Str → Option Value} {base : Heap} {k : Nat} {f : Addr} {fd : FuncData} {ps : List Str} {sp : Sp} (F : FnOk P w K mg base (L2.CX P w) k f fd ps sp) :
    FnOk P w K mg base L2.CX0 k f fd ps (fun vs H Q _ => sp vs H Q fun _ _ _ => False) := by
  refine ⟨fun vs H Q E h => F.len _ _ _ _ h, fun A outer s H args us vs Q E hr he hb hv hs => ?_⟩
  refine codeAny_mono (F.run A outer s H args us vs Q _ hr he hb hv hs) fun r s' q => ?_
  cases r with
  | error e =>
    obtain ⟨_, _, _, _, _, _, _, _, _, _, _, _, z⟩ := q
    exact z.elim
  | ok fl =>
    cases fl with
    | ret u => exact q
    | next => exact q
    | brk => exact q
    | cont => exact q
/-- the law's promise: of every script that is let in, True -/
theorem law_sp {R : RC} {XO : XOT} {sp : VSp} {n : Nat} (hsp : ∀ ns : List Int, ns.length ≤ n → sp [.scr ns] (fun _ => none) (fun d _ => d = .bl true) fun _ _ _ => False) {K : PySem.W.Frag} (hK : R.K = K) {H : Hp} {a : Addr} {ns : List Int} (hl : ns.length ≤ n) (h : SqL K H a (ns.map V.int)) :
    lift R XO sp [.ref a] H (fun v _ => v = .bl true) fun _ _ _ => False := by
  refine ⟨H, fun _ => none, [.scr ns], _, _, ⟨Same.refl _, fun _ _ e => (nomatch e), fun _ _ e => (nomatch e)⟩, .cons (.scr (by rw [hK]; exact h)) .nil, hsp ns hl, ?_, ?_⟩
  · intro d h' F' H' v s m r q
    subst q
    cases r
    rfl
  · intro c fs h' F' H' cls dx s m xo q
    exact q
end VS

set_option Elab.async false
set_option linter.all false
set_option maxRecDepth 100000
set_option maxHeartbeats 4000000
/-! VS14: walking the meaning. -/
namespace VS
open PySem PySem.Spec PyProof.Rows L2

section
variable {T : Tab}
theorem wSs_nil {r : VS.Env} {h : Hv} {k : Ks} : wSs T .nil r h k = k.nx r h := by unfold wSs; rfl
theorem wSs_cons {s : S} {ss : Ss} {r : VS.Env} {h : Hv} {k : Ks} : wSs T (.cons s ss) r h k = wS T s r h ⟨fun r1 h1 => wSs T ss r1 h1 k, k.rt, k.ex⟩ := by rw [wSs]
theorem wAnd_one {e : E} {r : VS.Env} {h : Hv} {Q : QD} {X : XQ} : wAnd T (.cons e .nil) r h Q X = wE T e r h Q X := by rw [wAnd]
theorem wAnd_cons {e e' : E} {es : Es} {r : VS.Env} {h : Hv} {Q : QD} {X : XQ} : wAnd T (.cons e (.cons e' es)) r h Q X = wE T e r h (fun x h1 => ∃ c, x = .bl c ∧ br c (wAnd T (.cons e' es) r h1 Q X) (Q (.bl false) h1)) X := by rw [wAnd]
theorem wOr_one {e : E} {r : VS.Env} {h : Hv} {Q : QD} {X : XQ} : wOr T (.cons e .nil) r h Q X = wE T e r h Q X := by rw [wOr]
theorem wOr_cons {e e' : E} {es : Es} {r : VS.Env} {h : Hv} {Q : QD} {X : XQ} : wOr T (.cons e (.cons e' es)) r h Q X = wE T e r h (fun x h1 => ∃ c, x = .bl c ∧ br c (Q (.bl true) h1) (wOr T (.cons e' es) r h1 Q X)) X := by rw [wOr]
end
/-! branches: only the question is simplified -/
theorem br_congr {c c' : Bool} {A B : Prop} (h : c = c') : br c A B = br c' A B := by rw [h]
theorem br_t {A B : Prop} : br true A B = A := propext ⟨fun h => h.1 rfl, br_true⟩
theorem br_f {A B : Prop} : br false A B = B := propext ⟨fun h => h.2 rfl, br_false⟩
theorem br_if {c : Prop} [Decidable c] {A B : Prop} : br (decide c) A B ↔ (c → A) ∧ (¬ c → B) := ⟨fun h => ⟨fun e => h.1 (decide_eq_true e), fun e => h.2 (decide_eq_false e)⟩, fun h => br_dec h.1 h.2⟩
theorem br_of {c : Bool} {A B : Prop} (h1 : c = true → A) (h2 : c = false → B) : br c A B := ⟨h1, h2⟩
theorem wFor_congr {ok : Hv → Prop} {asg : D → VS.Env → (VS.Env → Prop) → Prop} {body : VS.Env → Hv → Ks → Prop} {xs xs' : List D} {r r' : VS.Env} {h h' : Hv} {k : Ks} (e1 : xs = xs') (e2 : r = r') (e3 : h = h') : wFor ok asg body xs r h k = wFor ok asg body xs' r' h' k := by rw [e1, e2, e3]
theorem wCp_congr {ok : Hv → Prop} {step : D → Hv → (Option D → Hv → Prop) → Prop} {xs xs' acc acc' : List D} {h h' : Hv} {Q : List D → Hv → Prop} (e1 : xs = xs') (e2 : acc = acc') (e3 : h = h') : wCp ok step xs acc h Q = wCp ok step xs' acc' h' Q := by rw [e1, e2, e3]

/-! loops -/
theorem wFor_ind {ok : Hv → Prop} {asg : D → VS.Env → (VS.Env → Prop) → Prop} {body : VS.Env → Hv → Ks → Prop} {k : Ks} (I : List D → VS.Env → Hv → Prop)
    (hs : ∀ x xs r h (N : VS.Env → Hv → Prop), I (x :: xs) r h → (∀ r' h', I xs r' h' → N r' h') → ok h ∧ asg x r fun r1 => body r1 h ⟨N, k.rt, k.ex⟩)
    (he : ∀ r h, I [] r h → ok h ∧ k.nx r h) : ∀ {xs r h}, I xs r h → wFor ok asg body xs r h k
  | [], r, h, i => he r h i
  | x :: xs, r, h, i => hs x xs r h _ i fun r' h' i' => wFor_ind I hs he i'
theorem wWhl_ind {test : VS.Env → Hv → (Bool → Hv → Prop) → XQ → Prop} {body : VS.Env → Hv → Ks → Prop} {k : Ks} (I : Nat → VS.Env → Hv → Prop)
    (hs : ∀ n r h (N : VS.Env → Hv → Prop), I n r h → (∀ m r' h', m < n → I m r' h' → N r' h') → test r h (fun c h1 => br c (body r h1 ⟨N, k.rt, k.ex⟩) (k.nx r h1)) fun c fs h1 => k.ex c fs r h1) {n r h} (i : I n r h) : ∃ n, wWhl test body n r h k := by
  have go : ∀ n m r h, m ≤ n → I m r h → wWhl test body (n + 1) r h k := by
    intro n
    induction n with
    | zero =>
      intro m r h hm i
      have : m = 0 := by omega
      subst this
      exact hs 0 r h _ i fun m r' h' lt _ => absurd lt (Nat.not_lt_zero m)
    | succ n ih =>
      intro m r h hm i
      exact hs m r h _ i fun m' r' h' lt i' => ih m' r' h' (by omega) i'
  exact ⟨n + 1, go n n r h (Nat.le_refl _) i⟩
/-- a comprehension that leaves the heap -/
theorem wCp_map {ok : Hv → Prop} {step : D → Hv → (Option D → Hv → Prop) → Prop} {h : Hv} {Q : List D → Hv → Prop} (f : D → D) (hok : ok h) : ∀ {xs acc : List D}, (∀ x ∈ xs, ∀ R, R (some (f x)) h → step x h R) → Q (acc ++ xs.map f) h → wCp ok step xs acc h Q
  | [], acc, _, q => ⟨hok, by simpa using q⟩
  | x :: xs, acc, hs, q => ⟨hok, hs x (by simp) _ (wCp_map f hok (fun y hy => hs y (by simp [hy])) (by simpa using q))⟩
theorem wCp_fmap {ok : Hv → Prop} {step : D → Hv → (Option D → Hv → Prop) → Prop} {h : Hv} {Q : List D → Hv → Prop} (f : D → Option D) (hok : ok h) : ∀ {xs acc : List D}, (∀ x ∈ xs, ∀ R, R (f x) h → step x h R) → Q (acc ++ xs.filterMap f) h → wCp ok step xs acc h Q
  | [], acc, _, q => ⟨hok, by simpa using q⟩
  | x :: xs, acc, hs, q => ⟨hok, hs x (by simp) _ (wCp_fmap f hok (fun y hy => hs y (by simp [hy])) (by
      cases e : f x with
      | none => simpa [List.filterMap_cons, e] using q
      | some d => simpa [List.filterMap_cons, e] using q))⟩
/-- a comprehension with a heap that moves: acc grows as wanted -/
theorem wCp_ind {ok : Hv → Prop} {step : D → Hv → (Option D → Hv → Prop) → Prop} {Q : List D → Hv → Prop} (I : List D → List D → Hv → Prop)
    (hs : ∀ x xs acc h (N : List D → Hv → Prop), I (x :: xs) acc h → (∀ acc' h', I xs acc' h' → N acc' h') → ok h ∧ step x h fun o h1 => N (match o with | some d => acc ++ [d] | none => acc) h1)
    (he : ∀ acc h, I [] acc h → ok h ∧ Q acc h) : ∀ {xs acc h}, I xs acc h → wCp ok step xs acc h Q
  | [], acc, h, i => he acc h i
  | x :: xs, acc, h, i => hs x xs acc h _ i fun acc' h' i' => wCp_ind I hs he i'

/-! the heap -/
theorem hsub_hupN {h0 h : Hv} {a : Addr} {c : Cell} (s : hsub h0 h) (n : h0 a = none) : hsub h0 (hup h a c) := fun b d e => by
  rw [hup_ne]; exact s b d e
  rintro rfl; rw [n] at e; cases e
theorem hsub_none {h0 h : Hv} {a : Addr} (s : hsub h0 h) (n : h a = none) : h0 a = none := by
  cases q : h0 a with
  | none => rfl
  | some c => rw [s a c q] at n; cases n
theorem hsub_ne {h : Hv} {a b : Addr} {c : Cell} (e : h a = some c) (n : h b = none) : a ≠ b := by
  rintro rfl; rw [e] at n; cases n
theorem hup_at {h : Hv} {a b : Addr} {c : Cell} : hup h a c b = if b = a then some c else h b := rfl
/-! plain trees -/
mutual
theorem D.eqb_refl : ∀ {d : D}, d.pln = true → D.eqb d d = true
  | .non, _ => rfl
  | .bl b, _ => by cases b <;> rfl
  | .int i, _ => by simp [D.eqb]
  | .str i, _ => by simp [D.eqb]
  | .tup xs, h => D.eqbs_refl (d := xs) h
  | .lst xs, h => D.eqbs_refl (d := xs) h
  | .scr _, h => by cases h
  | .loc _, h => by cases h
  | .exc _ _, h => by cases h
theorem D.eqbs_refl : ∀ {d : List D}, D.plns d = true → D.eqbs d d = true
  | [], _ => rfl
  | x :: xs, h => by
    have h : (D.pln x && D.plns xs) = true := h
    rw [Bool.and_eq_true] at h
    show (D.eqb x x && D.eqbs xs xs) = true
    rw [D.eqb_refl h.1, D.eqbs_refl h.2]; rfl
end
/-! indices -/
theorem atI_nat {α : Type} {xs : List α} {i : Int} {n : Nat} (e : i = n) (h : n < xs.length) : atI xs i = some xs[n] := by
  subst e
  unfold atI ixN
  rw [if_pos (by omega), if_pos (by omega)]
  simp [h]
theorem cutL_nat {α : Type} {xs : List α} {i j : Nat} (h1 : i ≤ xs.length) (h2 : j ≤ xs.length) : cutL xs (some (i : Int)) (some (j : Int)) = (xs.drop i).take (j - i) := by
  unfold cutL sIx
  have e1 : ((if (i : Int) < 0 then max ((i : Int) + (xs.length : Int)) 0 else min (i : Int) (xs.length : Int))).toNat = i := by
    rw [if_neg (by omega)]; omega
  have e2 : ((if (j : Int) < 0 then max ((j : Int) + (xs.length : Int)) 0 else min (j : Int) (xs.length : Int))).toNat = j := by
    rw [if_neg (by omega)]; omega
  simp only [e1, e2]
theorem ixN_ofNat {n i : Nat} : ixN n (no_index (@OfNat.ofNat Int i _)) = if i < n then some i else none := by
  show ixN n (i : Int) = _
  unfold ixN
  rw [if_pos (by omega)]
  by_cases h : i < n
  · rw [if_pos h, if_pos (by omega)]; simp
  · rw [if_neg h, if_neg (by omega)]
theorem atI_ofNat {α : Type} {xs : List α} {i : Nat} : atI xs (no_index (@OfNat.ofNat Int i _)) = xs[i]? := by
  unfold atI
  rw [ixN_ofNat]
  by_cases h : i < xs.length
  · rw [if_pos h]; rfl
  · rw [if_neg h, List.getElem?_eq_none (by omega)]; rfl
/-- the last ones: xs[-n] -/
theorem atI_neg {α : Type} {xs ys : List α} {y : α} {n : Nat} (h : n = ys.length + 1) : atI (xs ++ y :: ys) (-(n : Int)) = some y := by
  subst h
  unfold atI ixN
  rw [if_neg (by omega), if_pos (by simp; omega)]
  have e : (-((ys.length + 1 : Nat) : Int) + ((xs ++ y :: ys).length : Int)).toNat = xs.length := by simp; omega
  rw [e]
  simp
theorem atI_neg1 {α : Type} {xs : List α} {y : α} : atI (xs ++ [y]) (-1) = some y := atI_neg (xs := xs) (ys := []) (n := 1) rfl
theorem atI_neg2 {α : Type} {xs : List α} {y z : α} : atI (xs ++ [y, z]) (-2) = some y := atI_neg (xs := xs) (ys := [z]) (n := 2) rfl
theorem atI_neg21 {α : Type} {xs : List α} {y z : α} : atI (xs ++ [y, z]) (-1) = some z := by
  have := atI_neg (xs := xs ++ [y]) (y := z) (ys := []) (n := 1) rfl
  simpa using this
theorem br_not {c : Bool} {A B : Prop} : br (!c) A B = br c B A := by cases c <;> simp [br]
theorem br_yes {c : Bool} {A B : Prop} (e : c = true) (h : A) : br c A B := by subst e; exact br_true h
theorem br_no {c : Bool} {A B : Prop} (e : c = false) (h : B) : br c A B := by subst e; exact br_false h
/-- xs[-2:], xs[:-2] -/
theorem cutL_last {α : Type} {xs ys : List α} {n : Nat} (h : n = ys.length) (hn : 0 < n) : cutL (xs ++ ys) (some (-(n : Int))) none = ys := by
  subst h
  unfold cutL sIx
  have e : (if (-(ys.length : Int)) < 0 then max (-(ys.length : Int) + ((xs ++ ys).length : Int)) 0 else min (-(ys.length : Int)) ((xs ++ ys).length : Int)).toNat = xs.length := by
    rw [if_pos (by omega)]; simp; omega
  simp only [e]
  rw [List.drop_left]
  rw [List.length_append, Nat.add_sub_cancel_left, List.take_length]
theorem cutL_front {α : Type} {xs ys : List α} {n : Nat} (h : n = ys.length) (hn : 0 < n) : cutL (xs ++ ys) none (some (-(n : Int))) = xs := by
  subst h
  unfold cutL sIx
  have e : (if (-(ys.length : Int)) < 0 then max (-(ys.length : Int) + ((xs ++ ys).length : Int)) 0 else min (-(ys.length : Int)) ((xs ++ ys).length : Int)).toNat = xs.length := by
    rw [if_pos (by omega)]; simp; omega
  simp only [e]
  simp
theorem cutL_lo {α : Type} {xs : List α} {i : Nat} (h : i ≤ xs.length) : cutL xs (some (i : Int)) none = xs.drop i := by
  unfold cutL sIx
  have e1 : ((if (i : Int) < 0 then max ((i : Int) + (xs.length : Int)) 0 else min (i : Int) (xs.length : Int))).toNat = i := by
    rw [if_neg (by omega)]; omega
  simp only [e1]
  rw [List.take_of_length_le]; rw [List.length_drop]; omega
theorem cutL_hi {α : Type} {xs : List α} {i : Nat} (h : i ≤ xs.length) : cutL xs none (some (i : Int)) = xs.take i := by
  unfold cutL sIx
  have e1 : ((if (i : Int) < 0 then max ((i : Int) + (xs.length : Int)) 0 else min (i : Int) (xs.length : Int))).toNat = i := by
    rw [if_neg (by omega)]; omega
  simp only [e1]
  simp
section
variable {h : Hv} {a : Addr} {xs ys : List D} {c : Cell}
theorem rsvN : rsv h .non = .non := rfl
theorem rsvB {b : Bool} : rsv h (.bl b) = .bl b := rfl
theorem rsvI {i : Int} : rsv h (.int i) = .int i := rfl
theorem rsvS {cs : List Nat} : rsv h (.str cs) = .str cs := rfl
theorem rsvT : rsv h (.tup xs) = .tup xs := rfl
theorem rsvLs : rsv h (.lst xs) = .lst xs := rfl
theorem rsvSc {ns : List Int} : rsv h (.scr ns) = .scr ns := rfl
theorem rsvE {k : Nat} : rsv h (.exc k xs) = .exc k xs := rfl
theorem rsvL (e : h a = some (.lst xs)) : rsv h (.loc a) = .lst xs := by
  show (match h a with | some (.lst xs) => D.lst xs | _ => .loc a) = _
  rw [e]
theorem rsvH : rsv (hup h a (.lst xs)) (.loc a) = .lst xs := rsvL hup_same
theorem rsvHN {b : Addr} (n : a ≠ b) : rsv (hup h b c) (.loc a) = rsv h (.loc a) := by
  show (match hup h b c a with | some (.lst xs) => D.lst xs | _ => .loc a) = (match h a with | some (.lst xs) => D.lst xs | _ => .loc a)
  rw [hup_ne n]
theorem plnN : D.pln .non = true := rfl
theorem plnB {b : Bool} : D.pln (.bl b) = true := rfl
theorem plnI {i : Int} : D.pln (.int i) = true := rfl
theorem plnS {cs : List Nat} : D.pln (.str cs) = true := rfl
theorem plnT : D.pln (.tup xs) = D.plns xs := rfl
theorem plnL : D.pln (.lst xs) = D.plns xs := rfl
theorem plns0 : D.plns [] = true := rfl
theorem plnsC {d : D} : D.plns (d :: xs) = (D.pln d && D.plns xs) := rfl
theorem depN : D.dep .non = 0 := rfl
theorem depB {b : Bool} : D.dep (.bl b) = 0 := rfl
theorem depI {i : Int} : D.dep (.int i) = 0 := rfl
theorem depS {cs : List Nat} : D.dep (.str cs) = 0 := rfl
theorem depT : D.dep (.tup xs) = D.deps xs + 1 := rfl
theorem depL : D.dep (.lst xs) = D.deps xs + 1 := rfl
theorem deps0 : D.deps [] = 0 := rfl
theorem depsC {d : D} : D.deps (d :: xs) = max (D.dep d) (D.deps xs) := rfl
theorem eqbI {i j : Int} : D.eqb (.int i) (.int j) = (i == j) := by rw [D.eqb]
theorem eqbS {i j : List Nat} : D.eqb (.str i) (.str j) = (i == j) := by rw [D.eqb]
theorem eqbT : D.eqb (.tup xs) (.tup ys) = D.eqbs xs ys := by rw [D.eqb]
theorem eqbL : D.eqb (.lst xs) (.lst ys) = D.eqbs xs ys := by rw [D.eqb]
theorem eqbB {i j : Bool} : D.eqb (.bl i) (.bl j) = (i == j) := by rw [D.eqb]
theorem eqbTL : D.eqb (.tup xs) (.lst ys) = false := by rw [D.eqb]; all_goals simp
theorem eqbLT : D.eqb (.lst xs) (.tup ys) = false := by rw [D.eqb]; all_goals simp
theorem eqbs0 : D.eqbs [] [] = true := by rw [D.eqbs]
theorem eqbsC {d e : D} : D.eqbs (d :: xs) (e :: ys) = (D.eqb d e && D.eqbs xs ys) := by rw [D.eqbs]
theorem lenS {cs : List Nat} : lenD (.str cs) = some cs.length := rfl
theorem lenL : lenD (.lst xs) = some xs.length := rfl
theorem lenT : lenD (.tup xs) = some xs.length := rfl
theorem lenSc {ns : List Int} : lenD (.scr ns) = some ns.length := rfl
theorem seqL : seqD (.lst xs) = some xs := rfl
theorem seqT : seqD (.tup xs) = some xs := rfl
theorem kdN : kindD h .non = some .non := rfl
theorem kdB {b : Bool} : kindD h (.bl b) = some .bool := rfl
theorem kdI {i : Int} : kindD h (.int i) = some .int := rfl
theorem kdS {cs : List Nat} : kindD h (.str cs) = some .str := rfl
theorem kdT : kindD h (.tup xs) = some .tuple := rfl
theorem kdL : kindD h (.lst xs) = some .list := rfl
theorem isNonN : D.isNon .non = true := rfl
theorem isNonB {b : Bool} : D.isNon (.bl b) = false := rfl
theorem isNonI {i : Int} : D.isNon (.int i) = false := rfl
theorem isNonS {cs : List Nat} : D.isNon (.str cs) = false := rfl
theorem isNonT : D.isNon (.tup xs) = false := rfl
theorem isNonL : D.isNon (.lst xs) = false := rfl
theorem isNonO : D.isNon (.loc a) = false := rfl
end
def frzK (x : D) (h1 : Hv) (Q : QD) : Prop := match x with
      | .loc c => ∃ xs, h1 c = some (.lst xs) ∧ Q (.lst xs) (hrm h1 c)
      | d => Q d h1
def isxK (T : Tab) (x : D) (cs : List Nat) (h1 : Hv) (Q : QD) : Prop := match x with
      | .exc c _ => Q (.bl (cs.any (T.sub c))) h1
      | .non => Q (.bl false) h1
      | _ => False
section
variable {T : Tab}
theorem wE_var {i : Nat} {r : VS.Env} {h : Hv} {Q : QD} {w3 : XQ} : wE T (.var i) r h Q w3 = ∃ d, r[i]? = some (some d) ∧ Q d h := by rw [wE]
theorem wE_cst {d : D} {w0 : VS.Env} {h : Hv} {Q : QD} {w3 : XQ} : wE T (.cst d) w0 h Q w3 = Q d h := by rw [wE]
theorem wE_glob {i : Nat} {w0 : VS.Env} {h : Hv} {Q : QD} {w3 : XQ} : wE T (.glob i) w0 h Q w3 = ∃ d, T.glob i = some d ∧ Q d h := by rw [wE]
theorem wE_bop {fz : Bool} {o : BOp} {a : VS.E} {b : VS.E} {r : VS.Env} {h : Hv} {Q : QD} {X : XQ} : wE T (.bop fz o a b) r h Q X = wE T a r h (fun x h1 => wE T b r h1 (fun y h2 => wBop fz o x y h2 Q) X) X := by rw [wE]
theorem wE_neg {a : VS.E} {r : VS.Env} {h : Hv} {Q : QD} {X : XQ} : wE T (.neg a) r h Q X = wE T a r h (fun x h1 => ∃ i, x = .int i ∧ Q (.int (-i)) h1) X := by rw [wE]
theorem wE_not {a : VS.E} {r : VS.Env} {h : Hv} {Q : QD} {X : XQ} : wE T (.not a) r h Q X = wE T a r h (fun x h1 => ∃ c, x = .bl c ∧ Q (.bl (!c)) h1) X := by rw [wE]
theorem wE_cmp {o : COp} {a : VS.E} {b : VS.E} {r : VS.Env} {h : Hv} {Q : QD} {X : XQ} : wE T (.cmp o a b) r h Q X = wE T a r h (fun x h1 => wE T b r h1 (fun y h2 => wCmp T.kc o x y h2 fun c => Q (.bl c) h2) X) X := by rw [wE]
theorem wE_chn {o : COp} {o' : COp} {a : VS.E} {b : VS.E} {c : VS.E} {r : VS.Env} {h : Hv} {Q : QD} {X : XQ} : wE T (.chn o o' a b c) r h Q X = wE T a r h (fun x h1 => wE T b r h1 (fun y h2 => wCmp T.kc o x y h2 fun k => br k (wE T c r h2 (fun z h3 => wCmp T.kc o' y z h3 fun k' => Q (.bl k') h3) X) (Q (.bl false) h2)) X) X := by rw [wE]
theorem wE_andv {as : Es} {r : VS.Env} {h : Hv} {Q : QD} {X : XQ} : wE T (.andv as) r h Q X = wAnd T as r h Q X := by rw [wE]
theorem wE_orv {as : Es} {r : VS.Env} {h : Hv} {Q : QD} {X : XQ} : wE T (.orv as) r h Q X = wOr T as r h Q X := by rw [wE]
theorem wE_ite {c : VS.C} {a : VS.E} {b : VS.E} {r : VS.Env} {h : Hv} {Q : QD} {X : XQ} : wE T (.ite c a b) r h Q X = wC T c r h (fun k h1 => br k (wE T a r h1 Q X) (wE T b r h1 Q X)) X := by rw [wE]
theorem wE_tup {as : Es} {r : VS.Env} {h : Hv} {Q : QD} {X : XQ} : wE T (.tup as) r h Q X = wEs T as r h (fun ds h1 => ds.length ≤ lim ∧ Q (.tup ds) h1) X := by rw [wE]
theorem wE_lst {fz : Bool} {as : Es} {r : VS.Env} {h : Hv} {Q : QD} {X : XQ} : wE T (.lst fz as) r h Q X = wEs T as r h (fun ds h1 => ds.length ≤ lim ∧ mkL fz ds h1 Q) X := by rw [wE]
theorem wE_ix {a : VS.E} {i : VS.E} {r : VS.Env} {h : Hv} {Q : QD} {X : XQ} : wE T (.ix a i) r h Q X = wE T a r h (fun x h1 => wE T i r h1 (fun y h2 => wIx T.kc x y h2 Q) X) X := by rw [wE]
theorem wE_slc {fz : Bool} {a : VS.E} {lo : VS.O} {hi : VS.O} {r : VS.Env} {h : Hv} {Q : QD} {X : XQ} : wE T (.slc fz a lo hi) r h Q X = wE T a r h (fun x h1 => wO T lo r h1 (fun l h2 => wO T hi r h2 (fun u h3 => wSlc fz x l u h3 Q) X) X) X := by rw [wE]
theorem wE_rev {fz : Bool} {a : VS.E} {r : VS.Env} {h : Hv} {Q : QD} {X : XQ} : wE T (.rev fz a) r h Q X = wE T a r h (fun x h1 => ∃ xs, rsv h1 x = .lst xs ∧ mkL fz xs.reverse h1 Q) X := by rw [wE]
theorem wE_call {f : Nat} {as : Es} {r : VS.Env} {h : Hv} {Q : QD} {X : XQ} : wE T (.call f as) r h Q X = wEs T as r h (fun ds h1 => T.fn f ds h1 Q X) X := by rw [wE]
theorem wE_bi {b : BI} {as : Es} {r : VS.Env} {h : Hv} {Q : QD} {X : XQ} : wE T (.bi b as) r h Q X = wEs T as r h (fun ds h1 => wBI b ds h1 Q) X := by rw [wE]
theorem wE_lrng1 {fz : Bool} {a : VS.E} {r : VS.Env} {h : Hv} {Q : QD} {X : XQ} : wE T (.lrng1 fz a) r h Q X = wE T a r h (fun x h1 => ∃ i, x = .int i ∧ rngOk 0 i ∧ mkL fz (rngL 0 i) h1 Q) X := by rw [wE]
theorem wE_lrng2 {fz : Bool} {a : VS.E} {b : VS.E} {r : VS.Env} {h : Hv} {Q : QD} {X : XQ} : wE T (.lrng2 fz a b) r h Q X = wE T a r h (fun x h1 => wE T b r h1 (fun y h2 => ∃ i j, x = .int i ∧ y = .int j ∧ rngOk i j ∧ mkL fz (rngL i j) h2 Q) X) X := by rw [wE]
theorem wE_isi {a : VS.E} {tys : List Kd} {r : VS.Env} {h : Hv} {Q : QD} {X : XQ} : wE T (.isi a tys) r h Q X = wE T a r h (fun x h1 => ∃ k, kindD h1 x = some k ∧ Q (.bl (tys.any k.isOf)) h1) X := by rw [wE]
theorem wE_isx {a : VS.E} {cs : List Nat} {r : VS.Env} {h : Hv} {Q : QD} {X : XQ} : wE T (.isx a cs) r h Q X = wE T a r h (fun x h1 => isxK T x cs h1 Q) X := by rw [wE]; rfl
theorem wE_fld {a : VS.E} {n : Nat} {r : VS.Env} {h : Hv} {Q : QD} {X : XQ} : wE T (.fld a n) r h Q X = wE T a r h (fun x h1 => ∃ c fs j d, x = .exc c fs ∧ T.fldIx c n = some j ∧ fs[j]? = some d ∧ Q d h1) X := by rw [wE]
theorem wE_mt {m : MT} {o : VS.E} {as : Es} {r : VS.Env} {h : Hv} {Q : QD} {X : XQ} : wE T (.mt m o as) r h Q X = wE T o r h (fun x h1 => isRcv m x h1 ∧ wEs T as r h1 (fun ds h2 => wMT m x ds h2 Q) X) X := by rw [wE]
theorem wE_comp {fz : Bool} {elt : VS.E} {tg : Tg} {own : List (PySem.Str × Nat)} {it : VS.It} {cnd : Cs} {r : VS.Env} {h : Hv} {Q : QD} {X : XQ} : wE T (.comp fz elt tg own it cnd) r h Q X = wI T it r h (fun xs ok h1 =>
      wCp ok (fun x h2 R => asgT tg x (wipeE r own) fun r1 => wAndC T cnd r1 h2 (fun c h3 => br c (wE T elt r1 h3 (fun d h4 => R (some d) h4) fun _ _ _ => False) (R none h3)) fun _ _ _ => False) xs [] h1 fun ds h2 => mkL fz ds h2 Q) X := by rw [wE]
theorem wE_frz {a : VS.E} {r : VS.Env} {h : Hv} {Q : QD} {X : XQ} : wE T (.frz a) r h Q X = wE T a r h (fun x h1 => frzK x h1 Q) X := by rw [wE]; rfl
theorem wE_dnew {tk : Bool} {w0 : VS.Env} {h : Hv} {Q : QD} {w3 : XQ} : wE T (.dnew tk) w0 h Q w3 = ∀ a, h a = none → Q (.loc a) (hup h a (if tk then .dT [] else .dK [])) := by rw [wE]
theorem wEs_nil  {w0 : VS.Env} {h : Hv} {Q : (List D → Hv → Prop)} {w3 : XQ} : wEs T (.nil ) w0 h Q w3 = Q [] h := by rw [wEs]
theorem wEs_cons {e : VS.E} {es : Es} {r : VS.Env} {h : Hv} {Q : (List D → Hv → Prop)} {X : XQ} : wEs T (.cons e es) r h Q X = wE T e r h (fun x h1 => wEs T es r h1 (fun xs h2 => Q (x :: xs) h2) X) X := by rw [wEs]
theorem wO_none  {w0 : VS.Env} {h : Hv} {Q : (Option Int → Hv → Prop)} {w3 : XQ} : wO T (.none ) w0 h Q w3 = Q none h := by rw [wO]
theorem wO_some {e : VS.E} {r : VS.Env} {h : Hv} {Q : (Option Int → Hv → Prop)} {X : XQ} : wO T (.some e) r h Q X = wE T e r h (fun x h1 => ∃ i, x = .int i ∧ Q (some i) h1) X := by rw [wO]
theorem wC_val {e : VS.E} {r : VS.Env} {h : Hv} {Q : (Bool → Hv → Prop)} {X : XQ} : wC T (.val e) r h Q X = wE T e r h (fun x h1 => ∃ c, x = .bl c ∧ Q c h1) X := by rw [wC]
theorem wC_cmp {o : COp} {a : VS.E} {b : VS.E} {r : VS.Env} {h : Hv} {Q : (Bool → Hv → Prop)} {X : XQ} : wC T (.cmp o a b) r h Q X = wE T a r h (fun x h1 => wE T b r h1 (fun y h2 => wCmp T.kc o x y h2 fun c => Q c h2) X) X := by rw [wC]
theorem wC_chn {o : COp} {o' : COp} {a : VS.E} {b : VS.E} {c : VS.E} {r : VS.Env} {h : Hv} {Q : (Bool → Hv → Prop)} {X : XQ} : wC T (.chn o o' a b c) r h Q X = wE T a r h (fun x h1 => wE T b r h1 (fun y h2 => wCmp T.kc o x y h2 fun k => br k (wE T c r h2 (fun z h3 => wCmp T.kc o' y z h3 fun k' => Q k' h3) X) (Q false h2)) X) X := by rw [wC]
theorem wC_not {c : VS.C} {r : VS.Env} {h : Hv} {Q : (Bool → Hv → Prop)} {X : XQ} : wC T (.not c) r h Q X = wC T c r h (fun k h1 => Q (!k) h1) X := by rw [wC]
theorem wC_and {cs : Cs} {r : VS.Env} {h : Hv} {Q : (Bool → Hv → Prop)} {X : XQ} : wC T (.and cs) r h Q X = wAndC T cs r h Q X := by rw [wC]
theorem wC_or {cs : Cs} {r : VS.Env} {h : Hv} {Q : (Bool → Hv → Prop)} {X : XQ} : wC T (.or cs) r h Q X = wOrC T cs r h Q X := by rw [wC]
theorem wAndC_nil  {w0 : VS.Env} {h : Hv} {Q : (Bool → Hv → Prop)} {w3 : XQ} : wAndC T (.nil ) w0 h Q w3 = Q true h := by rw [wAndC]
theorem wAndC_cons {c : VS.C} {cs : Cs} {r : VS.Env} {h : Hv} {Q : (Bool → Hv → Prop)} {X : XQ} : wAndC T (.cons c cs) r h Q X = wC T c r h (fun k h1 => br k (wAndC T cs r h1 Q X) (Q false h1)) X := by rw [wAndC]
theorem wOrC_nil  {w0 : VS.Env} {h : Hv} {Q : (Bool → Hv → Prop)} {w3 : XQ} : wOrC T (.nil ) w0 h Q w3 = Q false h := by rw [wOrC]
theorem wOrC_cons {c : VS.C} {cs : Cs} {r : VS.Env} {h : Hv} {Q : (Bool → Hv → Prop)} {X : XQ} : wOrC T (.cons c cs) r h Q X = wC T c r h (fun k h1 => br k (Q true h1) (wOrC T cs r h1 Q X)) X := by rw [wOrC]
theorem wI_seq {a : VS.E} {r : VS.Env} {h : Hv} {Q : (List D → (Hv → Prop) → Hv → Prop)} {X : XQ} : wI T (.seq a) r h Q X = wE T a r h (fun x h1 => ∃ xs, seqD (rsv h1 x) = some xs ∧ xs.length ≤ lim ∧ Q xs (itOk x (cellOf h1 x)) h1) X := by rw [wI]
theorem wI_sgn {a : VS.E} {r : VS.Env} {h : Hv} {Q : (List D → (Hv → Prop) → Hv → Prop)} {X : XQ} : wI T (.sgn a) r h Q X = wE T a r h (fun x h1 => ∃ cs, x = .str cs ∧ cs.length ≤ lim ∧ Q (sgnL cs) (fun _ => True) h1) X := by rw [wI]
theorem wI_rng1 {a : VS.E} {r : VS.Env} {h : Hv} {Q : (List D → (Hv → Prop) → Hv → Prop)} {X : XQ} : wI T (.rng1 a) r h Q X = wE T a r h (fun x h1 => ∃ i, x = .int i ∧ rngOk 0 i ∧ Q (rngL 0 i) (fun _ => True) h1) X := by rw [wI]
theorem wI_rng2 {a : VS.E} {b : VS.E} {r : VS.Env} {h : Hv} {Q : (List D → (Hv → Prop) → Hv → Prop)} {X : XQ} : wI T (.rng2 a b) r h Q X = wE T a r h (fun x h1 => wE T b r h1 (fun y h2 => ∃ i j, x = .int i ∧ y = .int j ∧ rngOk i j ∧ Q (rngL i j) (fun _ => True) h2) X) X := by rw [wI]
theorem wI_enm {a : VS.E} {r : VS.Env} {h : Hv} {Q : (List D → (Hv → Prop) → Hv → Prop)} {X : XQ} : wI T (.enm a) r h Q X = wE T a r h (fun x h1 => ∃ xs, rsv h1 x = .lst xs ∧ xs.length ≤ lim ∧ Q (enumL 0 xs) (itOk x (cellOf h1 x)) h1) X := by rw [wI]
theorem wI_zip2 {a : VS.E} {b : VS.E} {r : VS.Env} {h : Hv} {Q : (List D → (Hv → Prop) → Hv → Prop)} {X : XQ} : wI T (.zip2 a b) r h Q X = wE T a r h (fun x h1 => wE T b r h1 (fun y h2 => ∃ xs ys, rsv h2 x = .lst xs ∧ rsv h2 y = .lst ys ∧ xs.length ≤ lim ∧ Q (zip2L xs ys) (fun h' => itOk x (cellOf h2 x) h' ∧ itOk y (cellOf h2 y) h') h2) X) X := by rw [wI]
theorem wI_zip3 {a : VS.E} {b : VS.E} {c : VS.E} {r : VS.Env} {h : Hv} {Q : (List D → (Hv → Prop) → Hv → Prop)} {X : XQ} : wI T (.zip3 a b c) r h Q X = wE T a r h (fun x h1 => wE T b r h1 (fun y h2 => wE T c r h2 (fun z h3 => ∃ xs ys zs, rsv h3 x = .lst xs ∧ rsv h3 y = .lst ys ∧ rsv h3 z = .lst zs ∧ xs.length ≤ lim ∧
      Q (zip3L xs ys zs) (fun h' => itOk x (cellOf h3 x) h' ∧ itOk y (cellOf h3 y) h' ∧ itOk z (cellOf h3 z) h') h3) X) X) X := by rw [wI]
theorem wS_asg {tg : Tg} {e : VS.E} {r : VS.Env} {h : Hv} {k : Ks} : wS T (.asg tg e) r h k = wE T e r h (fun d h1 => asgT tg d r fun r1 => k.nx r1 h1) (fun c fs h1 => k.ex c fs r h1) := by rw [wS]
theorem wS_par {i : Nat} {j : Nat} {a : VS.E} {b : VS.E} {r : VS.Env} {h : Hv} {k : Ks} : wS T (.par i j a b) r h k = wE T a r h (fun x h1 => wE T b r h1 (fun y h2 => i < r.length ∧ j < r.length ∧ k.nx ((r.set i (some x)).set j (some y)) h2) (fun c fs h1 => k.ex c fs r h1)) (fun c fs h1 => k.ex c fs r h1) := by rw [wS]
theorem wS_asgIx {o : VS.E} {i : VS.E} {e : VS.E} {r : VS.Env} {h : Hv} {k : Ks} : wS T (.asgIx o i e) r h k = wE T e r h (fun d h1 => wE T o r h1 (fun x h2 => wE T i r h2 (fun y h3 => wSet T.kc x y d h3 fun h4 => k.nx r h4) (fun c fs h1 => k.ex c fs r h1)) (fun c fs h1 => k.ex c fs r h1)) (fun c fs h1 => k.ex c fs r h1) := by rw [wS]
theorem wS_aug {i : Nat} {e : VS.E} {r : VS.Env} {h : Hv} {k : Ks} : wS T (.aug i e) r h k = ∃ a, r[i]? = some (some (.int a)) ∧ wE T e r h (fun y h1 => ∃ b, y = .int b ∧ k.nx (r.set i (some (.int (a + b)))) h1) (fun c fs h1 => k.ex c fs r h1) := by rw [wS]
theorem wS_ex {e : VS.E} {r : VS.Env} {h : Hv} {k : Ks} : wS T (.ex e) r h k = wE T e r h (fun _ h1 => k.nx r h1) (fun c fs h1 => k.ex c fs r h1) := by rw [wS]
theorem wS_ret {e : VS.E} {r : VS.Env} {h : Hv} {k : Ks} : wS T (.ret e) r h k = wE T e r h (fun d h1 => ∃ h2, hsub h2 h1 ∧ k.rt d h2) (fun c fs h1 => k.ex c fs r h1) := by rw [wS]
theorem wS_ret0  {w0 : VS.Env} {h : Hv} {k : Ks} : wS T (.ret0 ) w0 h k = ∃ h2, hsub h2 h ∧ k.rt .non h2 := by rw [wS]
theorem wS_ife {c : VS.C} {t : Ss} {f : Ss} {r : VS.Env} {h : Hv} {k : Ks} : wS T (.ife c t f) r h k = wC T c r h (fun b h1 => br b (wSs T t r h1 k) (wSs T f r h1 k)) (fun c fs h1 => k.ex c fs r h1) := by rw [wS]
theorem wS_whl {c : VS.C} {b : Ss} {r : VS.Env} {h : Hv} {k : Ks} : wS T (.whl c b) r h k = ∃ n, wWhl (wC T c) (wSs T b) n r h k := by rw [wS]
theorem wS_fr {tg : Tg} {it : VS.It} {b : Ss} {r : VS.Env} {h : Hv} {k : Ks} : wS T (.fr tg it b) r h k = wI T it r h (fun xs ok h1 => wFor ok (asgT tg) (wSs T b) xs r h1 k) (fun c fs h1 => k.ex c fs r h1) := by rw [wS]
theorem wS_rs {c : Nat} {as : Es} {r : VS.Env} {h : Hv} {k : Ks} : wS T (.rs c as) r h k = wEs T as r h (fun ds h1 => k.ex c (if T.keeps c then ds else []) r h1) (fun c fs h1 => k.ex c fs r h1) := by rw [wS]
theorem wS_never  {w0 : VS.Env} {w1 : Hv} {w2 : Ks} : wS T (.never ) w0 w1 w2 = False := by rw [wS]

def addK (fz : Bool) (x y : D) (h : Hv) (Q : QD) : Prop := match x, y with
  | .int i, .int j => Q (.int (i + j)) h
  | .str a, .str b => a.length + b.length ≤ lim ∧ Q (.str (a ++ b)) h
  | .lst a, .lst b => a.length + b.length ≤ lim ∧ mkL fz (a ++ b) h Q
  | .tup a, .tup b => a.length + b.length ≤ lim ∧ Q (.tup (a ++ b)) h
  | _, _ => False
def mulK (fz : Bool) (x y : D) (h : Hv) (Q : QD) : Prop := match x, y with
  | .int i, .int j => mulOk i j ∧ Q (.int (i * j)) h
  | .lst a, .int j => -(2 ^ 63) ≤ j ∧ j < 2 ^ 63 ∧ a.length * j.toNat ≤ lim ∧ mkL fz (List.replicate j.toNat a).flatten h Q
  | _, _ => False
section
variable {fz : Bool} {x y : D} {i j : Int} {a b : List Nat} {u v : List D} {h : Hv} {Q : QD} {p : Addr}
theorem wAdd_d : wBop fz .add x y h Q = addK fz (rsv h x) (rsv h y) h Q := rfl
theorem wMul_d : wBop fz .mul x y h Q = mulK fz (rsv h x) (rsv h y) h Q := rfl
theorem addKI : addK fz (.int i) (.int j) h Q = Q (.int (i + j)) h := rfl
theorem addKS : addK fz (.str a) (.str b) h Q = (a.length + b.length ≤ lim ∧ Q (.str (a ++ b)) h) := rfl
theorem addKL : addK fz (.lst u) (.lst v) h Q = (u.length + v.length ≤ lim ∧ mkL fz (u ++ v) h Q) := rfl
theorem addKT : addK fz (.tup u) (.tup v) h Q = (u.length + v.length ≤ lim ∧ Q (.tup (u ++ v)) h) := rfl
theorem mulKI : mulK fz (.int i) (.int j) h Q = (mulOk i j ∧ Q (.int (i * j)) h) := rfl
theorem mulKL : mulK fz (.lst u) (.int j) h Q = (-(2 ^ 63) ≤ j ∧ j < 2 ^ 63 ∧ u.length * j.toNat ≤ lim ∧ mkL fz (List.replicate j.toNat u).flatten h Q) := rfl
theorem wSubI : wBop fz .sub (.int i) (.int j) h Q = Q (.int (i - j)) h := rfl
theorem wFdivI : wBop fz .fdiv (.int i) (.int j) h Q = (divOk j ∧ Q (.int (i / j)) h) := rfl
theorem wModI : wBop fz .mod (.int i) (.int j) h Q = (0 < j ∧ Q (.int (i % j)) h) := rfl
theorem wPowI : wBop fz .pow (.int i) (.int j) h Q = (powOk i j ∧ Q (.int (i ^ j.toNat)) h) := rfl
theorem mkLt : mkL true u h Q = Q (.lst u) h := rfl
theorem mkLf : mkL false u h Q = ∀ a, h a = none → Q (.loc a) (hup h a (.lst u)) := rfl
theorem asgT_nm {i : Nat} {d : D} {r : VS.Env} {K : VS.Env → Prop} : asgT (.nm i) d r K = (i < r.length ∧ K (r.set i (some d))) := by rw [asgT]
theorem asgT_tp {ts : Tgs} {r : VS.Env} {K : VS.Env → Prop} : asgT (.tp ts) (.tup u) r K = (u.length = Tgs.len ts ∧ asgTs ts u r K) := by rw [asgT]; exact propext ⟨fun ⟨_, e, q⟩ => by cases e; exact q, fun q => ⟨u, rfl, q⟩⟩
theorem asgTs_nil {r : VS.Env} {K : VS.Env → Prop} : asgTs .nil [] r K = K r := by rw [asgTs]; exact propext ⟨fun q => q.2, fun q => ⟨rfl, q⟩⟩
theorem asgTs_cons {t : Tg} {ts : Tgs} {r : VS.Env} {K : VS.Env → Prop} : asgTs (.cons t ts) (x :: u) r K = asgT t x r fun r1 => asgTs ts u r1 K := by rw [asgTs]; exact propext ⟨fun ⟨_, _, e, q⟩ => by cases e; exact q, fun q => ⟨x, u, rfl, q⟩⟩
theorem put_fn {T : Tab} {f g : Nat} {sp : VSp} : (T.put f sp).fn g = if g = f then sp else T.fn g := rfl
theorem put_glob {T : Tab} {f : Nat} {sp : VSp} : (T.put f sp).glob = T.glob := rfl
theorem put_kc {T : Tab} {f : Nat} {sp : VSp} : (T.put f sp).kc = T.kc := rfl
theorem frzKL : frzK (.loc p) h Q = ∃ xs, h p = some (.lst xs) ∧ Q (.lst xs) (hrm h p) := rfl
end
section
variable {kc : List D → Bool} {x y : D} {i j : Int} {a b : List Nat} {u v : List D} {h : Hv} {Q : Bool → Prop} {R : QD} {p : Addr} {fz : Bool}
theorem wCeq : wCmp kc .eq x y h Q = wEq x y h Q := rfl
theorem wCne : wCmp kc .ne x y h Q = wEq x y h fun b => Q (!b) := rfl
theorem wClt : wCmp kc .lt (.int i) (.int j) h Q = Q (decide (i < j)) := rfl
theorem wCle : wCmp kc .le (.int i) (.int j) h Q = Q (decide (i ≤ j)) := rfl
theorem wCleS : wCmp kc .le (.str a) (.str b) h Q = Q (decide (a ≤ b)) := rfl
theorem wCgt : wCmp kc .gt (.int i) (.int j) h Q = Q (decide (j < i)) := rfl
theorem wCge : wCmp kc .ge (.int i) (.int j) h Q = Q (decide (j ≤ i)) := rfl
theorem wCis : wCmp kc .isN x .non h Q = Q x.isNon := rfl
theorem wCisn : wCmp kc .isnN x .non h Q = Q (!x.isNon) := rfl
theorem wCin : wCmp kc .inn x y h Q = wIn kc x y h Q := rfl
theorem wCnin : wCmp kc .nin x y h Q = wIn kc x y h fun b => Q (!b) := rfl
def inK (kc : List D → Bool) (x y : D) (h : Hv) (Q : Bool → Prop) : Prop := match y with
  | .str b => match x with
    | .str [c] => Q (decide (c ∈ b))
    | _ => False
  | .lst b => wInL x b h Q
  | .tup b => match x with
    | .int i => (∀ z ∈ b, ∃ j, z = .int j) ∧ Q (b.any fun z => D.eqb z (.int i))
    | .str i => (∀ z ∈ b, ∃ j, z = .str j) ∧ Q (b.any fun z => D.eqb z (.str i))
    | _ => False
  | .loc a => ∃ c o, h a = some c ∧ dlook kc c x = some o ∧ Q o.isSome
  | _ => False
theorem wIn_d : wIn kc x y h Q = inK kc x (rsv h y) h Q := rfl
theorem inKS {c : Nat} : inK kc (.str [c]) (.str b) h Q = Q (decide (c ∈ b)) := rfl
theorem inKL : inK kc x (.lst u) h Q = wInL x u h Q := rfl
theorem inKTI : inK kc (.int i) (.tup u) h Q = ((∀ z ∈ u, ∃ j, z = .int j) ∧ Q (u.any fun z => D.eqb z (.int i))) := rfl
theorem inKTS : inK kc (.str a) (.tup u) h Q = ((∀ z ∈ u, ∃ j, z = .str j) ∧ Q (u.any fun z => D.eqb z (.str a))) := rfl
theorem inKD : inK kc x (.loc p) h Q = ∃ c o, h p = some c ∧ dlook kc c x = some o ∧ Q o.isSome := rfl
def ixK (kc : List D → Bool) (x y : D) (h : Hv) (Q : QD) : Prop := match x with
  | .loc a => ∃ c d, h a = some c ∧ dlook kc c y = some (some d) ∧ Q d h
  | .lst xs => match y with
    | .int i => ∃ d, atI xs i = some d ∧ Q d h
    | _ => False
  | .tup xs => match y with
    | .int i => ∃ d, atI xs i = some d ∧ Q d h
    | _ => False
  | .scr xs => match y with
    | .int i => ∃ d, atI xs i = some d ∧ Q (.int d) h
    | _ => False
  | .str xs => match y with
    | .int i => xs.length ≤ lim ∧ ∃ c, atI xs i = some c ∧ Q (.str [c]) h
    | _ => False
  | _ => False
theorem wIx_d : wIx kc x y h R = ixK kc (rsv h x) y h R := rfl
theorem ixKL : ixK kc (.lst u) (.int i) h R = ∃ d, atI u i = some d ∧ R d h := rfl
theorem ixKT : ixK kc (.tup u) (.int i) h R = ∃ d, atI u i = some d ∧ R d h := rfl
theorem ixKSc {ns : List Int} : ixK kc (.scr ns) (.int i) h R = ∃ d, atI ns i = some d ∧ R (.int d) h := rfl
theorem ixKS : ixK kc (.str a) (.int i) h R = (a.length ≤ lim ∧ ∃ c, atI a i = some c ∧ R (.str [c]) h) := rfl
theorem ixKD : ixK kc (.loc p) y h R = ∃ c d, h p = some c ∧ dlook kc c y = some (some d) ∧ R d h := rfl
def slcK (fz : Bool) (x : D) (lo hi : Option Int) (h : Hv) (Q : QD) : Prop := match x with
  | .lst xs => mkL fz (cutL xs lo hi) h Q
  | .tup xs => Q (.tup (cutL xs lo hi)) h
  | .str xs => xs.length ≤ lim ∧ Q (.str (cutL xs lo hi)) h
  | _ => False
theorem wSlc_d {lo hi : Option Int} : wSlc fz x lo hi h R = slcK fz (rsv h x) lo hi h R := rfl
theorem slcKL {lo hi : Option Int} : slcK fz (.lst u) lo hi h R = mkL fz (cutL u lo hi) h R := rfl
theorem slcKT {lo hi : Option Int} : slcK fz (.tup u) lo hi h R = R (.tup (cutL u lo hi)) h := rfl
theorem slcKS {lo hi : Option Int} : slcK fz (.str a) lo hi h R = (a.length ≤ lim ∧ R (.str (cutL a lo hi)) h) := rfl
theorem wSet_l {N : Hv → Prop} {d : D} (e : h p = some (.lst u)) : wSet kc (.loc p) (.int i) d h N = ∃ j, ixN u.length i = some j ∧ N (hup h p (.lst (u.set j d))) := by
  show (match h p with | some (.lst xs) => _ | some (.dK kvs) => _ | some (.dT kvs) => _ | _ => False) = _
  rw [e]
theorem wSet_h {N : Hv → Prop} {d : D} : wSet kc (.loc p) (.int i) d (hup h p (.lst u)) N = ∃ j, ixN u.length i = some j ∧ N (hup h p (.lst (u.set j d))) := by
  rw [wSet_l hup_same]; simp only [hup_hup]
theorem wBIlen : wBI .len [x] h R = ∃ n, lenD (rsv h x) = some n ∧ n ≤ lim ∧ R (.int n) h := rfl
theorem wBIabs : wBI .abs [.int i] h R = R (.int (if i < 0 then -i else i)) h := propext ⟨fun ⟨j, e, q⟩ => by cases e; exact q, fun q => ⟨i, rfl, q⟩⟩
theorem wBIintI : wBI .int [.int i] h R = R (.int i) h := rfl
theorem wBIintB {k : Bool} : wBI .int [.bl k] h R = R (.int (if k then 1 else 0)) h := rfl
theorem wBIintS : wBI .int [.str a] h R = ∃ n, PySem.intText? (strOf a) = some n ∧ a.length ≤ 640 ∧ R (.int n) h := rfl
theorem wBIstrI : wBI .str [.int i] h R = (i.natAbs.log2 < 1920 ∧ R (.str (intD i)) h) := rfl
theorem wBIstrS : wBI .str [.str a] h R = R (.str a) h := rfl
theorem wBIlist : wBI (.list fz) [x] h R = ∃ xs, seqD (rsv h x) = some xs ∧ mkL fz xs h R := rfl
theorem wBItuple : wBI .tuple [x] h R = ∃ xs, seqD (rsv h x) = some xs ∧ R (.tup xs) h := rfl
theorem wBIall : wBI .all [x] h R = ∃ xs bs, rsv h x = .lst xs ∧ allBl xs = some bs ∧ R (.bl (bs.all id)) h := rfl
theorem wBIany : wBI .any [x] h R = ∃ xs bs, rsv h x = .lst xs ∧ allBl xs = some bs ∧ R (.bl (bs.any id)) h := rfl
theorem wBImax1 : wBI .max1 [x] h R = ∃ xs ns, rsv h x = .lst xs ∧ allInt xs = some ns ∧ 0 < ns.length ∧ ∀ m, m ∈ ns → (∀ y, y ∈ ns → y ≤ m) → R (.int m) h := rfl
theorem wBImin1 : wBI .min1 [x] h R = ∃ xs ns, rsv h x = .lst xs ∧ allInt xs = some ns ∧ 0 < ns.length ∧ ∀ m, m ∈ ns → (∀ y, y ∈ ns → m ≤ y) → R (.int m) h := rfl
theorem wBIsum : wBI .sum [x] h R = ∃ xs ns, rsv h x = .lst xs ∧ allInt xs = some ns ∧ R (.int ns.sum) h := rfl
theorem wBIsorted : wBI (.sorted fz) [x] h R = ∃ xs ns, rsv h x = .lst xs ∧ allInt xs = some ns ∧ ns.length < 64 ∧ ∀ ms : List Int, ms.Perm ns → ms.Pairwise (· ≤ ·) → mkL fz (ms.map D.int) h R := rfl
theorem wBImin2 : wBI .min2 [.int i, .int j] h R = R (.int (if j < i then j else i)) h := propext ⟨fun ⟨_, _, e, e2, q⟩ => by cases e; cases e2; exact q, fun q => ⟨i, j, rfl, rfl, q⟩⟩
theorem wBImax2 : wBI .max2 [.int i, .int j] h R = R (.int (if j > i then j else i)) h := propext ⟨fun ⟨_, _, e, e2, q⟩ => by cases e; cases e2; exact q, fun q => ⟨i, j, rfl, rfl, q⟩⟩
theorem wMTappend : wMT .append (.loc p) [x] h R = ∃ xs, h p = some (.lst xs) ∧ xs.length < lim ∧ R .non (hup h p (.lst (xs ++ [x]))) := propext ⟨fun ⟨_, xs, e, q⟩ => by cases e; exact ⟨xs, q⟩, fun ⟨xs, q⟩ => ⟨p, xs, rfl, q⟩⟩
theorem wMTpop : wMT .pop (.loc p) [] h R = ∃ xs x, h p = some (.lst (xs ++ [x])) ∧ R x (hup h p (.lst xs)) := propext ⟨fun ⟨_, xs, z, e, q⟩ => by cases e; exact ⟨xs, z, q⟩, fun ⟨xs, z, q⟩ => ⟨p, xs, z, rfl, q⟩⟩
theorem wMTclear : wMT .clear (.loc p) [] h R = ∃ xs, h p = some (.lst xs) ∧ R .non (hup h p (.lst [])) := propext ⟨fun ⟨_, xs, e, q⟩ => by cases e; exact ⟨xs, q⟩, fun ⟨xs, q⟩ => ⟨p, xs, rfl, q⟩⟩
theorem wMTjoin : wMT .join (.str a) [x] h R = ∃ xs ys, rsv h x = .lst xs ∧ allStr xs = some ys ∧ (ys.map (·.length)).sum + ys.length * a.length ≤ lim ∧ R (.str (TL.joinL a ys)) h := propext ⟨fun ⟨_, xs, ys, e, q⟩ => by cases e; exact ⟨xs, ys, q⟩, fun ⟨xs, ys, q⟩ => ⟨a, xs, ys, rfl, q⟩⟩
theorem wMTsplit : wMT (.split fz) (.str a) [.str b] h R = (b ≠ [] ∧ (∀ c ∈ b, c < 256) ∧ a.length + 2 ≤ lim ∧ mkL fz ((TL.spl b 0 [] a).map D.str) h R) := propext ⟨fun ⟨_, _, e, e2, q⟩ => by cases e; cases e2; exact q, fun q => ⟨a, b, rfl, rfl, q⟩⟩
theorem isRcvA : isRcv .append x h = ∃ xs, rsv h x = .lst xs := rfl
theorem isRcvP : isRcv .pop x h = ∃ xs, rsv h x = .lst xs := rfl
theorem isRcvC : isRcv .clear x h = ∃ xs, rsv h x = .lst xs := rfl
theorem isRcvJ : isRcv .join (.str a) h = True := propext ⟨fun _ => trivial, fun _ => ⟨a, rfl⟩⟩
theorem isRcvSp : isRcv (.split fz) (.str a) h = True := propext ⟨fun _ => trivial, fun _ => ⟨a, rfl⟩⟩
theorem ex_lst {u : List D} {P : List D → Prop} : (∃ xs, D.lst u = .lst xs ∧ P xs) = P u := propext ⟨fun ⟨_, e, q⟩ => by cases e; exact q, fun q => ⟨u, rfl, q⟩⟩
theorem ex_lst0 {u : List D} : (∃ xs, D.lst u = .lst xs) = True := propext ⟨fun _ => trivial, fun _ => ⟨u, rfl⟩⟩
end
end
end VS

set_option Elab.async false
set_option linter.all false
set_option maxRecDepth 100000
set_option maxHeartbeats 4000000
/-! VS15: the laws' draws. -/
namespace VS
open PySem PySem.Spec PyProof.Rows L2
theorem lim_is : lim = 16777216 := rfl
theorem log2_below {n k : Nat} (h : n < 2 ^ k) (hk : 0 < k) : n.log2 < k := by
  by_cases h0 : n = 0
  · subst h0; simpa using hk
  · exact (Nat.log2_lt h0).mpr h
theorem mulOk_of {i j : Int} {a b : Nat} (h1 : i.natAbs < 2 ^ a) (h2 : j.natAbs < 2 ^ b) (ha : 0 < a) (hb : 0 < b) (hab : a + b < 1000000) : mulOk i j := by
  have := log2_below h1 ha
  have := log2_below h2 hb
  unfold mulOk; omega
theorem divOk_of {j : Int} {a : Nat} (h0 : 0 < j) (h1 : j.natAbs < 2 ^ a) (ha : 0 < a) (hab : a < 9000) : divOk j := ⟨h0, Nat.lt_trans (log2_below h1 ha) hab⟩
theorem mulOk_small {i j : Int} (h1 : i.natAbs < 18446744073709551616) (h2 : j.natAbs < 18446744073709551616) : mulOk i j := mulOk_of (a := 64) (b := 64) h1 h2 (by omega) (by omega) (by omega)
theorem powOk_small {i j : Int} (h0 : 0 ≤ j) (h1 : j ≤ 1000000) (h2 : i.natAbs < 18446744073709551616) : powOk i j := ⟨h0, h1, h2⟩
theorem rngL_length {a b : Int} : (rngL a b).length = (b - a).toNat := by simp [rngL]
/-- the drawing state -/
def stD (c x : Int) (b : Bool) : Cell := .lst [.int c, .int x, .bl b]
def XOk (x : Int) : Prop := 0 ≤ x ∧ x < 2147483647
def begun0 : Ss := .cons (.asg (.nm 2) (.cst (.int 0))) (.cons (.ife (.cmp .lt (.var 1) (.bi .len (.cons (.var 0) .nil))) (.cons (.asg (.nm 2) (.ix (.var 0) (.var 1))) .nil) .nil) (.cons (.ret (.lst false (.cons (.var 2) (.cons (.bop true .mod (.bop true .add (.bop true .add (.bop true .mod (.var 2) (.cst (.int 2147483587))) (.bop true .mul (.bop true .mul (.cst (.int 48271)) (.var 1)) (.var 1))) (.cst (.int 13))) (.cst (.int 2147483587))) (.cons (.cmp .ge (.var 2) (.bop true .pow (.cst (.int 10)) (.cst (.int 18)))) .nil))))) .nil))
def sp_begun : VSp := fun ds h Q _ => ∃ (ns : List Int) (k : Nat), ns.length ≤ lim ∧ k ≤ 1000 ∧ ds = [.scr ns, .int (k : Nat)] ∧ ∀ a c x b, h a = none → XOk x → Q (.loc a) (hup h a (stD c x b))
theorem l_begun (T : Tab) : ∀ ds h Q X, sp_begun ds h Q X → ds.length = 2 ∧ wSs T begun0 (ds.map some ++ List.replicate (3 - ds.length) none) h ⟨fun _ h1 => Q .non h1, Q, fun c fs _ h1 => X c fs h1⟩ := by
  rintro ds h Q X ⟨ns, k, hl, hk, rfl, q⟩
  refine ⟨rfl, ?_⟩
  show wSs T begun0 [some (.scr ns), some (.int k), none] h _
  have hm1 : mulOk 48271 k := mulOk_small (by omega) (by omega)
  have hm2 : mulOk (48271 * k) k := mulOk_small (by omega) (by omega)
  have hp : powOk 10 18 := powOk_small (by omega) (by omega) (by omega)
  have fin : ∀ c : Int, (10 : Int) ^ Int.toNat 18 = 10 ^ Int.toNat 18 → ∀ a, h a = none → Q (.loc a) (hup h a (.lst [.int c, .int ((c % 2147483587 + 48271 * k * k + 13) % 2147483587), .bl (decide (10 ^ Int.toNat 18 ≤ c))])) := by
    intro c _ a ha
    exact q a c _ _ ha ⟨Int.emod_nonneg _ (by omega), Int.lt_trans (Int.emod_lt_of_pos _ (by omega)) (by omega)⟩
  unfold begun0
  try simp only [wSs_nil, wSs_cons, wAnd_one, wAnd_cons, wOr_one, wOr_cons, Tgs.len, eq_self, if_true, if_false, rsvN, rsvB, rsvI, rsvS, rsvT, rsvLs, rsvSc, rsvE, rsvH, isNonN, isNonB, isNonI, isNonS, isNonT, isNonL, isNonO, lenS, lenL, lenT, lenSc, seqL, seqT, kdN, kdB, kdI, kdS, kdT, kdL, Kd.isOf, br_t, br_f, itOk, VS.cellOf, wipeE, List.map_cons, List.map_nil, List.replicate_zero, List.replicate_succ, List.cons_append, List.nil_append, Nat.sub_self, Nat.reduceSub, Nat.reduceAdd, List.getElem?_cons_zero, List.getElem?_cons_succ, List.set_cons_zero, List.set_cons_succ, List.length_cons, List.length_nil, Option.some.injEq, exists_eq_left', exists_eq_left, D.int.injEq, D.bl.injEq, D.str.injEq, D.tup.injEq, D.lst.injEq, D.loc.injEq, List.cons.injEq, and_true, true_and, hup_same, ↓reduceIte, Nat.reduceLT, Nat.reduceEqDiff, reduceCtorEq, hup_hup, exists_and_left, Cell.lst.injEq, Nat.reduceLeDiff, Nat.zero_add, Bool.false_eq_true, ixN_ofNat, atI_ofNat, plnN, plnB, plnI, plnS, plnT, plnL, plns0, plnsC, depN, depB, depI, depS, depT, depL, deps0, depsC, eqbI, eqbS, eqbT, eqbL, eqbB, eqbs0, eqbsC, Nat.zero_le, br_not, Nat.max_zero, Nat.zero_max, Nat.max_self, Bool.and_true, Bool.true_and, Bool.not_true, Bool.not_false, beq_self_eq_true, wEq, wInL, wE_var, wE_cst, wE_glob, wE_bop, wE_neg, wE_not, wE_cmp, wE_chn, wE_andv, wE_orv, wE_ite, wE_tup, wE_lst, wE_ix, wE_slc, wE_rev, wE_call, wE_bi, wE_lrng1, wE_lrng2, wE_isi, wE_isx, wE_fld, wE_mt, wE_comp, wE_frz, wE_dnew, wEs_nil, wEs_cons, wO_none, wO_some, wC_val, wC_cmp, wC_chn, wC_not, wC_and, wC_or, wAndC_nil, wAndC_cons, wOrC_nil, wOrC_cons, wI_seq, wI_sgn, wI_rng1, wI_rng2, wI_enm, wI_zip2, wI_zip3, wS_asg, wS_par, wS_asgIx, wS_aug, wS_ex, wS_ret, wS_ret0, wS_ife, wS_whl, wS_fr, wS_rs, wS_never, wAdd_d, wMul_d, addKI, addKS, addKL, addKT, mulKI, mulKL, wSubI, wFdivI, wModI, wPowI, mkLt, mkLf, asgT_nm, asgT_tp, asgTs_nil, asgTs_cons, put_fn, put_glob, put_kc, frzKL, wCeq, wCne, wClt, wCle, wCleS, wCgt, wCge, wCis, wCisn, wCin, wCnin, wIn_d, inKS, inKL, inKTI, inKTS, inKD, wIx_d, ixKL, ixKT, ixKSc, ixKS, ixKD, wSlc_d, slcKL, slcKT, slcKS, wSet_h, wBIlen, wBIabs, wBIintI, wBIintB, wBIintS, wBIstrI, wBIstrS, wBIlist, wBItuple, wBIall, wBIany, wBImax1, wBImin1, wBIsum, wBIsorted, wBImin2, wBImax2, wMTappend, wMTpop, wMTclear, wMTjoin, wMTsplit, isRcvA, isRcvP, isRcvC, isRcvJ, isRcvSp, ex_lst, ex_lst0]
  refine ⟨hl, br_dec (fun hlt => ?_) fun hge => ?_⟩
  · refine ⟨ns[k]'(by omega), atI_nat rfl (by omega), ?_⟩
    refine ⟨by decide, hm1, hm2, by decide, hp, by decide, fun a ha => ⟨_, hsub_refl _, fin _ rfl a ha⟩⟩
  · refine ⟨by decide, hm1, hm2, by decide, hp, by decide, fun a ha => ⟨_, hsub_refl _, fin 0 rfl a ha⟩⟩
def take_loop : Ss := .cons (.asgIx (.var 0) (.cst (.int 1)) (.bop true .mod (.bop true .add (.bop true .mul (.ix (.var 0) (.cst (.int 1))) (.cst (.int 39373))) (.cst (.int 17))) (.cst (.int 2147483647)))) (.cons (.asg (.nm 2) (.bop true .add (.bop true .mul (.var 2) (.cst (.int 2147483629))) (.bop true .mod (.bop true .mul (.ix (.var 0) (.cst (.int 1))) (.ix (.var 0) (.cst (.int 1)))) (.cst (.int 2147483629))))) .nil)
def take3 : Ss := .cons (.ret (.bop true .mod (.bop true .fdiv (.var 2) (.cst (.int 64))) (.var 1))) .nil
def take2 : Ss := .cons (.fr (.nm 3) (.rng1 (.bop true .add (.cst (.int 1)) (.bop true .mul (.cst (.int 8)) (.bi .int (.cons (.cmp .gt (.var 1) (.bop true .pow (.cst (.int 10)) (.cst (.int 6)))) .nil))))) take_loop) take3
def take0 : Ss := .cons (.ife (.val (.ix (.var 0) (.cst (.int 2)))) (.cons (.asg (.nm 4) (.bop true .mod (.ix (.var 0) (.cst (.int 0))) (.var 1))) (.cons (.asgIx (.var 0) (.cst (.int 0)) (.bop true .fdiv (.ix (.var 0) (.cst (.int 0))) (.var 1))) (.cons (.asgIx (.var 0) (.cst (.int 2)) (.cmp .gt (.ix (.var 0) (.cst (.int 0))) (.cst (.int 0)))) (.cons (.ret (.var 4)) .nil)))) .nil) (.cons (.asg (.nm 2) (.cst (.int 0))) take2)
def sp_take : VSp := fun ds h Q _ => ∃ (a : Addr) (m c x : Int) (b : Bool), divOk m ∧ h a = some (stD c x b) ∧ XOk x ∧ ds = [.loc a, .int m] ∧ ∀ d c' x' b', 0 ≤ d → d < m → XOk x' → Q (.int d) (hup h a (stD c' x' b'))
theorem l_take (T : Tab) : ∀ ds h Q X, sp_take ds h Q X → ds.length = 2 ∧ wSs T take0 (ds.map some ++ List.replicate (5 - ds.length) none) h ⟨fun _ h1 => Q .non h1, Q, fun c fs _ h1 => X c fs h1⟩ := by
  rintro ds h Q X ⟨a, m, c, x, b, hm, e, hx, rfl, q⟩
  refine ⟨rfl, ?_⟩
  show wSs T take0 [some (.loc a), some (.int m), none, none, none] h _
  have e : h a = some (.lst [.int c, .int x, .bl b]) := e
  unfold take0
  try simp only [wSs_nil, wSs_cons, wAnd_one, wAnd_cons, wOr_one, wOr_cons, Tgs.len, eq_self, if_true, if_false, rsvN, rsvB, rsvI, rsvS, rsvT, rsvLs, rsvSc, rsvE, rsvH, isNonN, isNonB, isNonI, isNonS, isNonT, isNonL, isNonO, lenS, lenL, lenT, lenSc, seqL, seqT, kdN, kdB, kdI, kdS, kdT, kdL, Kd.isOf, br_t, br_f, itOk, VS.cellOf, wipeE, List.map_cons, List.map_nil, List.replicate_zero, List.replicate_succ, List.cons_append, List.nil_append, Nat.sub_self, Nat.reduceSub, Nat.reduceAdd, List.getElem?_cons_zero, List.getElem?_cons_succ, List.set_cons_zero, List.set_cons_succ, List.length_cons, List.length_nil, Option.some.injEq, exists_eq_left', exists_eq_left, D.int.injEq, D.bl.injEq, D.str.injEq, D.tup.injEq, D.lst.injEq, D.loc.injEq, List.cons.injEq, and_true, true_and, hup_same, ↓reduceIte, Nat.reduceLT, Nat.reduceEqDiff, reduceCtorEq, hup_hup, exists_and_left, Cell.lst.injEq, Nat.reduceLeDiff, Nat.zero_add, Bool.false_eq_true, ixN_ofNat, atI_ofNat, plnN, plnB, plnI, plnS, plnT, plnL, plns0, plnsC, depN, depB, depI, depS, depT, depL, deps0, depsC, eqbI, eqbS, eqbT, eqbL, eqbB, eqbs0, eqbsC, Nat.zero_le, br_not, Nat.max_zero, Nat.zero_max, Nat.max_self, Bool.and_true, Bool.true_and, Bool.not_true, Bool.not_false, beq_self_eq_true, wEq, wInL, wE_var, wE_cst, wE_glob, wE_bop, wE_neg, wE_not, wE_cmp, wE_chn, wE_andv, wE_orv, wE_ite, wE_tup, wE_lst, wE_ix, wE_slc, wE_rev, wE_call, wE_bi, wE_lrng1, wE_lrng2, wE_isi, wE_isx, wE_fld, wE_mt, wE_comp, wE_frz, wE_dnew, wEs_nil, wEs_cons, wO_none, wO_some, wC_val, wC_cmp, wC_chn, wC_not, wC_and, wC_or, wAndC_nil, wAndC_cons, wOrC_nil, wOrC_cons, wI_seq, wI_sgn, wI_rng1, wI_rng2, wI_enm, wI_zip2, wI_zip3, wS_asg, wS_par, wS_asgIx, wS_aug, wS_ex, wS_ret, wS_ret0, wS_ife, wS_whl, wS_fr, wS_rs, wS_never, wAdd_d, wMul_d, addKI, addKS, addKL, addKT, mulKI, mulKL, wSubI, wFdivI, wModI, wPowI, mkLt, mkLf, asgT_nm, asgT_tp, asgTs_nil, asgTs_cons, put_fn, put_glob, put_kc, frzKL, wCeq, wCne, wClt, wCle, wCleS, wCgt, wCge, wCis, wCisn, wCin, wCnin, wIn_d, inKS, inKL, inKTI, inKTS, inKD, wIx_d, ixKL, ixKT, ixKSc, ixKS, ixKD, wSlc_d, slcKL, slcKT, slcKS, wSet_h, wBIlen, wBIabs, wBIintI, wBIintB, wBIintS, wBIstrI, wBIstrS, wBIlist, wBItuple, wBIall, wBIany, wBImax1, wBImin1, wBIsum, wBIsorted, wBImin2, wBImax2, wMTappend, wMTpop, wMTclear, wMTjoin, wMTsplit, isRcvA, isRcvP, isRcvC, isRcvJ, isRcvSp, ex_lst, ex_lst0, e, rsvL e, wSet_l e]
  refine br_of (fun hb => ⟨hm.1, hm, h |> fun h => _, hsub_refl _, ?_⟩) fun hb => ?_
  · exact q _ _ _ _ (Int.emod_nonneg _ (by have := hm.1; omega)) (Int.emod_lt_of_pos _ hm.1) hx
  · have hp : powOk 10 6 := powOk_small (by omega) (by omega) (by omega)
    unfold take2
    try simp only [wSs_nil, wSs_cons, wAnd_one, wAnd_cons, wOr_one, wOr_cons, Tgs.len, eq_self, if_true, if_false, rsvN, rsvB, rsvI, rsvS, rsvT, rsvLs, rsvSc, rsvE, rsvH, isNonN, isNonB, isNonI, isNonS, isNonT, isNonL, isNonO, lenS, lenL, lenT, lenSc, seqL, seqT, kdN, kdB, kdI, kdS, kdT, kdL, Kd.isOf, br_t, br_f, itOk, VS.cellOf, wipeE, List.map_cons, List.map_nil, List.replicate_zero, List.replicate_succ, List.cons_append, List.nil_append, Nat.sub_self, Nat.reduceSub, Nat.reduceAdd, List.getElem?_cons_zero, List.getElem?_cons_succ, List.set_cons_zero, List.set_cons_succ, List.length_cons, List.length_nil, Option.some.injEq, exists_eq_left', exists_eq_left, D.int.injEq, D.bl.injEq, D.str.injEq, D.tup.injEq, D.lst.injEq, D.loc.injEq, List.cons.injEq, and_true, true_and, hup_same, ↓reduceIte, Nat.reduceLT, Nat.reduceEqDiff, reduceCtorEq, hup_hup, exists_and_left, Cell.lst.injEq, Nat.reduceLeDiff, Nat.zero_add, Bool.false_eq_true, ixN_ofNat, atI_ofNat, plnN, plnB, plnI, plnS, plnT, plnL, plns0, plnsC, depN, depB, depI, depS, depT, depL, deps0, depsC, eqbI, eqbS, eqbT, eqbL, eqbB, eqbs0, eqbsC, Nat.zero_le, br_not, Nat.max_zero, Nat.zero_max, Nat.max_self, Bool.and_true, Bool.true_and, Bool.not_true, Bool.not_false, beq_self_eq_true, wEq, wInL, wE_var, wE_cst, wE_glob, wE_bop, wE_neg, wE_not, wE_cmp, wE_chn, wE_andv, wE_orv, wE_ite, wE_tup, wE_lst, wE_ix, wE_slc, wE_rev, wE_call, wE_bi, wE_lrng1, wE_lrng2, wE_isi, wE_isx, wE_fld, wE_mt, wE_comp, wE_frz, wE_dnew, wEs_nil, wEs_cons, wO_none, wO_some, wC_val, wC_cmp, wC_chn, wC_not, wC_and, wC_or, wAndC_nil, wAndC_cons, wOrC_nil, wOrC_cons, wI_seq, wI_sgn, wI_rng1, wI_rng2, wI_enm, wI_zip2, wI_zip3, wS_asg, wS_par, wS_asgIx, wS_aug, wS_ex, wS_ret, wS_ret0, wS_ife, wS_whl, wS_fr, wS_rs, wS_never, wAdd_d, wMul_d, addKI, addKS, addKL, addKT, mulKI, mulKL, wSubI, wFdivI, wModI, wPowI, mkLt, mkLf, asgT_nm, asgT_tp, asgTs_nil, asgTs_cons, put_fn, put_glob, put_kc, frzKL, wCeq, wCne, wClt, wCle, wCleS, wCgt, wCge, wCis, wCisn, wCin, wCnin, wIn_d, inKS, inKL, inKTI, inKTS, inKD, wIx_d, ixKL, ixKT, ixKSc, ixKS, ixKD, wSlc_d, slcKL, slcKT, slcKS, wSet_h, wBIlen, wBIabs, wBIintI, wBIintB, wBIintS, wBIstrI, wBIstrS, wBIlist, wBItuple, wBIall, wBIany, wBImax1, wBImin1, wBIsum, wBIsorted, wBImin2, wBImax2, wMTappend, wMTpop, wMTclear, wMTjoin, wMTsplit, isRcvA, isRcvP, isRcvC, isRcvJ, isRcvSp, ex_lst, ex_lst0, e, rsvL e, wSet_l e]
    have key : ∀ xs : List D, xs.length ≤ 9 → wFor (fun _ => True) (asgT (.nm 3)) (wSs T take_loop) xs [some (.loc a), some (.int m), some (.int 0), none, none] h ⟨fun r1 h1 => wSs T take3 r1 h1 ⟨fun x h1 => Q D.non h1, Q, fun c fs x h1 => X c fs h1⟩, Q, fun c fs x h1 => X c fs h1⟩ := by
      intro xs hxs
      refine wFor_ind (fun xs r h' => ∃ (x' dr : Int) (o : Option D) (j : Nat), r = [some (.loc a), some (.int m), some (.int dr), o, none] ∧ h' = hup h a (.lst [.int c, .int x', .bl b]) ∧ XOk x' ∧ 0 ≤ dr ∧ dr < 2 ^ (32 * j) ∧ j + xs.length ≤ 9) ?_ ?_ ⟨x, 0, none, 0, rfl, (hup_self e).symm, hx, by omega, by decide, by omega⟩
      · rintro y ys r h' N ⟨x', dr, o, j, rfl, rfl, hx', h0, hj, hl⟩ hN
        refine ⟨trivial, ?_⟩
        try simp only [wSs_nil, wSs_cons, wAnd_one, wAnd_cons, wOr_one, wOr_cons, Tgs.len, eq_self, if_true, if_false, rsvN, rsvB, rsvI, rsvS, rsvT, rsvLs, rsvSc, rsvE, rsvH, isNonN, isNonB, isNonI, isNonS, isNonT, isNonL, isNonO, lenS, lenL, lenT, lenSc, seqL, seqT, kdN, kdB, kdI, kdS, kdT, kdL, Kd.isOf, br_t, br_f, itOk, VS.cellOf, wipeE, List.map_cons, List.map_nil, List.replicate_zero, List.replicate_succ, List.cons_append, List.nil_append, Nat.sub_self, Nat.reduceSub, Nat.reduceAdd, List.getElem?_cons_zero, List.getElem?_cons_succ, List.set_cons_zero, List.set_cons_succ, List.length_cons, List.length_nil, Option.some.injEq, exists_eq_left', exists_eq_left, D.int.injEq, D.bl.injEq, D.str.injEq, D.tup.injEq, D.lst.injEq, D.loc.injEq, List.cons.injEq, and_true, true_and, hup_same, ↓reduceIte, Nat.reduceLT, Nat.reduceEqDiff, reduceCtorEq, hup_hup, exists_and_left, Cell.lst.injEq, Nat.reduceLeDiff, Nat.zero_add, Bool.false_eq_true, ixN_ofNat, atI_ofNat, plnN, plnB, plnI, plnS, plnT, plnL, plns0, plnsC, depN, depB, depI, depS, depT, depL, deps0, depsC, eqbI, eqbS, eqbT, eqbL, eqbB, eqbs0, eqbsC, Nat.zero_le, br_not, Nat.max_zero, Nat.zero_max, Nat.max_self, Bool.and_true, Bool.true_and, Bool.not_true, Bool.not_false, beq_self_eq_true, wEq, wInL, wE_var, wE_cst, wE_glob, wE_bop, wE_neg, wE_not, wE_cmp, wE_chn, wE_andv, wE_orv, wE_ite, wE_tup, wE_lst, wE_ix, wE_slc, wE_rev, wE_call, wE_bi, wE_lrng1, wE_lrng2, wE_isi, wE_isx, wE_fld, wE_mt, wE_comp, wE_frz, wE_dnew, wEs_nil, wEs_cons, wO_none, wO_some, wC_val, wC_cmp, wC_chn, wC_not, wC_and, wC_or, wAndC_nil, wAndC_cons, wOrC_nil, wOrC_cons, wI_seq, wI_sgn, wI_rng1, wI_rng2, wI_enm, wI_zip2, wI_zip3, wS_asg, wS_par, wS_asgIx, wS_aug, wS_ex, wS_ret, wS_ret0, wS_ife, wS_whl, wS_fr, wS_rs, wS_never, wAdd_d, wMul_d, addKI, addKS, addKL, addKT, mulKI, mulKL, wSubI, wFdivI, wModI, wPowI, mkLt, mkLf, asgT_nm, asgT_tp, asgTs_nil, asgTs_cons, put_fn, put_glob, put_kc, frzKL, wCeq, wCne, wClt, wCle, wCleS, wCgt, wCge, wCis, wCisn, wCin, wCnin, wIn_d, inKS, inKL, inKTI, inKTS, inKD, wIx_d, ixKL, ixKT, ixKSc, ixKS, ixKD, wSlc_d, slcKL, slcKT, slcKS, wSet_h, wBIlen, wBIabs, wBIintI, wBIintB, wBIintS, wBIstrI, wBIstrS, wBIlist, wBItuple, wBIall, wBIany, wBImax1, wBImin1, wBIsum, wBIsorted, wBImin2, wBImax2, wMTappend, wMTpop, wMTclear, wMTjoin, wMTsplit, isRcvA, isRcvP, isRcvC, isRcvJ, isRcvSp, ex_lst, ex_lst0, take_loop, wSet_h]
        have h1 : mulOk x' 39373 := mulOk_small (by have := hx'.1; have := hx'.2; omega) (by omega)
        have hx2 : XOk ((x' * 39373 + 17) % 2147483647) := ⟨Int.emod_nonneg _ (by omega), Int.emod_lt_of_pos _ (by omega)⟩
        have h2 : mulOk ((x' * 39373 + 17) % 2147483647) ((x' * 39373 + 17) % 2147483647) := mulOk_small (by have := hx2.1; have := hx2.2; omega) (by have := hx2.1; have := hx2.2; omega)
        have hl' : j + (ys.length + 1) ≤ 9 := hl
        have hdr : dr.natAbs < 2 ^ (32 * j) := by
          have : ((2 ^ (32 * j) : Nat) : Int) = 2 ^ (32 * j) := by simp
          omega
        have h3 : mulOk dr 2147483629 := mulOk_of (a := 32 * j + 1) (b := 32) (by rw [Nat.pow_succ]; omega) (by decide) (by omega) (by omega) (by omega)
        refine ⟨h1, by decide, h3, h2, by decide, ?_⟩
        refine hN _ _ ⟨_, _, _, j + 1, rfl, rfl, hx2, ?_, ?_, by omega⟩
        · have := Int.emod_nonneg ((x' * 39373 + 17) % 2147483647 * ((x' * 39373 + 17) % 2147483647)) (b := 2147483629) (by omega)
          omega
        · have h5 := Int.emod_lt_of_pos ((x' * 39373 + 17) % 2147483647 * ((x' * 39373 + 17) % 2147483647)) (b := 2147483629) (by omega)
          rw [show 32 * (j + 1) = 32 * j + 32 by omega, Int.pow_add]
          generalize (2 : Int) ^ (32 * j) = P at hj ⊢
          have : (2 : Int) ^ 32 = 4294967296 := by decide
          rw [this]
          omega
      · rintro r h' ⟨x', dr, o, j, rfl, rfl, hx', h0, hj, hl⟩
        refine ⟨trivial, ?_⟩
        try simp only [wSs_nil, wSs_cons, wAnd_one, wAnd_cons, wOr_one, wOr_cons, Tgs.len, eq_self, if_true, if_false, rsvN, rsvB, rsvI, rsvS, rsvT, rsvLs, rsvSc, rsvE, rsvH, isNonN, isNonB, isNonI, isNonS, isNonT, isNonL, isNonO, lenS, lenL, lenT, lenSc, seqL, seqT, kdN, kdB, kdI, kdS, kdT, kdL, Kd.isOf, br_t, br_f, itOk, VS.cellOf, wipeE, List.map_cons, List.map_nil, List.replicate_zero, List.replicate_succ, List.cons_append, List.nil_append, Nat.sub_self, Nat.reduceSub, Nat.reduceAdd, List.getElem?_cons_zero, List.getElem?_cons_succ, List.set_cons_zero, List.set_cons_succ, List.length_cons, List.length_nil, Option.some.injEq, exists_eq_left', exists_eq_left, D.int.injEq, D.bl.injEq, D.str.injEq, D.tup.injEq, D.lst.injEq, D.loc.injEq, List.cons.injEq, and_true, true_and, hup_same, ↓reduceIte, Nat.reduceLT, Nat.reduceEqDiff, reduceCtorEq, hup_hup, exists_and_left, Cell.lst.injEq, Nat.reduceLeDiff, Nat.zero_add, Bool.false_eq_true, ixN_ofNat, atI_ofNat, plnN, plnB, plnI, plnS, plnT, plnL, plns0, plnsC, depN, depB, depI, depS, depT, depL, deps0, depsC, eqbI, eqbS, eqbT, eqbL, eqbB, eqbs0, eqbsC, Nat.zero_le, br_not, Nat.max_zero, Nat.zero_max, Nat.max_self, Bool.and_true, Bool.true_and, Bool.not_true, Bool.not_false, beq_self_eq_true, wEq, wInL, wE_var, wE_cst, wE_glob, wE_bop, wE_neg, wE_not, wE_cmp, wE_chn, wE_andv, wE_orv, wE_ite, wE_tup, wE_lst, wE_ix, wE_slc, wE_rev, wE_call, wE_bi, wE_lrng1, wE_lrng2, wE_isi, wE_isx, wE_fld, wE_mt, wE_comp, wE_frz, wE_dnew, wEs_nil, wEs_cons, wO_none, wO_some, wC_val, wC_cmp, wC_chn, wC_not, wC_and, wC_or, wAndC_nil, wAndC_cons, wOrC_nil, wOrC_cons, wI_seq, wI_sgn, wI_rng1, wI_rng2, wI_enm, wI_zip2, wI_zip3, wS_asg, wS_par, wS_asgIx, wS_aug, wS_ex, wS_ret, wS_ret0, wS_ife, wS_whl, wS_fr, wS_rs, wS_never, wAdd_d, wMul_d, addKI, addKS, addKL, addKT, mulKI, mulKL, wSubI, wFdivI, wModI, wPowI, mkLt, mkLf, asgT_nm, asgT_tp, asgTs_nil, asgTs_cons, put_fn, put_glob, put_kc, frzKL, wCeq, wCne, wClt, wCle, wCleS, wCgt, wCge, wCis, wCisn, wCin, wCnin, wIn_d, inKS, inKL, inKTI, inKTS, inKD, wIx_d, ixKL, ixKT, ixKSc, ixKS, ixKD, wSlc_d, slcKL, slcKT, slcKS, wSet_h, wBIlen, wBIabs, wBIintI, wBIintB, wBIintS, wBIstrI, wBIstrS, wBIlist, wBItuple, wBIall, wBIany, wBImax1, wBImin1, wBIsum, wBIsorted, wBImin2, wBImax2, wMTappend, wMTpop, wMTclear, wMTjoin, wMTsplit, isRcvA, isRcvP, isRcvC, isRcvJ, isRcvSp, ex_lst, ex_lst0, take3]
        refine ⟨divOk_of (a := 7) (by omega) (by decide) (by omega) (by omega), hm.1, _, hsub_refl _, ?_⟩
        exact q _ _ _ _ (Int.emod_nonneg _ (by have := hm.1; omega)) (Int.emod_lt_of_pos _ hm.1) hx'
    by_cases hb6 : (10 : Int) ^ Int.toNat 6 < m
    · rw [show decide ((10 : Int) ^ Int.toNat 6 < m) = true from decide_eq_true hb6]
      exact ⟨hp, mulOk_small (by decide) (by decide), by unfold rngOk; decide, key _ (by decide)⟩
    · rw [show decide ((10 : Int) ^ Int.toNat 6 < m) = false from decide_eq_false hb6]
      exact ⟨hp, mulOk_small (by decide) (by decide), by unfold rngOk; decide, key _ (by decide)⟩
end VS

set_option Elab.async false
set_option linter.all false
set_option maxRecDepth 100000
set_option maxHeartbeats 4000000
namespace K78
open PySem PySem.Spec PyProof.Rows L2 VS
def top (i : Nat) : Stmt := PySem.Challenge.pw_ringloads_k78_trees_written.main.body.getD i (.Pass ⟨0, 0, 0, 0⟩)
def I : SI := ⟨["whole_of", "number_below", "shown_tree", "word_at", "stands", "number_at", "tree_at", "read_tree", "_law_begun", "_law_take", "_law_leaf", "_law_tree", "_law_written", "_law_same", "_law_right", "law"], ["FIGURES", "MOST_FIGURES", "MOST", "MOST_TIES", "DEEPEST"]⟩

/-! whole_of: slots 0 word, 1 figures, 2 number, 3 sign -/
def b_whole_of_1a_0 : Ss := .cons (.ret (.cst .non)) .nil
def b_whole_of_3 : Ss := .cons (.ret (.ite (.cmp .eq (.bi .str (.cons (.var 2) .nil)) (.var 0)) (.var 2) (.cst .non))) .nil
def b_whole_of_2 : Ss := .cons (.asg (.nm 2) (.bi .int (.cons (.var 0) .nil))) b_whole_of_3
def b_whole_of_1 : Ss := .cons (.ife (.or (.cons (.not (.chn .le .le (.cst (.int 1)) (.bi .len (.cons (.var 1) .nil)) (.glob 1))) (.cons (.val (.bi .any (.cons (.comp true (.cmp .nin (.var 3) (.glob 0)) (.nm 3) [("sign", 3)] (.sgn (.var 1)) .nil) .nil))) .nil))) b_whole_of_1a_0 .nil) b_whole_of_2
def b_whole_of_0 : Ss := .cons (.asg (.nm 1) (.ite (.cmp .eq (.slc true (.var 0) .none (.some (.cst (.int 1)))) (.cst (.str [45]))) (.slc true (.var 0) (.some (.cst (.int 1))) .none) (.var 0))) b_whole_of_1
def d_whole_of : Df := ⟨"whole_of", L2.defArgs (top 6), L2.defBody (top 6), L2.defScope (top 6), ["word"], ["word", "figures", "number", "sign"], b_whole_of_0⟩
theorem d_whole_of_ok : d_whole_of.okB I = true := by decide +kernel
theorem d_whole_of_bind : d_whole_of.bind := fun _ _ _ _ _ _ us hl => match us, hl with | [_], _ => rfl

/-! number_below: slots 0 word, 1 many, 2 number -/
def b_number_below_1 : Ss := .cons (.ret (.ite (.and (.cons (.cmp .isnN (.var 2) (.cst .non)) (.cons (.chn .le .lt (.cst (.int 0)) (.var 2) (.var 1)) .nil))) (.var 2) (.cst .non))) .nil
def b_number_below_0 : Ss := .cons (.asg (.nm 2) (.call 0 (.cons (.var 0) .nil))) b_number_below_1
def d_number_below : Df := ⟨"number_below", L2.defArgs (top 11), L2.defBody (top 11), L2.defScope (top 11), ["word", "many"], ["word", "many", "number"], b_number_below_0⟩
theorem d_number_below_ok : d_number_below.okB I = true := by decide +kernel
theorem d_number_below_bind : d_number_below.bind := fun _ _ _ _ _ _ us hl => match us, hl with | [_, _], _ => rfl

/-! shown_tree: slots 0 tree, 1 part -/
def b_shown_tree_0a_0 : Ss := .cons (.ret (.bop true .add (.bop true .add (.bop true .add (.bop true .add (.bop true .add (.bop true .add (.cst (.str [115, 112, 108, 105, 116, 32])) (.bi .str (.cons (.ix (.var 0) (.cst (.int 1))) .nil))) (.cst (.str [32, 91]))) (.call 2 (.cons (.ix (.var 0) (.cst (.int 2))) .nil))) (.cst (.str [32, 124, 32]))) (.call 2 (.cons (.ix (.var 0) (.cst (.int 3))) .nil))) (.cst (.str [93])))) .nil
def b_shown_tree_1 : Ss := .cons (.ret (.mt .join (.cst (.str [32])) (.cons (.comp true (.bi .str (.cons (.var 1) .nil)) (.nm 1) [("part", 1)] (.seq (.var 0)) .nil) .nil))) .nil
def b_shown_tree_0 : Ss := .cons (.ife (.cmp .eq (.ix (.var 0) (.cst (.int 0))) (.cst (.str [115, 112, 108, 105, 116]))) b_shown_tree_0a_0 .nil) b_shown_tree_1
def d_shown_tree : Df := ⟨"shown_tree", L2.defArgs (top 12), L2.defBody (top 12), L2.defScope (top 12), ["tree"], ["tree", "part"], b_shown_tree_0⟩
theorem d_shown_tree_ok : d_shown_tree.okB I = true := by decide +kernel
theorem d_shown_tree_bind : d_shown_tree.bind := fun _ _ _ _ _ _ us hl => match us, hl with | [_], _ => rfl

/-! word_at: slots 0 text, 1 at, 2 behind -/
def b_word_at_1a_0 : Ss := .cons (.aug 2 (.cst (.int 1))) .nil
def b_word_at_2 : Ss := .cons (.ret (.slc true (.var 0) (.some (.var 1)) (.some (.var 2)))) .nil
def b_word_at_1 : Ss := .cons (.whl (.and (.cons (.cmp .lt (.var 2) (.bi .len (.cons (.var 0) .nil))) (.cons (.cmp .nin (.ix (.var 0) (.var 2)) (.cst (.str [32, 93]))) .nil))) b_word_at_1a_0) b_word_at_2
def b_word_at_0 : Ss := .cons (.asg (.nm 2) (.var 1)) b_word_at_1
def d_word_at : Df := ⟨"word_at", L2.defArgs (top 13), L2.defBody (top 13), L2.defScope (top 13), ["text", "at"], ["text", "at", "behind"], b_word_at_0⟩
theorem d_word_at_ok : d_word_at.okB I = true := by decide +kernel
theorem d_word_at_bind : d_word_at.bind := fun _ _ _ _ _ _ us hl => match us, hl with | [_, _], _ => rfl

/-! stands: slots 0 text, 1 at, 2 word -/
def b_stands_0a_0 : Ss := .cons .never .nil
def b_stands_1 : Ss := .cons (.ret (.bop true .add (.var 1) (.bi .len (.cons (.var 2) .nil)))) .nil
def b_stands_0 : Ss := .cons (.ife (.cmp .ne (.slc true (.var 0) (.some (.var 1)) (.some (.bop true .add (.var 1) (.bi .len (.cons (.var 2) .nil))))) (.var 2)) b_stands_0a_0 .nil) b_stands_1
def d_stands : Df := ⟨"stands", L2.defArgs (top 14), L2.defBody (top 14), L2.defScope (top 14), ["text", "at", "word"], ["text", "at", "word"], b_stands_0⟩
theorem d_stands_ok : d_stands.okB I = true := by decide +kernel
theorem d_stands_bind : d_stands.bind := fun _ _ _ _ _ _ us hl => match us, hl with | [_, _, _], _ => rfl

/-! number_at: slots 0 text, 1 at, 2 many, 3 word, 4 number -/
def b_number_at_2a_0 : Ss := .cons .never .nil
def b_number_at_3 : Ss := .cons (.ret (.tup (.cons (.var 4) (.cons (.bop true .add (.var 1) (.bi .len (.cons (.var 3) .nil))) .nil)))) .nil
def b_number_at_2 : Ss := .cons (.ife (.cmp .isN (.var 4) (.cst .non)) b_number_at_2a_0 .nil) b_number_at_3
def b_number_at_1 : Ss := .cons (.asg (.nm 4) (.call 1 (.cons (.var 3) (.cons (.var 2) .nil)))) b_number_at_2
def b_number_at_0 : Ss := .cons (.asg (.nm 3) (.call 3 (.cons (.var 0) (.cons (.var 1) .nil)))) b_number_at_1
def d_number_at : Df := ⟨"number_at", L2.defArgs (top 15), L2.defBody (top 15), L2.defScope (top 15), ["text", "at", "many"], ["text", "at", "many", "word", "number"], b_number_at_0⟩
theorem d_number_at_ok : d_number_at.okB I = true := by decide +kernel
theorem d_number_at_bind : d_number_at.bind := fun _ _ _ _ _ _ us hl => match us, hl with | [_, _, _], _ => rfl

/-! tree_at: slots 0 text, 1 at, 2 deep, 3 word, 4 ask, 5 on, 6 back, 7 one, 8 other -/
def b_tree_at_1a_0 : Ss := .cons (.ret (.tup (.cons (.tup (.cons (.cst (.str [116, 117, 114, 110, 101, 100])) .nil)) (.cons (.bop true .add (.var 1) (.bi .len (.cons (.var 3) .nil))) .nil)))) .nil
def b_tree_at_2a_2 : Ss := .cons (.ret (.tup (.cons (.tup (.cons (.cst (.str [99, 117, 116])) (.cons (.var 7) (.cons (.var 8) .nil)))) (.cons (.var 1) .nil)))) .nil
def b_tree_at_2a_1 : Ss := .cons (.asg (.tp (.cons (.nm 8) (.cons (.nm 1) .nil))) (.call 5 (.cons (.var 0) (.cons (.call 4 (.cons (.var 0) (.cons (.var 1) (.cons (.cst (.str [32])) .nil)))) (.cons (.glob 3) .nil))))) b_tree_at_2a_2
def b_tree_at_2a_0 : Ss := .cons (.asg (.tp (.cons (.nm 7) (.cons (.nm 1) .nil))) (.call 5 (.cons (.var 0) (.cons (.call 4 (.cons (.var 0) (.cons (.var 1) (.cons (.cst (.str [99, 117, 116, 32])) .nil)))) (.cons (.glob 3) .nil))))) b_tree_at_2a_1
def b_tree_at_3a_0 : Ss := .cons .never .nil
def b_tree_at_7 : Ss := .cons (.ret (.tup (.cons (.tup (.cons (.cst (.str [115, 112, 108, 105, 116])) (.cons (.var 4) (.cons (.var 5) (.cons (.var 6) .nil))))) (.cons (.call 4 (.cons (.var 0) (.cons (.var 1) (.cons (.cst (.str [93])) .nil)))) .nil)))) .nil
def b_tree_at_6 : Ss := .cons (.asg (.tp (.cons (.nm 6) (.cons (.nm 1) .nil))) (.call 6 (.cons (.var 0) (.cons (.call 4 (.cons (.var 0) (.cons (.var 1) (.cons (.cst (.str [32, 124, 32])) .nil)))) (.cons (.bop true .add (.var 2) (.cst (.int 1))) .nil))))) b_tree_at_7
def b_tree_at_5 : Ss := .cons (.asg (.tp (.cons (.nm 5) (.cons (.nm 1) .nil))) (.call 6 (.cons (.var 0) (.cons (.call 4 (.cons (.var 0) (.cons (.var 1) (.cons (.cst (.str [32, 91])) .nil)))) (.cons (.bop true .add (.var 2) (.cst (.int 1))) .nil))))) b_tree_at_6
def b_tree_at_4 : Ss := .cons (.asg (.tp (.cons (.nm 4) (.cons (.nm 1) .nil))) (.call 5 (.cons (.var 0) (.cons (.call 4 (.cons (.var 0) (.cons (.var 1) (.cons (.cst (.str [115, 112, 108, 105, 116, 32])) .nil)))) (.cons (.glob 2) .nil))))) b_tree_at_5
def b_tree_at_3 : Ss := .cons (.ife (.cmp .ge (.var 2) (.glob 4)) b_tree_at_3a_0 .nil) b_tree_at_4
def b_tree_at_2 : Ss := .cons (.ife (.cmp .eq (.var 3) (.cst (.str [99, 117, 116]))) b_tree_at_2a_0 .nil) b_tree_at_3
def b_tree_at_1 : Ss := .cons (.ife (.cmp .eq (.var 3) (.cst (.str [116, 117, 114, 110, 101, 100]))) b_tree_at_1a_0 .nil) b_tree_at_2
def b_tree_at_0 : Ss := .cons (.asg (.nm 3) (.call 3 (.cons (.var 0) (.cons (.var 1) .nil)))) b_tree_at_1
def d_tree_at : Df := ⟨"tree_at", L2.defArgs (top 16), L2.defBody (top 16), L2.defScope (top 16), ["text", "at", "deep"], ["text", "at", "deep", "word", "ask", "on", "back", "one", "other"], b_tree_at_0⟩
theorem d_tree_at_ok : d_tree_at.okB I = true := by decide +kernel
theorem d_tree_at_bind : d_tree_at.bind := fun _ _ _ _ _ _ us hl => match us, hl with | [_, _, _], _ => rfl

/-! read_tree: slots 0 text, 1 tree, 2 behind -/
def b_read_tree_0a_0 : Ss := .cons .never .nil
def b_read_tree_2a_0 : Ss := .cons .never .nil
def b_read_tree_3 : Ss := .cons (.ret (.var 1)) .nil
def b_read_tree_2 : Ss := .cons (.ife (.cmp .ne (.var 2) (.bi .len (.cons (.var 0) .nil))) b_read_tree_2a_0 .nil) b_read_tree_3
def b_read_tree_1 : Ss := .cons (.asg (.tp (.cons (.nm 1) (.cons (.nm 2) .nil))) (.call 6 (.cons (.var 0) (.cons (.cst (.int 0)) (.cons (.cst (.int 0)) .nil))))) b_read_tree_2
def b_read_tree_0 : Ss := .cons (.ife (.not (.val (.isi (.var 0) [.str]))) b_read_tree_0a_0 .nil) b_read_tree_1
def d_read_tree : Df := ⟨"read_tree", L2.defArgs (top 17), L2.defBody (top 17), L2.defScope (top 17), ["text"], ["text", "tree", "behind"], b_read_tree_0⟩
theorem d_read_tree_ok : d_read_tree.okB I = true := by decide +kernel
theorem d_read_tree_bind : d_read_tree.bind := fun _ _ _ _ _ _ us hl => match us, hl with | [_], _ => rfl

/-! _law_begun: slots 0 _law_script, 1 _law_k, 2 _law_cell -/
def b_law_begun_1a_0 : Ss := .cons (.asg (.nm 2) (.ix (.var 0) (.var 1))) .nil
def b_law_begun_2 : Ss := .cons (.ret (.lst false (.cons (.var 2) (.cons (.bop true .mod (.bop true .add (.bop true .add (.bop true .mod (.var 2) (.cst (.int 2147483587))) (.bop true .mul (.bop true .mul (.cst (.int 48271)) (.var 1)) (.var 1))) (.cst (.int 13))) (.cst (.int 2147483587))) (.cons (.cmp .ge (.var 2) (.bop true .pow (.cst (.int 10)) (.cst (.int 18)))) .nil))))) .nil
def b_law_begun_1 : Ss := .cons (.ife (.cmp .lt (.var 1) (.bi .len (.cons (.var 0) .nil))) b_law_begun_1a_0 .nil) b_law_begun_2
def b_law_begun_0 : Ss := .cons (.asg (.nm 2) (.cst (.int 0))) b_law_begun_1
def d_law_begun : Df := ⟨"_law_begun", L2.defArgs (top 19), L2.defBody (top 19), L2.defScope (top 19), ["_law_script", "_law_k"], ["_law_script", "_law_k", "_law_cell"], b_law_begun_0⟩
theorem d_law_begun_ok : d_law_begun.okB I = true := by decide +kernel
theorem d_law_begun_bind : d_law_begun.bind := fun _ _ _ _ _ _ us hl => match us, hl with | [_, _], _ => rfl

/-! _law_take: slots 0 _law_state, 1 _law_many, 2 _law_drawn, 3 _law_turn, 4 _law_digit -/
def b_law_take_0a_3 : Ss := .cons (.ret (.var 4)) .nil
def b_law_take_0a_2 : Ss := .cons (.asgIx (.var 0) (.cst (.int 2)) (.cmp .gt (.ix (.var 0) (.cst (.int 0))) (.cst (.int 0)))) b_law_take_0a_3
def b_law_take_0a_1 : Ss := .cons (.asgIx (.var 0) (.cst (.int 0)) (.bop true .fdiv (.ix (.var 0) (.cst (.int 0))) (.var 1))) b_law_take_0a_2
def b_law_take_0a_0 : Ss := .cons (.asg (.nm 4) (.bop true .mod (.ix (.var 0) (.cst (.int 0))) (.var 1))) b_law_take_0a_1
def b_law_take_2a_1 : Ss := .cons (.asg (.nm 2) (.bop true .add (.bop true .mul (.var 2) (.cst (.int 2147483629))) (.bop true .mod (.bop true .mul (.ix (.var 0) (.cst (.int 1))) (.ix (.var 0) (.cst (.int 1)))) (.cst (.int 2147483629))))) .nil
def b_law_take_2a_0 : Ss := .cons (.asgIx (.var 0) (.cst (.int 1)) (.bop true .mod (.bop true .add (.bop true .mul (.ix (.var 0) (.cst (.int 1))) (.cst (.int 39373))) (.cst (.int 17))) (.cst (.int 2147483647)))) b_law_take_2a_1
def b_law_take_3 : Ss := .cons (.ret (.bop true .mod (.bop true .fdiv (.var 2) (.cst (.int 64))) (.var 1))) .nil
def b_law_take_2 : Ss := .cons (.fr (.nm 3) (.rng1 (.bop true .add (.cst (.int 1)) (.bop true .mul (.cst (.int 8)) (.bi .int (.cons (.cmp .gt (.var 1) (.bop true .pow (.cst (.int 10)) (.cst (.int 6)))) .nil))))) b_law_take_2a_0) b_law_take_3
def b_law_take_1 : Ss := .cons (.asg (.nm 2) (.cst (.int 0))) b_law_take_2
def b_law_take_0 : Ss := .cons (.ife (.val (.ix (.var 0) (.cst (.int 2)))) b_law_take_0a_0 .nil) b_law_take_1
def d_law_take : Df := ⟨"_law_take", L2.defArgs (top 20), L2.defBody (top 20), L2.defScope (top 20), ["_law_state", "_law_many"], ["_law_state", "_law_many", "_law_drawn", "_law_turn", "_law_digit"], b_law_take_0⟩
theorem d_law_take_ok : d_law_take.okB I = true := by decide +kernel
theorem d_law_take_bind : d_law_take.bind := fun _ _ _ _ _ _ us hl => match us, hl with | [_, _], _ => rfl

/-! _law_leaf: slots 0 _law_state -/
def b_law_leaf_0a_0 : Ss := .cons (.ret (.tup (.cons (.cst (.str [116, 117, 114, 110, 101, 100])) .nil))) .nil
def b_law_leaf_1 : Ss := .cons (.ret (.tup (.cons (.cst (.str [99, 117, 116])) (.cons (.call 9 (.cons (.var 0) (.cons (.cst (.int 12)) .nil))) (.cons (.call 9 (.cons (.var 0) (.cons (.cst (.int 12)) .nil))) .nil))))) .nil
def b_law_leaf_0 : Ss := .cons (.ife (.cmp .eq (.call 9 (.cons (.var 0) (.cons (.cst (.int 3)) .nil))) (.cst (.int 0))) b_law_leaf_0a_0 .nil) b_law_leaf_1
def d_law_leaf : Df := ⟨"_law_leaf", L2.defArgs (top 21), L2.defBody (top 21), L2.defScope (top 21), ["_law_state"], ["_law_state"], b_law_leaf_0⟩
theorem d_law_leaf_ok : d_law_leaf.okB I = true := by decide +kernel
theorem d_law_leaf_bind : d_law_leaf.bind := fun _ _ _ _ _ _ us hl => match us, hl with | [_], _ => rfl

/-! _law_tree: slots 0 _law_script, 1 _law_most, 2 _law_trees, 3 _law_deeps, 4 _law_k, 5 _law_state, 6 _law_way -/
def b_law_tree_2a_2a_1 : Ss := .cons (.asg (.nm 3) (.bop false .add (.slc true (.var 3) .none (.some (.neg (.cst (.int 2))))) (.lst true (.cons (.bop true .add (.cst (.int 1)) (.bi .max1 (.cons (.slc true (.var 3) (.some (.neg (.cst (.int 2)))) .none) .nil))) .nil)))) .nil
def b_law_tree_2a_2a_0 : Ss := .cons (.asg (.nm 2) (.bop false .add (.slc true (.var 2) .none (.some (.neg (.cst (.int 2))))) (.lst true (.cons (.tup (.cons (.cst (.str [115, 112, 108, 105, 116])) (.cons (.call 9 (.cons (.var 5) (.cons (.cst (.int 20)) .nil))) (.cons (.ix (.var 2) (.neg (.cst (.int 2)))) (.cons (.ix (.var 2) (.neg (.cst (.int 1)))) .nil))))) .nil)))) b_law_tree_2a_2a_1
def b_law_tree_2a_2b_1 : Ss := .cons (.ex (.mt .append (.var 3) (.cons (.cst (.int 0)) .nil))) .nil
def b_law_tree_2a_2b_0 : Ss := .cons (.ex (.mt .append (.var 2) (.cons (.call 10 (.cons (.var 5) .nil)) .nil))) b_law_tree_2a_2b_1
def b_law_tree_2a_2 : Ss := .cons (.ife (.and (.cons (.cmp .eq (.var 6) (.cst (.int 0))) (.cons (.cmp .gt (.bi .len (.cons (.var 2) .nil)) (.cst (.int 1))) (.cons (.cmp .lt (.bi .max1 (.cons (.slc true (.var 3) (.some (.neg (.cst (.int 2)))) .none) .nil)) (.var 1)) .nil)))) b_law_tree_2a_2a_0 b_law_tree_2a_2b_0) .nil
def b_law_tree_2a_1 : Ss := .cons (.asg (.nm 6) (.call 9 (.cons (.var 5) (.cons (.cst (.int 3)) .nil)))) b_law_tree_2a_2
def b_law_tree_2a_0 : Ss := .cons (.asg (.nm 5) (.call 8 (.cons (.var 0) (.cons (.var 4) .nil)))) b_law_tree_2a_1
def b_law_tree_3a_0a_1 : Ss := .cons (.asg (.nm 3) (.bop false .add (.slc true (.var 3) .none (.some (.neg (.cst (.int 2))))) (.lst true (.cons (.bop true .add (.cst (.int 1)) (.bi .max1 (.cons (.slc true (.var 3) (.some (.neg (.cst (.int 2)))) .none) .nil))) .nil)))) .nil
def b_law_tree_3a_0a_0 : Ss := .cons (.asg (.nm 2) (.bop false .add (.slc true (.var 2) .none (.some (.neg (.cst (.int 2))))) (.lst true (.cons (.tup (.cons (.cst (.str [115, 112, 108, 105, 116])) (.cons (.bop true .mod (.bi .len (.cons (.var 2) .nil)) (.cst (.int 20))) (.cons (.ix (.var 2) (.neg (.cst (.int 2)))) (.cons (.ix (.var 2) (.neg (.cst (.int 1)))) .nil))))) .nil)))) b_law_tree_3a_0a_1
def b_law_tree_3a_0b_1 : Ss := .cons (.ex (.mt .pop (.var 3) .nil)) .nil
def b_law_tree_3a_0b_0 : Ss := .cons (.ex (.mt .pop (.var 2) .nil)) b_law_tree_3a_0b_1
def b_law_tree_3a_0 : Ss := .cons (.ife (.cmp .lt (.bi .max1 (.cons (.slc true (.var 3) (.some (.neg (.cst (.int 2)))) .none) .nil)) (.var 1)) b_law_tree_3a_0a_0 b_law_tree_3a_0b_0) .nil
def b_law_tree_4 : Ss := .cons (.ret (.ix (.var 2) (.cst (.int 0)))) .nil
def b_law_tree_3 : Ss := .cons (.whl (.cmp .gt (.bi .len (.cons (.var 2) .nil)) (.cst (.int 1))) b_law_tree_3a_0) b_law_tree_4
def b_law_tree_2 : Ss := .cons (.fr (.nm 4) (.rng1 (.bi .max2 (.cons (.cst (.int 1)) (.cons (.bi .min2 (.cons (.bi .len (.cons (.var 0) .nil)) (.cons (.cst (.int 63)) .nil))) .nil)))) b_law_tree_2a_0) b_law_tree_3
def b_law_tree_1 : Ss := .cons (.asg (.nm 3) (.lst false .nil)) b_law_tree_2
def b_law_tree_0 : Ss := .cons (.asg (.nm 2) (.lst false .nil)) b_law_tree_1
def d_law_tree : Df := ⟨"_law_tree", L2.defArgs (top 22), L2.defBody (top 22), L2.defScope (top 22), ["_law_script", "_law_most"], ["_law_script", "_law_most", "_law_trees", "_law_deeps", "_law_k", "_law_state", "_law_way"], b_law_tree_0⟩
theorem d_law_tree_ok : d_law_tree.okB I = true := by decide +kernel
theorem d_law_tree_bind : d_law_tree.bind := fun _ _ _ _ _ _ us hl => match us, hl with | [_, _], _ => rfl

/-! _law_written: slots 0 _law_tree_here, 1 _law_both -/
def b_law_written_0a_0 : Ss := .cons (.ret (.cst (.str [116, 117, 114, 110, 101, 100]))) .nil
def b_law_written_1a_0 : Ss := .cons (.ret (.bop true .add (.bop true .add (.bop true .add (.cst (.str [99, 117, 116, 32])) (.bi .str (.cons (.ix (.var 0) (.cst (.int 1))) .nil))) (.cst (.str [32]))) (.bi .str (.cons (.ix (.var 0) (.cst (.int 2))) .nil)))) .nil
def b_law_written_3 : Ss := .cons (.ret (.bop true .add (.bop true .add (.bop true .add (.bop true .add (.cst (.str [115, 112, 108, 105, 116, 32])) (.bi .str (.cons (.ix (.var 0) (.cst (.int 1))) .nil))) (.cst (.str [32, 91]))) (.var 1)) (.cst (.str [93])))) .nil
def b_law_written_2 : Ss := .cons (.asg (.nm 1) (.bop true .add (.bop true .add (.call 12 (.cons (.ix (.var 0) (.cst (.int 2))) .nil)) (.cst (.str [32, 124, 32]))) (.call 12 (.cons (.ix (.var 0) (.cst (.int 3))) .nil)))) b_law_written_3
def b_law_written_1 : Ss := .cons (.ife (.cmp .eq (.ix (.var 0) (.cst (.int 0))) (.cst (.str [99, 117, 116]))) b_law_written_1a_0 .nil) b_law_written_2
def b_law_written_0 : Ss := .cons (.ife (.cmp .eq (.ix (.var 0) (.cst (.int 0))) (.cst (.str [116, 117, 114, 110, 101, 100]))) b_law_written_0a_0 .nil) b_law_written_1
def d_law_written : Df := ⟨"_law_written", L2.defArgs (top 23), L2.defBody (top 23), L2.defScope (top 23), ["_law_tree_here"], ["_law_tree_here", "_law_both"], b_law_written_0⟩
theorem d_law_written_ok : d_law_written.okB I = true := by decide +kernel
theorem d_law_written_bind : d_law_written.bind := fun _ _ _ _ _ _ us hl => match us, hl with | [_], _ => rfl

/-! _law_same: slots 0 _law_told, 1 _law_due, 2 _law_part -/
def b_law_same_0a_0 : Ss := .cons (.ret (.cst (.bl false))) .nil
def b_law_same_1a_0 : Ss := .cons (.ret (.cst (.bl false))) .nil
def b_law_same_2 : Ss := .cons (.ret (.orv (.cons (.cmp .ne (.ix (.var 1) (.cst (.int 0))) (.cst (.str [115, 112, 108, 105, 116]))) (.cons (.andv (.cons (.call 13 (.cons (.ix (.var 0) (.cst (.int 2))) (.cons (.ix (.var 1) (.cst (.int 2))) .nil))) (.cons (.call 13 (.cons (.ix (.var 0) (.cst (.int 3))) (.cons (.ix (.var 1) (.cst (.int 3))) .nil))) .nil))) .nil)))) .nil
def b_law_same_1 : Ss := .cons (.ife (.cmp .inn (.cst (.bl true)) (.comp true (.isi (.var 2) [.bool]) (.nm 2) [("_law_part", 2)] (.seq (.var 0)) .nil)) b_law_same_1a_0 .nil) b_law_same_2
def b_law_same_0 : Ss := .cons (.ife (.or (.cons (.not (.val (.isi (.var 0) [.tuple]))) (.cons (.cmp .ne (.var 0) (.var 1)) .nil))) b_law_same_0a_0 .nil) b_law_same_1
def d_law_same : Df := ⟨"_law_same", L2.defArgs (top 24), L2.defBody (top 24), L2.defScope (top 24), ["_law_told", "_law_due"], ["_law_told", "_law_due", "_law_part"], b_law_same_0⟩
theorem d_law_same_ok : d_law_same.okB I = true := by decide +kernel
theorem d_law_same_bind : d_law_same.bind := fun _ _ _ _ _ _ us hl => match us, hl with | [_, _], _ => rfl

/-! _law_right: slots 0 _law_tree_here, 1 _law_text -/
def b_law_right_1 : Ss := .cons (.ret (.andv (.cons (.isi (.var 1) [.str]) (.cons (.cmp .eq (.var 1) (.call 12 (.cons (.var 0) .nil))) (.cons (.call 13 (.cons (.call 7 (.cons (.var 1) .nil)) (.cons (.var 0) .nil))) .nil))))) .nil
def b_law_right_0 : Ss := .cons (.asg (.nm 1) (.call 2 (.cons (.var 0) .nil))) b_law_right_1
def d_law_right : Df := ⟨"_law_right", L2.defArgs (top 25), L2.defBody (top 25), L2.defScope (top 25), ["_law_tree_here"], ["_law_tree_here", "_law_text"], b_law_right_0⟩
theorem d_law_right_ok : d_law_right.okB I = true := by decide +kernel
theorem d_law_right_bind : d_law_right.bind := fun _ _ _ _ _ _ us hl => match us, hl with | [_], _ => rfl

/-! law: slots 0 _law_script, 1 _law_tree_here, 2 _law_deep, 3 _law_k, 4 _law_wide -/
def b_law_1a_0 : Ss := .cons (.ret (.cst (.bl false))) .nil
def b_law_2a_0a_0 : Ss := .cons (.ret (.cst (.bl false))) .nil
def b_law_2a_1 : Ss := .cons (.asg (.nm 1) (.ix (.var 1) (.cst (.int 3)))) .nil
def b_law_2a_0 : Ss := .cons (.ife (.or (.cons (.not (.val (.call 14 (.cons (.ix (.var 1) (.cst (.int 2))) .nil)))) (.cons (.cmp .ne (.bi .len (.cons (.var 1) .nil)) (.cst (.int 4))) .nil))) b_law_2a_0a_0 .nil) b_law_2a_1
def b_law_4a_0 : Ss := .cons (.asg (.nm 2) (.ix (.lst true (.cons (.tup (.cons (.cst (.str [115, 112, 108, 105, 116])) (.cons (.var 3) (.cons (.var 2) (.cons (.tup (.cons (.cst (.str [99, 117, 116])) (.cons (.cst (.int 0)) (.cons (.cst (.int 11)) .nil)))) .nil))))) (.cons (.tup (.cons (.cst (.str [115, 112, 108, 105, 116])) (.cons (.var 3) (.cons (.tup (.cons (.cst (.str [99, 117, 116])) (.cons (.cst (.int 11)) (.cons (.cst (.int 0)) .nil)))) (.cons (.var 2) .nil))))) .nil))) (.bop true .mod (.bop true .add (.bi .len (.cons (.var 0) .nil)) (.var 3)) (.cst (.int 2))))) .nil
def b_law_6a_0 : Ss := .cons (.asg (.nm 4) (.tup (.cons (.cst (.str [115, 112, 108, 105, 116])) (.cons (.bop true .add (.cst (.int 3)) (.var 3)) (.cons (.var 4) (.cons (.var 4) .nil)))))) .nil
def b_law_7 : Ss := .cons (.ret (.andv (.cons (.call 14 (.cons (.var 1) .nil)) (.cons (.call 14 (.cons (.var 2) .nil)) (.cons (.call 14 (.cons (.var 4) .nil)) .nil))))) .nil
def b_law_6 : Ss := .cons (.fr (.nm 3) (.rng1 (.cst (.int 8))) b_law_6a_0) b_law_7
def b_law_5 : Ss := .cons (.asg (.nm 4) (.tup (.cons (.cst (.str [116, 117, 114, 110, 101, 100])) .nil))) b_law_6
def b_law_4 : Ss := .cons (.fr (.nm 3) (.rng1 (.cst (.int 20))) b_law_4a_0) b_law_5
def b_law_3 : Ss := .cons (.asg (.nm 2) (.tup (.cons (.cst (.str [116, 117, 114, 110, 101, 100])) .nil))) b_law_4
def b_law_2 : Ss := .cons (.whl (.cmp .eq (.ix (.var 1) (.cst (.int 0))) (.cst (.str [115, 112, 108, 105, 116]))) b_law_2a_0) b_law_3
def b_law_1 : Ss := .cons (.ife (.not (.val (.call 14 (.cons (.var 1) .nil)))) b_law_1a_0 .nil) b_law_2
def b_law_0 : Ss := .cons (.asg (.nm 1) (.call 11 (.cons (.var 0) (.cons (.cst (.int 20)) .nil)))) b_law_1
def d_law : Df := ⟨"law", L2.defArgs (top 26), L2.defBody (top 26), L2.defScope (top 26), ["_law_script"], ["_law_script", "_law_tree_here", "_law_deep", "_law_k", "_law_wide"], b_law_0⟩
theorem d_law_ok : d_law.okB I = true := by decide +kernel
theorem d_law_bind : d_law.bind := fun _ _ _ _ _ _ us hl => match us, hl with | [_], _ => rfl
end K78

set_option Elab.async false
set_option linter.all false
set_option maxRecDepth 100000
set_option maxHeartbeats 4000000
namespace K78
open PySem PySem.Spec PyProof.Rows L2 VS
theorem lim_eq' : lim = 16777216 := rfl
/-- what a def's table has -/
def G (T : Tab) : Prop := T.glob 0 = some (.str [48, 49, 50, 51, 52, 53, 54, 55, 56, 57]) ∧ T.glob 1 = some (.int 60) ∧ T.glob 2 = some (.int 20) ∧ T.glob 3 = some (.int 12) ∧ T.glob 4 = some (.int 20)
theorem f1 : ∀ k : Fin 20, (intD (k.val : Int)).length ≤ 2 ∧ (intD (k.val : Int)) ≠ [] ∧ (intD (k.val : Int)).all (fun c => decide (48 ≤ c) && decide (c ≤ 57)) = true := by decide +kernel
theorem f2 : ∀ k : Fin 20, PySem.intText? (strOf (intD (k.val : Int))) = some (k.val : Int) := by decide +kernel
def num (k : Nat) : List Nat := intD (k : Int)
theorem num_len {k : Nat} (h : k < 20) : (num k).length ≤ 2 := (f1 ⟨k, h⟩).1
theorem num_ne {k : Nat} (h : k < 20) : num k ≠ [] := (f1 ⟨k, h⟩).2.1
theorem num_dig {k : Nat} (h : k < 20) : ∀ c ∈ num k, 48 ≤ c ∧ c ≤ 57 := fun c hc => by
  have := List.all_eq_true.mp (f1 ⟨k, h⟩).2.2 c hc
  simpa using this
theorem num_int {k : Nat} (h : k < 20) : PySem.intText? (strOf (num k)) = some (k : Int) := f2 ⟨k, h⟩
theorem log2_lt' {n k : Nat} (h : n < 2 ^ k) (hk : 0 < k) : n.log2 < k := by
  by_cases h0 : n = 0
  · subst h0; simpa using hk
  · exact (Nat.log2_lt h0).mpr h
def s1 (d : D) (h : Hv) (Q : QD) : Prop := Q d h
def sp_whole : VSp := fun ds h Q _ => ∃ k, k < 20 ∧ ds = [.str (num k)] ∧ Q (.int (k : Nat)) h
theorem cut1 {c : Nat} {w : List Nat} : cutL (c :: w) none (some 1) = [c] := cutL_hi (xs := c :: w) (i := 1) (by simp)
theorem any_no {w : List Nat} (h : ∀ c ∈ w, 48 ≤ c ∧ c ≤ 57) : ∃ bs, allBl ((sgnL w).map fun d => .bl (match d with | .str [c] => !decide (c ∈ [48, 49, 50, 51, 52, 53, 54, 55, 56, 57]) | _ => false)) = some bs ∧ bs.any id = false := by
  induction w with
  | nil => exact ⟨[], rfl, rfl⟩
  | cons c w ih =>
    obtain ⟨bs, e1, e2⟩ := ih fun c hc => h c (by simp [hc])
    have hc := h c (by simp)
    refine ⟨false :: bs, ?_, by simpa using e2⟩
    have hm : decide (c ∈ [48, 49, 50, 51, 52, 53, 54, 55, 56, 57]) = true := by
      simp only [List.mem_cons, List.not_mem_nil, or_false, decide_eq_true_eq]
      omega
    show (match D.bl (!decide (c ∈ [48, 49, 50, 51, 52, 53, 54, 55, 56, 57])) with | .bl i => (allBl ((sgnL w).map _)).map (i :: ·) | _ => none) = _
    rw [hm]
    show (allBl ((sgnL w).map _)).map (false :: ·) = _
    rw [e1]; rfl
theorem l_whole (T : Tab) (g : G T) : ∀ ds h Q X, sp_whole ds h Q X → wSs T d_whole_of.body (ds.map some ++ List.replicate (d_whole_of.N.length - ds.length) none) h ⟨fun _ h1 => Q .non h1, Q, fun c fs _ h1 => X c fs h1⟩ := by
  rintro ds h Q X ⟨k, hk, rfl, q⟩
  obtain ⟨g0, g1, _⟩ := g
  show wSs T b_whole_of_0 [some (.str (num k)), none, none, none] h _
  have hl := num_len hk
  have hd := num_dig hk
  have hi := num_int hk
  have hs : intD (k : Int) = num k := rfl
  have hlog : ((k : Int).natAbs).log2 < 1920 := Nat.lt_trans (log2_lt' (k := 5) (by omega) (by omega)) (by omega)
  obtain ⟨c, w, e⟩ : ∃ c w, num k = c :: w := by
    cases e : num k with
    | nil => exact absurd e (num_ne hk)
    | cons c w => exact ⟨c, w, rfl⟩
  have hc : (([c] : List Nat) == [45]) = false := by
    have := hd c (by rw [e]; simp)
    simp; omega
  have hcut : cutL (num k) none (some 1) = [c] := by rw [e]; exact cut1
  try simp only [wSs_nil, wSs_cons, wAnd_one, wAnd_cons, wOr_one, wOr_cons, Tgs.len, eq_self, if_true, if_false, rsvN, rsvB, rsvI, rsvS, rsvT, rsvLs, rsvSc, rsvE, rsvH, isNonN, isNonB, isNonI, isNonS, isNonT, isNonL, isNonO, lenS, lenL, lenT, lenSc, seqL, seqT, kdN, kdB, kdI, kdS, kdT, kdL, Kd.isOf, br_t, br_f, itOk, VS.cellOf, wipeE, List.map_cons, List.map_nil, List.replicate_zero, List.replicate_succ, List.cons_append, List.nil_append, Nat.sub_self, Nat.reduceSub, Nat.reduceAdd, List.getElem?_cons_zero, List.getElem?_cons_succ, List.set_cons_zero, List.set_cons_succ, List.length_cons, List.length_nil, Option.some.injEq, exists_eq_left', exists_eq_left, exists_eq', exists_eq, D.int.injEq, D.bl.injEq, D.str.injEq, D.tup.injEq, D.lst.injEq, D.loc.injEq, List.cons.injEq, and_true, true_and, hup_same, ↓reduceIte, Nat.reduceLT, Nat.reduceEqDiff, reduceCtorEq, hup_hup, exists_and_left, Cell.lst.injEq, Nat.reduceLeDiff, Nat.zero_add, Bool.false_eq_true, ixN_ofNat, atI_ofNat, plnN, plnB, plnI, plnS, plnT, plnL, plns0, plnsC, depN, depB, depI, depS, depT, depL, deps0, depsC, eqbI, eqbS, eqbT, eqbL, eqbB, eqbs0, eqbsC, Nat.zero_le, br_not, Nat.max_zero, Nat.zero_max, Nat.max_self, Bool.and_true, Bool.true_and, Bool.not_true, Bool.not_false, beq_self_eq_true, wEq, wInL, wE_var, wE_cst, wE_glob, wE_bop, wE_neg, wE_not, wE_cmp, wE_chn, wE_andv, wE_orv, wE_ite, wE_tup, wE_lst, wE_ix, wE_slc, wE_rev, wE_call, wE_bi, wE_lrng1, wE_lrng2, wE_isi, wE_isx, wE_fld, wE_mt, wE_comp, wE_frz, wE_dnew, wEs_nil, wEs_cons, wO_none, wO_some, wC_val, wC_cmp, wC_chn, wC_not, wC_and, wC_or, wAndC_nil, wAndC_cons, wOrC_nil, wOrC_cons, wI_seq, wI_sgn, wI_rng1, wI_rng2, wI_enm, wI_zip2, wI_zip3, wS_asg, wS_par, wS_asgIx, wS_aug, wS_ex, wS_ret, wS_ret0, wS_ife, wS_whl, wS_fr, wS_rs, wS_never, wAdd_d, wMul_d, addKI, addKS, addKL, addKT, mulKI, mulKL, wSubI, wFdivI, wModI, wPowI, mkLt, mkLf, asgT_nm, asgT_tp, asgTs_nil, asgTs_cons, put_fn, put_glob, put_kc, frzKL, wCeq, wCne, wClt, wCle, wCleS, wCgt, wCge, wCis, wCisn, wCin, wCnin, wIn_d, inKS, inKL, inKTI, inKTS, inKD, wIx_d, ixKL, ixKT, ixKSc, ixKS, ixKD, wSlc_d, slcKL, slcKT, slcKS, wSet_h, wBIlen, wBIabs, wBIintI, wBIintB, wBIintS, wBIstrI, wBIstrS, wBIlist, wBItuple, wBIall, wBIany, wBImax1, wBImin1, wBIsum, wBIsorted, wBImin2, wBImax2, wMTappend, wMTpop, wMTclear, wMTjoin, wMTsplit, isRcvA, isRcvP, isRcvC, isRcvJ, isRcvSp, ex_lst, ex_lst0, b_whole_of_0]
  refine ⟨by rw [lim_eq']; omega, br_no (by rw [hcut]; exact hc) ?_⟩
  try simp only [wSs_nil, wSs_cons, wAnd_one, wAnd_cons, wOr_one, wOr_cons, Tgs.len, eq_self, if_true, if_false, rsvN, rsvB, rsvI, rsvS, rsvT, rsvLs, rsvSc, rsvE, rsvH, isNonN, isNonB, isNonI, isNonS, isNonT, isNonL, isNonO, lenS, lenL, lenT, lenSc, seqL, seqT, kdN, kdB, kdI, kdS, kdT, kdL, Kd.isOf, br_t, br_f, itOk, VS.cellOf, wipeE, List.map_cons, List.map_nil, List.replicate_zero, List.replicate_succ, List.cons_append, List.nil_append, Nat.sub_self, Nat.reduceSub, Nat.reduceAdd, List.getElem?_cons_zero, List.getElem?_cons_succ, List.set_cons_zero, List.set_cons_succ, List.length_cons, List.length_nil, Option.some.injEq, exists_eq_left', exists_eq_left, exists_eq', exists_eq, D.int.injEq, D.bl.injEq, D.str.injEq, D.tup.injEq, D.lst.injEq, D.loc.injEq, List.cons.injEq, and_true, true_and, hup_same, ↓reduceIte, Nat.reduceLT, Nat.reduceEqDiff, reduceCtorEq, hup_hup, exists_and_left, Cell.lst.injEq, Nat.reduceLeDiff, Nat.zero_add, Bool.false_eq_true, ixN_ofNat, atI_ofNat, plnN, plnB, plnI, plnS, plnT, plnL, plns0, plnsC, depN, depB, depI, depS, depT, depL, deps0, depsC, eqbI, eqbS, eqbT, eqbL, eqbB, eqbs0, eqbsC, Nat.zero_le, br_not, Nat.max_zero, Nat.zero_max, Nat.max_self, Bool.and_true, Bool.true_and, Bool.not_true, Bool.not_false, beq_self_eq_true, wEq, wInL, wE_var, wE_cst, wE_glob, wE_bop, wE_neg, wE_not, wE_cmp, wE_chn, wE_andv, wE_orv, wE_ite, wE_tup, wE_lst, wE_ix, wE_slc, wE_rev, wE_call, wE_bi, wE_lrng1, wE_lrng2, wE_isi, wE_isx, wE_fld, wE_mt, wE_comp, wE_frz, wE_dnew, wEs_nil, wEs_cons, wO_none, wO_some, wC_val, wC_cmp, wC_chn, wC_not, wC_and, wC_or, wAndC_nil, wAndC_cons, wOrC_nil, wOrC_cons, wI_seq, wI_sgn, wI_rng1, wI_rng2, wI_enm, wI_zip2, wI_zip3, wS_asg, wS_par, wS_asgIx, wS_aug, wS_ex, wS_ret, wS_ret0, wS_ife, wS_whl, wS_fr, wS_rs, wS_never, wAdd_d, wMul_d, addKI, addKS, addKL, addKT, mulKI, mulKL, wSubI, wFdivI, wModI, wPowI, mkLt, mkLf, asgT_nm, asgT_tp, asgTs_nil, asgTs_cons, put_fn, put_glob, put_kc, frzKL, wCeq, wCne, wClt, wCle, wCleS, wCgt, wCge, wCis, wCisn, wCin, wCnin, wIn_d, inKS, inKL, inKTI, inKTS, inKD, wIx_d, ixKL, ixKT, ixKSc, ixKS, ixKD, wSlc_d, slcKL, slcKT, slcKS, wSet_h, wBIlen, wBIabs, wBIintI, wBIintB, wBIintS, wBIstrI, wBIstrS, wBIlist, wBItuple, wBIall, wBIany, wBImax1, wBImin1, wBIsum, wBIsorted, wBImin2, wBImax2, wMTappend, wMTpop, wMTclear, wMTjoin, wMTsplit, isRcvA, isRcvP, isRcvC, isRcvJ, isRcvSp, ex_lst, ex_lst0, b_whole_of_1, g0, g1]
  have hl1 : 1 ≤ (num k).length := by rw [e]; simp
  refine ⟨by rw [lim_eq']; omega, br_yes (decide_eq_true (by omega)) (br_yes (decide_eq_true (by omega)) ⟨by rw [lim_eq']; omega, ?_⟩)⟩
  obtain ⟨bs, e1, e2⟩ := any_no hd
  refine wCp_map (fun d => .bl (match d with | .str [c] => !decide (c ∈ [48, 49, 50, 51, 52, 53, 54, 55, 56, 57]) | _ => false)) trivial (fun x hx R hR => ?_) ⟨bs, e1, br_no e2 ?_⟩
  · obtain ⟨z, _, rfl⟩ := List.mem_map.mp hx
    exact hR
  · try simp only [wSs_nil, wSs_cons, wAnd_one, wAnd_cons, wOr_one, wOr_cons, Tgs.len, eq_self, if_true, if_false, rsvN, rsvB, rsvI, rsvS, rsvT, rsvLs, rsvSc, rsvE, rsvH, isNonN, isNonB, isNonI, isNonS, isNonT, isNonL, isNonO, lenS, lenL, lenT, lenSc, seqL, seqT, kdN, kdB, kdI, kdS, kdT, kdL, Kd.isOf, br_t, br_f, itOk, VS.cellOf, wipeE, List.map_cons, List.map_nil, List.replicate_zero, List.replicate_succ, List.cons_append, List.nil_append, Nat.sub_self, Nat.reduceSub, Nat.reduceAdd, List.getElem?_cons_zero, List.getElem?_cons_succ, List.set_cons_zero, List.set_cons_succ, List.length_cons, List.length_nil, Option.some.injEq, exists_eq_left', exists_eq_left, exists_eq', exists_eq, D.int.injEq, D.bl.injEq, D.str.injEq, D.tup.injEq, D.lst.injEq, D.loc.injEq, List.cons.injEq, and_true, true_and, hup_same, ↓reduceIte, Nat.reduceLT, Nat.reduceEqDiff, reduceCtorEq, hup_hup, exists_and_left, Cell.lst.injEq, Nat.reduceLeDiff, Nat.zero_add, Bool.false_eq_true, ixN_ofNat, atI_ofNat, plnN, plnB, plnI, plnS, plnT, plnL, plns0, plnsC, depN, depB, depI, depS, depT, depL, deps0, depsC, eqbI, eqbS, eqbT, eqbL, eqbB, eqbs0, eqbsC, Nat.zero_le, br_not, Nat.max_zero, Nat.zero_max, Nat.max_self, Bool.and_true, Bool.true_and, Bool.not_true, Bool.not_false, beq_self_eq_true, wEq, wInL, wE_var, wE_cst, wE_glob, wE_bop, wE_neg, wE_not, wE_cmp, wE_chn, wE_andv, wE_orv, wE_ite, wE_tup, wE_lst, wE_ix, wE_slc, wE_rev, wE_call, wE_bi, wE_lrng1, wE_lrng2, wE_isi, wE_isx, wE_fld, wE_mt, wE_comp, wE_frz, wE_dnew, wEs_nil, wEs_cons, wO_none, wO_some, wC_val, wC_cmp, wC_chn, wC_not, wC_and, wC_or, wAndC_nil, wAndC_cons, wOrC_nil, wOrC_cons, wI_seq, wI_sgn, wI_rng1, wI_rng2, wI_enm, wI_zip2, wI_zip3, wS_asg, wS_par, wS_asgIx, wS_aug, wS_ex, wS_ret, wS_ret0, wS_ife, wS_whl, wS_fr, wS_rs, wS_never, wAdd_d, wMul_d, addKI, addKS, addKL, addKT, mulKI, mulKL, wSubI, wFdivI, wModI, wPowI, mkLt, mkLf, asgT_nm, asgT_tp, asgTs_nil, asgTs_cons, put_fn, put_glob, put_kc, frzKL, wCeq, wCne, wClt, wCle, wCleS, wCgt, wCge, wCis, wCisn, wCin, wCnin, wIn_d, inKS, inKL, inKTI, inKTS, inKD, wIx_d, ixKL, ixKT, ixKSc, ixKS, ixKD, wSlc_d, slcKL, slcKT, slcKS, wSet_h, wBIlen, wBIabs, wBIintI, wBIintB, wBIintS, wBIstrI, wBIstrS, wBIlist, wBItuple, wBIall, wBIany, wBImax1, wBImin1, wBIsum, wBIsorted, wBImin2, wBImax2, wMTappend, wMTpop, wMTclear, wMTjoin, wMTsplit, isRcvA, isRcvP, isRcvC, isRcvJ, isRcvSp, ex_lst, ex_lst0, b_whole_of_2, b_whole_of_3, hi, hs]
    exact ⟨by omega, hlog, h, hsub_refl h, q⟩
def sp_below : VSp := fun ds h Q _ => ∃ k m : Nat, k < 20 ∧ k < m ∧ ds = [.str (num k), .int (m : Nat)] ∧ Q (.int (k : Nat)) h
theorem l_below (T : Tab) (t0 : T.fn 0 = sp_whole) : ∀ ds h Q X, sp_below ds h Q X → wSs T d_number_below.body (ds.map some ++ List.replicate (d_number_below.N.length - ds.length) none) h ⟨fun _ h1 => Q .non h1, Q, fun c fs _ h1 => X c fs h1⟩ := by
  rintro ds h Q X ⟨k, m, hk, hm, rfl, q⟩
  show wSs T b_number_below_0 [some (.str (num k)), some (.int m), none] h _
  try simp only [wSs_nil, wSs_cons, wAnd_one, wAnd_cons, wOr_one, wOr_cons, Tgs.len, eq_self, if_true, if_false, rsvN, rsvB, rsvI, rsvS, rsvT, rsvLs, rsvSc, rsvE, rsvH, isNonN, isNonB, isNonI, isNonS, isNonT, isNonL, isNonO, lenS, lenL, lenT, lenSc, seqL, seqT, kdN, kdB, kdI, kdS, kdT, kdL, Kd.isOf, br_t, br_f, itOk, VS.cellOf, wipeE, List.map_cons, List.map_nil, List.replicate_zero, List.replicate_succ, List.cons_append, List.nil_append, Nat.sub_self, Nat.reduceSub, Nat.reduceAdd, List.getElem?_cons_zero, List.getElem?_cons_succ, List.set_cons_zero, List.set_cons_succ, List.length_cons, List.length_nil, Option.some.injEq, exists_eq_left', exists_eq_left, exists_eq', exists_eq, D.int.injEq, D.bl.injEq, D.str.injEq, D.tup.injEq, D.lst.injEq, D.loc.injEq, List.cons.injEq, and_true, true_and, hup_same, ↓reduceIte, Nat.reduceLT, Nat.reduceEqDiff, reduceCtorEq, hup_hup, exists_and_left, Cell.lst.injEq, Nat.reduceLeDiff, Nat.zero_add, Bool.false_eq_true, ixN_ofNat, atI_ofNat, plnN, plnB, plnI, plnS, plnT, plnL, plns0, plnsC, depN, depB, depI, depS, depT, depL, deps0, depsC, eqbI, eqbS, eqbT, eqbL, eqbB, eqbs0, eqbsC, Nat.zero_le, br_not, Nat.max_zero, Nat.zero_max, Nat.max_self, Bool.and_true, Bool.true_and, Bool.not_true, Bool.not_false, beq_self_eq_true, wEq, wInL, wE_var, wE_cst, wE_glob, wE_bop, wE_neg, wE_not, wE_cmp, wE_chn, wE_andv, wE_orv, wE_ite, wE_tup, wE_lst, wE_ix, wE_slc, wE_rev, wE_call, wE_bi, wE_lrng1, wE_lrng2, wE_isi, wE_isx, wE_fld, wE_mt, wE_comp, wE_frz, wE_dnew, wEs_nil, wEs_cons, wO_none, wO_some, wC_val, wC_cmp, wC_chn, wC_not, wC_and, wC_or, wAndC_nil, wAndC_cons, wOrC_nil, wOrC_cons, wI_seq, wI_sgn, wI_rng1, wI_rng2, wI_enm, wI_zip2, wI_zip3, wS_asg, wS_par, wS_asgIx, wS_aug, wS_ex, wS_ret, wS_ret0, wS_ife, wS_whl, wS_fr, wS_rs, wS_never, wAdd_d, wMul_d, addKI, addKS, addKL, addKT, mulKI, mulKL, wSubI, wFdivI, wModI, wPowI, mkLt, mkLf, asgT_nm, asgT_tp, asgTs_nil, asgTs_cons, put_fn, put_glob, put_kc, frzKL, wCeq, wCne, wClt, wCle, wCleS, wCgt, wCge, wCis, wCisn, wCin, wCnin, wIn_d, inKS, inKL, inKTI, inKTS, inKD, wIx_d, ixKL, ixKT, ixKSc, ixKS, ixKD, wSlc_d, slcKL, slcKT, slcKS, wSet_h, wBIlen, wBIabs, wBIintI, wBIintB, wBIintS, wBIstrI, wBIstrS, wBIlist, wBItuple, wBIall, wBIany, wBImax1, wBImin1, wBIsum, wBIsorted, wBImin2, wBImax2, wMTappend, wMTpop, wMTclear, wMTjoin, wMTsplit, isRcvA, isRcvP, isRcvC, isRcvJ, isRcvSp, ex_lst, ex_lst0, b_number_below_0, t0]
  refine ⟨k, hk, rfl, ?_⟩
  try simp only [wSs_nil, wSs_cons, wAnd_one, wAnd_cons, wOr_one, wOr_cons, Tgs.len, eq_self, if_true, if_false, rsvN, rsvB, rsvI, rsvS, rsvT, rsvLs, rsvSc, rsvE, rsvH, isNonN, isNonB, isNonI, isNonS, isNonT, isNonL, isNonO, lenS, lenL, lenT, lenSc, seqL, seqT, kdN, kdB, kdI, kdS, kdT, kdL, Kd.isOf, br_t, br_f, itOk, VS.cellOf, wipeE, List.map_cons, List.map_nil, List.replicate_zero, List.replicate_succ, List.cons_append, List.nil_append, Nat.sub_self, Nat.reduceSub, Nat.reduceAdd, List.getElem?_cons_zero, List.getElem?_cons_succ, List.set_cons_zero, List.set_cons_succ, List.length_cons, List.length_nil, Option.some.injEq, exists_eq_left', exists_eq_left, exists_eq', exists_eq, D.int.injEq, D.bl.injEq, D.str.injEq, D.tup.injEq, D.lst.injEq, D.loc.injEq, List.cons.injEq, and_true, true_and, hup_same, ↓reduceIte, Nat.reduceLT, Nat.reduceEqDiff, reduceCtorEq, hup_hup, exists_and_left, Cell.lst.injEq, Nat.reduceLeDiff, Nat.zero_add, Bool.false_eq_true, ixN_ofNat, atI_ofNat, plnN, plnB, plnI, plnS, plnT, plnL, plns0, plnsC, depN, depB, depI, depS, depT, depL, deps0, depsC, eqbI, eqbS, eqbT, eqbL, eqbB, eqbs0, eqbsC, Nat.zero_le, br_not, Nat.max_zero, Nat.zero_max, Nat.max_self, Bool.and_true, Bool.true_and, Bool.not_true, Bool.not_false, beq_self_eq_true, wEq, wInL, wE_var, wE_cst, wE_glob, wE_bop, wE_neg, wE_not, wE_cmp, wE_chn, wE_andv, wE_orv, wE_ite, wE_tup, wE_lst, wE_ix, wE_slc, wE_rev, wE_call, wE_bi, wE_lrng1, wE_lrng2, wE_isi, wE_isx, wE_fld, wE_mt, wE_comp, wE_frz, wE_dnew, wEs_nil, wEs_cons, wO_none, wO_some, wC_val, wC_cmp, wC_chn, wC_not, wC_and, wC_or, wAndC_nil, wAndC_cons, wOrC_nil, wOrC_cons, wI_seq, wI_sgn, wI_rng1, wI_rng2, wI_enm, wI_zip2, wI_zip3, wS_asg, wS_par, wS_asgIx, wS_aug, wS_ex, wS_ret, wS_ret0, wS_ife, wS_whl, wS_fr, wS_rs, wS_never, wAdd_d, wMul_d, addKI, addKS, addKL, addKT, mulKI, mulKL, wSubI, wFdivI, wModI, wPowI, mkLt, mkLf, asgT_nm, asgT_tp, asgTs_nil, asgTs_cons, put_fn, put_glob, put_kc, frzKL, wCeq, wCne, wClt, wCle, wCleS, wCgt, wCge, wCis, wCisn, wCin, wCnin, wIn_d, inKS, inKL, inKTI, inKTS, inKD, wIx_d, ixKL, ixKT, ixKSc, ixKS, ixKD, wSlc_d, slcKL, slcKT, slcKS, wSet_h, wBIlen, wBIabs, wBIintI, wBIintB, wBIintS, wBIstrI, wBIstrS, wBIlist, wBItuple, wBIall, wBIany, wBImax1, wBImin1, wBIsum, wBIsorted, wBImin2, wBImax2, wMTappend, wMTpop, wMTclear, wMTjoin, wMTsplit, isRcvA, isRcvP, isRcvC, isRcvJ, isRcvSp, ex_lst, ex_lst0, b_number_below_1]
  refine br_yes (decide_eq_true (by omega)) ?_
  exact br_yes (decide_eq_true (by omega)) ⟨h, hsub_refl h, q⟩
/-! trees -/
inductive Tr where
  | turned
  | cut (a b : Nat)
  | split (k : Nat) (l r : Tr)
def sTurned : List Nat := [116, 117, 114, 110, 101, 100]
def sCut : List Nat := [99, 117, 116]
def sSplit : List Nat := [115, 112, 108, 105, 116]
namespace Tr
def d : Tr → D
  | turned => .tup [.str sTurned]
  | cut a b => .tup [.str sCut, .int (a : Nat), .int (b : Nat)]
  | split k l r => .tup [.str sSplit, .int (k : Nat), d l, d r]
def txt : Tr → List Nat
  | turned => sTurned
  | cut a b => sCut ++ 32 :: (num a ++ 32 :: num b)
  | split k l r => sSplit ++ 32 :: (num k ++ 32 :: 91 :: (txt l ++ 32 :: 124 :: 32 :: (txt r ++ [93])))
def ok : Tr → Prop
  | turned => True
  | cut a b => a < 12 ∧ b < 12
  | split k l r => k < 20 ∧ ok l ∧ ok r
def dep : Tr → Nat
  | turned => 0
  | cut _ _ => 0
  | split _ l r => max (dep l) (dep r) + 1
def lv : Tr → Nat
  | turned => 1
  | cut _ _ => 1
  | split _ l r => lv l + lv r
theorem lv_pos : ∀ t : Tr, 1 ≤ t.lv
  | turned => Nat.le_refl _
  | cut _ _ => Nat.le_refl _
  | split _ l r => by have := lv_pos l; show 1 ≤ lv l + lv r; omega
theorem txt_len : ∀ {t : Tr}, t.ok → t.txt.length + 14 ≤ 24 * t.lv
  | turned, _ => by decide
  | cut a b, h => by
    have h1 := num_len (k := a) (by have := h.1; omega)
    have h2 := num_len (k := b) (by have := h.2; omega)
    simp [txt, lv, sCut]; omega
  | split k l r, h => by
    have h1 := num_len h.1
    have h2 := txt_len h.2.1
    have h3 := txt_len h.2.2
    simp [txt, lv, sSplit]; omega
theorem pln : ∀ t : Tr, t.d.pln = true
  | turned => rfl
  | cut _ _ => rfl
  | split k l r => by
    show (true && (true && (D.pln l.d && (D.pln r.d && true)))) = true
    rw [pln l, pln r]; rfl
theorem dpt : ∀ t : Tr, t.d.dep = t.dep + 1
  | turned => rfl
  | cut _ _ => rfl
  | split k l r => by
    show max 0 (max 0 (max l.d.dep (max r.d.dep 0))) + 1 = max (dep l) (dep r) + 1 + 1
    rw [dpt l, dpt r]; omega
end Tr
end K78

set_option Elab.async false
set_option linter.all false
set_option maxRecDepth 100000
set_option maxHeartbeats 4000000
namespace K78
open PySem PySem.Spec PyProof.Rows L2 VS
def sp_shown (n : Nat) : VSp := fun ds h Q _ => ∃ t : Tr, t.ok ∧ t.dep < n ∧ t.txt.length ≤ 10000 ∧ ds = [t.d] ∧ Q (.str t.txt) h
theorem small_log {k : Nat} (h : k < 20) : ((k : Int).natAbs).log2 < 1920 := Nat.lt_trans (log2_lt' (k := 5) (by omega) (by omega)) (by omega)
theorem l_shown (n : Nat) (T : Tab) : ∀ ds h Q X, sp_shown (n + 1) ds h Q X → wSs (T.put 2 (sp_shown n)) d_shown_tree.body (ds.map some ++ List.replicate (d_shown_tree.N.length - ds.length) none) h ⟨fun _ h1 => Q .non h1, Q, fun c fs _ h1 => X c fs h1⟩ := by
  rintro ds h Q X ⟨t, ok, hn, hl, rfl, q⟩
  show wSs _ b_shown_tree_0 [some t.d, none] h _
  cases t with
  | turned =>
    try simp only [wSs_nil, wSs_cons, wAnd_one, wAnd_cons, wOr_one, wOr_cons, Tgs.len, eq_self, if_true, if_false, rsvN, rsvB, rsvI, rsvS, rsvT, rsvLs, rsvSc, rsvE, rsvH, isNonN, isNonB, isNonI, isNonS, isNonT, isNonL, isNonO, lenS, lenL, lenT, lenSc, seqL, seqT, kdN, kdB, kdI, kdS, kdT, kdL, Kd.isOf, br_t, br_f, itOk, VS.cellOf, wipeE, List.map_cons, List.map_nil, List.replicate_zero, List.replicate_succ, List.cons_append, List.nil_append, Nat.sub_self, Nat.reduceSub, Nat.reduceAdd, List.getElem?_cons_zero, List.getElem?_cons_succ, List.set_cons_zero, List.set_cons_succ, List.length_cons, List.length_nil, Option.some.injEq, exists_eq_left', exists_eq_left, exists_eq', exists_eq, D.int.injEq, D.bl.injEq, D.str.injEq, D.tup.injEq, D.lst.injEq, D.loc.injEq, List.cons.injEq, and_true, true_and, hup_same, ↓reduceIte, Nat.reduceLT, Nat.reduceEqDiff, reduceCtorEq, hup_hup, exists_and_left, Cell.lst.injEq, Nat.reduceLeDiff, Nat.zero_add, Bool.false_eq_true, ixN_ofNat, atI_ofNat, plnN, plnB, plnI, plnS, plnT, plnL, plns0, plnsC, depN, depB, depI, depS, depT, depL, deps0, depsC, eqbI, eqbS, eqbT, eqbL, eqbB, eqbs0, eqbsC, Nat.zero_le, br_not, Nat.max_zero, Nat.zero_max, Nat.max_self, Bool.and_true, Bool.true_and, Bool.not_true, Bool.not_false, beq_self_eq_true, wEq, wInL, wE_var, wE_cst, wE_glob, wE_bop, wE_neg, wE_not, wE_cmp, wE_chn, wE_andv, wE_orv, wE_ite, wE_tup, wE_lst, wE_ix, wE_slc, wE_rev, wE_call, wE_bi, wE_lrng1, wE_lrng2, wE_isi, wE_isx, wE_fld, wE_mt, wE_comp, wE_frz, wE_dnew, wEs_nil, wEs_cons, wO_none, wO_some, wC_val, wC_cmp, wC_chn, wC_not, wC_and, wC_or, wAndC_nil, wAndC_cons, wOrC_nil, wOrC_cons, wI_seq, wI_sgn, wI_rng1, wI_rng2, wI_enm, wI_zip2, wI_zip3, wS_asg, wS_par, wS_asgIx, wS_aug, wS_ex, wS_ret, wS_ret0, wS_ife, wS_whl, wS_fr, wS_rs, wS_never, wAdd_d, wMul_d, addKI, addKS, addKL, addKT, mulKI, mulKL, wSubI, wFdivI, wModI, wPowI, mkLt, mkLf, asgT_nm, asgT_tp, asgTs_nil, asgTs_cons, put_fn, put_glob, put_kc, frzKL, wCeq, wCne, wClt, wCle, wCleS, wCgt, wCge, wCis, wCisn, wCin, wCnin, wIn_d, inKS, inKL, inKTI, inKTS, inKD, wIx_d, ixKL, ixKT, ixKSc, ixKS, ixKD, wSlc_d, slcKL, slcKT, slcKS, wSet_h, wBIlen, wBIabs, wBIintI, wBIintB, wBIintS, wBIstrI, wBIstrS, wBIlist, wBItuple, wBIall, wBIany, wBImax1, wBImin1, wBIsum, wBIsorted, wBImin2, wBImax2, wMTappend, wMTpop, wMTclear, wMTjoin, wMTsplit, isRcvA, isRcvP, isRcvC, isRcvJ, isRcvSp, ex_lst, ex_lst0, b_shown_tree_0, Tr.d]
    refine br_no rfl ?_
    try simp only [wSs_nil, wSs_cons, wAnd_one, wAnd_cons, wOr_one, wOr_cons, Tgs.len, eq_self, if_true, if_false, rsvN, rsvB, rsvI, rsvS, rsvT, rsvLs, rsvSc, rsvE, rsvH, isNonN, isNonB, isNonI, isNonS, isNonT, isNonL, isNonO, lenS, lenL, lenT, lenSc, seqL, seqT, kdN, kdB, kdI, kdS, kdT, kdL, Kd.isOf, br_t, br_f, itOk, VS.cellOf, wipeE, List.map_cons, List.map_nil, List.replicate_zero, List.replicate_succ, List.cons_append, List.nil_append, Nat.sub_self, Nat.reduceSub, Nat.reduceAdd, List.getElem?_cons_zero, List.getElem?_cons_succ, List.set_cons_zero, List.set_cons_succ, List.length_cons, List.length_nil, Option.some.injEq, exists_eq_left', exists_eq_left, exists_eq', exists_eq, D.int.injEq, D.bl.injEq, D.str.injEq, D.tup.injEq, D.lst.injEq, D.loc.injEq, List.cons.injEq, and_true, true_and, hup_same, ↓reduceIte, Nat.reduceLT, Nat.reduceEqDiff, reduceCtorEq, hup_hup, exists_and_left, Cell.lst.injEq, Nat.reduceLeDiff, Nat.zero_add, Bool.false_eq_true, ixN_ofNat, atI_ofNat, plnN, plnB, plnI, plnS, plnT, plnL, plns0, plnsC, depN, depB, depI, depS, depT, depL, deps0, depsC, eqbI, eqbS, eqbT, eqbL, eqbB, eqbs0, eqbsC, Nat.zero_le, br_not, Nat.max_zero, Nat.zero_max, Nat.max_self, Bool.and_true, Bool.true_and, Bool.not_true, Bool.not_false, beq_self_eq_true, wEq, wInL, wE_var, wE_cst, wE_glob, wE_bop, wE_neg, wE_not, wE_cmp, wE_chn, wE_andv, wE_orv, wE_ite, wE_tup, wE_lst, wE_ix, wE_slc, wE_rev, wE_call, wE_bi, wE_lrng1, wE_lrng2, wE_isi, wE_isx, wE_fld, wE_mt, wE_comp, wE_frz, wE_dnew, wEs_nil, wEs_cons, wO_none, wO_some, wC_val, wC_cmp, wC_chn, wC_not, wC_and, wC_or, wAndC_nil, wAndC_cons, wOrC_nil, wOrC_cons, wI_seq, wI_sgn, wI_rng1, wI_rng2, wI_enm, wI_zip2, wI_zip3, wS_asg, wS_par, wS_asgIx, wS_aug, wS_ex, wS_ret, wS_ret0, wS_ife, wS_whl, wS_fr, wS_rs, wS_never, wAdd_d, wMul_d, addKI, addKS, addKL, addKT, mulKI, mulKL, wSubI, wFdivI, wModI, wPowI, mkLt, mkLf, asgT_nm, asgT_tp, asgTs_nil, asgTs_cons, put_fn, put_glob, put_kc, frzKL, wCeq, wCne, wClt, wCle, wCleS, wCgt, wCge, wCis, wCisn, wCin, wCnin, wIn_d, inKS, inKL, inKTI, inKTS, inKD, wIx_d, ixKL, ixKT, ixKSc, ixKS, ixKD, wSlc_d, slcKL, slcKT, slcKS, wSet_h, wBIlen, wBIabs, wBIintI, wBIintB, wBIintS, wBIstrI, wBIstrS, wBIlist, wBItuple, wBIall, wBIany, wBImax1, wBImin1, wBIsum, wBIsorted, wBImin2, wBImax2, wMTappend, wMTpop, wMTclear, wMTjoin, wMTsplit, isRcvA, isRcvP, isRcvC, isRcvJ, isRcvSp, ex_lst, ex_lst0, b_shown_tree_1]
    refine ⟨by decide, wCp_map (fun d => d) trivial (fun x hx R hR => ?_) ⟨[sTurned], rfl, by decide, h, hsub_refl h, q⟩⟩
    have : x = .str sTurned := by simpa using hx
    subst this
    exact hR
  | cut a b =>
    have ha : a < 20 := by have := ok.1; omega
    have hb : b < 20 := by have := ok.2; omega
    try simp only [wSs_nil, wSs_cons, wAnd_one, wAnd_cons, wOr_one, wOr_cons, Tgs.len, eq_self, if_true, if_false, rsvN, rsvB, rsvI, rsvS, rsvT, rsvLs, rsvSc, rsvE, rsvH, isNonN, isNonB, isNonI, isNonS, isNonT, isNonL, isNonO, lenS, lenL, lenT, lenSc, seqL, seqT, kdN, kdB, kdI, kdS, kdT, kdL, Kd.isOf, br_t, br_f, itOk, VS.cellOf, wipeE, List.map_cons, List.map_nil, List.replicate_zero, List.replicate_succ, List.cons_append, List.nil_append, Nat.sub_self, Nat.reduceSub, Nat.reduceAdd, List.getElem?_cons_zero, List.getElem?_cons_succ, List.set_cons_zero, List.set_cons_succ, List.length_cons, List.length_nil, Option.some.injEq, exists_eq_left', exists_eq_left, exists_eq', exists_eq, D.int.injEq, D.bl.injEq, D.str.injEq, D.tup.injEq, D.lst.injEq, D.loc.injEq, List.cons.injEq, and_true, true_and, hup_same, ↓reduceIte, Nat.reduceLT, Nat.reduceEqDiff, reduceCtorEq, hup_hup, exists_and_left, Cell.lst.injEq, Nat.reduceLeDiff, Nat.zero_add, Bool.false_eq_true, ixN_ofNat, atI_ofNat, plnN, plnB, plnI, plnS, plnT, plnL, plns0, plnsC, depN, depB, depI, depS, depT, depL, deps0, depsC, eqbI, eqbS, eqbT, eqbL, eqbB, eqbs0, eqbsC, Nat.zero_le, br_not, Nat.max_zero, Nat.zero_max, Nat.max_self, Bool.and_true, Bool.true_and, Bool.not_true, Bool.not_false, beq_self_eq_true, wEq, wInL, wE_var, wE_cst, wE_glob, wE_bop, wE_neg, wE_not, wE_cmp, wE_chn, wE_andv, wE_orv, wE_ite, wE_tup, wE_lst, wE_ix, wE_slc, wE_rev, wE_call, wE_bi, wE_lrng1, wE_lrng2, wE_isi, wE_isx, wE_fld, wE_mt, wE_comp, wE_frz, wE_dnew, wEs_nil, wEs_cons, wO_none, wO_some, wC_val, wC_cmp, wC_chn, wC_not, wC_and, wC_or, wAndC_nil, wAndC_cons, wOrC_nil, wOrC_cons, wI_seq, wI_sgn, wI_rng1, wI_rng2, wI_enm, wI_zip2, wI_zip3, wS_asg, wS_par, wS_asgIx, wS_aug, wS_ex, wS_ret, wS_ret0, wS_ife, wS_whl, wS_fr, wS_rs, wS_never, wAdd_d, wMul_d, addKI, addKS, addKL, addKT, mulKI, mulKL, wSubI, wFdivI, wModI, wPowI, mkLt, mkLf, asgT_nm, asgT_tp, asgTs_nil, asgTs_cons, put_fn, put_glob, put_kc, frzKL, wCeq, wCne, wClt, wCle, wCleS, wCgt, wCge, wCis, wCisn, wCin, wCnin, wIn_d, inKS, inKL, inKTI, inKTS, inKD, wIx_d, ixKL, ixKT, ixKSc, ixKS, ixKD, wSlc_d, slcKL, slcKT, slcKS, wSet_h, wBIlen, wBIabs, wBIintI, wBIintB, wBIintS, wBIstrI, wBIstrS, wBIlist, wBItuple, wBIall, wBIany, wBImax1, wBImin1, wBIsum, wBIsorted, wBImin2, wBImax2, wMTappend, wMTpop, wMTclear, wMTjoin, wMTsplit, isRcvA, isRcvP, isRcvC, isRcvJ, isRcvSp, ex_lst, ex_lst0, b_shown_tree_0, Tr.d]
    refine br_no rfl ?_
    try simp only [wSs_nil, wSs_cons, wAnd_one, wAnd_cons, wOr_one, wOr_cons, Tgs.len, eq_self, if_true, if_false, rsvN, rsvB, rsvI, rsvS, rsvT, rsvLs, rsvSc, rsvE, rsvH, isNonN, isNonB, isNonI, isNonS, isNonT, isNonL, isNonO, lenS, lenL, lenT, lenSc, seqL, seqT, kdN, kdB, kdI, kdS, kdT, kdL, Kd.isOf, br_t, br_f, itOk, VS.cellOf, wipeE, List.map_cons, List.map_nil, List.replicate_zero, List.replicate_succ, List.cons_append, List.nil_append, Nat.sub_self, Nat.reduceSub, Nat.reduceAdd, List.getElem?_cons_zero, List.getElem?_cons_succ, List.set_cons_zero, List.set_cons_succ, List.length_cons, List.length_nil, Option.some.injEq, exists_eq_left', exists_eq_left, exists_eq', exists_eq, D.int.injEq, D.bl.injEq, D.str.injEq, D.tup.injEq, D.lst.injEq, D.loc.injEq, List.cons.injEq, and_true, true_and, hup_same, ↓reduceIte, Nat.reduceLT, Nat.reduceEqDiff, reduceCtorEq, hup_hup, exists_and_left, Cell.lst.injEq, Nat.reduceLeDiff, Nat.zero_add, Bool.false_eq_true, ixN_ofNat, atI_ofNat, plnN, plnB, plnI, plnS, plnT, plnL, plns0, plnsC, depN, depB, depI, depS, depT, depL, deps0, depsC, eqbI, eqbS, eqbT, eqbL, eqbB, eqbs0, eqbsC, Nat.zero_le, br_not, Nat.max_zero, Nat.zero_max, Nat.max_self, Bool.and_true, Bool.true_and, Bool.not_true, Bool.not_false, beq_self_eq_true, wEq, wInL, wE_var, wE_cst, wE_glob, wE_bop, wE_neg, wE_not, wE_cmp, wE_chn, wE_andv, wE_orv, wE_ite, wE_tup, wE_lst, wE_ix, wE_slc, wE_rev, wE_call, wE_bi, wE_lrng1, wE_lrng2, wE_isi, wE_isx, wE_fld, wE_mt, wE_comp, wE_frz, wE_dnew, wEs_nil, wEs_cons, wO_none, wO_some, wC_val, wC_cmp, wC_chn, wC_not, wC_and, wC_or, wAndC_nil, wAndC_cons, wOrC_nil, wOrC_cons, wI_seq, wI_sgn, wI_rng1, wI_rng2, wI_enm, wI_zip2, wI_zip3, wS_asg, wS_par, wS_asgIx, wS_aug, wS_ex, wS_ret, wS_ret0, wS_ife, wS_whl, wS_fr, wS_rs, wS_never, wAdd_d, wMul_d, addKI, addKS, addKL, addKT, mulKI, mulKL, wSubI, wFdivI, wModI, wPowI, mkLt, mkLf, asgT_nm, asgT_tp, asgTs_nil, asgTs_cons, put_fn, put_glob, put_kc, frzKL, wCeq, wCne, wClt, wCle, wCleS, wCgt, wCge, wCis, wCisn, wCin, wCnin, wIn_d, inKS, inKL, inKTI, inKTS, inKD, wIx_d, ixKL, ixKT, ixKSc, ixKS, ixKD, wSlc_d, slcKL, slcKT, slcKS, wSet_h, wBIlen, wBIabs, wBIintI, wBIintB, wBIintS, wBIstrI, wBIstrS, wBIlist, wBItuple, wBIall, wBIany, wBImax1, wBImin1, wBIsum, wBIsorted, wBImin2, wBImax2, wMTappend, wMTpop, wMTclear, wMTjoin, wMTsplit, isRcvA, isRcvP, isRcvC, isRcvJ, isRcvSp, ex_lst, ex_lst0, b_shown_tree_1]
    refine ⟨by decide, wCp_map (fun d => match d with | .int i => .str (intD i) | d => d) trivial (fun x hx R hR => ?_) ⟨[sCut, num a, num b], rfl, ?_, h, hsub_refl h, ?_⟩⟩
    · have : x = .str sCut ∨ x = .int a ∨ x = .int b := by simpa using hx
      rcases this with rfl | rfl | rfl
      · exact hR
      · exact ⟨small_log ha, hR⟩
      · exact ⟨small_log hb, hR⟩
    · have h1 := num_len ha
      have h2 := num_len hb
      simp [sCut, lim_eq']; omega
    · have e : TL.joinL [32] [sCut, num a, num b] = (Tr.cut a b).txt := by
        simp [TL.joinL, Tr.txt]
      rw [e]; exact q
  | split k l r =>
    have hl' : l.txt.length + r.txt.length + (num k).length + 12 ≤ 10000 := by
      simp [Tr.txt, sSplit] at hl; omega
    have hd : max l.dep r.dep + 1 < n + 1 := hn
    try simp only [wSs_nil, wSs_cons, wAnd_one, wAnd_cons, wOr_one, wOr_cons, Tgs.len, eq_self, if_true, if_false, rsvN, rsvB, rsvI, rsvS, rsvT, rsvLs, rsvSc, rsvE, rsvH, isNonN, isNonB, isNonI, isNonS, isNonT, isNonL, isNonO, lenS, lenL, lenT, lenSc, seqL, seqT, kdN, kdB, kdI, kdS, kdT, kdL, Kd.isOf, br_t, br_f, itOk, VS.cellOf, wipeE, List.map_cons, List.map_nil, List.replicate_zero, List.replicate_succ, List.cons_append, List.nil_append, Nat.sub_self, Nat.reduceSub, Nat.reduceAdd, List.getElem?_cons_zero, List.getElem?_cons_succ, List.set_cons_zero, List.set_cons_succ, List.length_cons, List.length_nil, Option.some.injEq, exists_eq_left', exists_eq_left, exists_eq', exists_eq, D.int.injEq, D.bl.injEq, D.str.injEq, D.tup.injEq, D.lst.injEq, D.loc.injEq, List.cons.injEq, and_true, true_and, hup_same, ↓reduceIte, Nat.reduceLT, Nat.reduceEqDiff, reduceCtorEq, hup_hup, exists_and_left, Cell.lst.injEq, Nat.reduceLeDiff, Nat.zero_add, Bool.false_eq_true, ixN_ofNat, atI_ofNat, plnN, plnB, plnI, plnS, plnT, plnL, plns0, plnsC, depN, depB, depI, depS, depT, depL, deps0, depsC, eqbI, eqbS, eqbT, eqbL, eqbB, eqbs0, eqbsC, Nat.zero_le, br_not, Nat.max_zero, Nat.zero_max, Nat.max_self, Bool.and_true, Bool.true_and, Bool.not_true, Bool.not_false, beq_self_eq_true, wEq, wInL, wE_var, wE_cst, wE_glob, wE_bop, wE_neg, wE_not, wE_cmp, wE_chn, wE_andv, wE_orv, wE_ite, wE_tup, wE_lst, wE_ix, wE_slc, wE_rev, wE_call, wE_bi, wE_lrng1, wE_lrng2, wE_isi, wE_isx, wE_fld, wE_mt, wE_comp, wE_frz, wE_dnew, wEs_nil, wEs_cons, wO_none, wO_some, wC_val, wC_cmp, wC_chn, wC_not, wC_and, wC_or, wAndC_nil, wAndC_cons, wOrC_nil, wOrC_cons, wI_seq, wI_sgn, wI_rng1, wI_rng2, wI_enm, wI_zip2, wI_zip3, wS_asg, wS_par, wS_asgIx, wS_aug, wS_ex, wS_ret, wS_ret0, wS_ife, wS_whl, wS_fr, wS_rs, wS_never, wAdd_d, wMul_d, addKI, addKS, addKL, addKT, mulKI, mulKL, wSubI, wFdivI, wModI, wPowI, mkLt, mkLf, asgT_nm, asgT_tp, asgTs_nil, asgTs_cons, put_fn, put_glob, put_kc, frzKL, wCeq, wCne, wClt, wCle, wCleS, wCgt, wCge, wCis, wCisn, wCin, wCnin, wIn_d, inKS, inKL, inKTI, inKTS, inKD, wIx_d, ixKL, ixKT, ixKSc, ixKS, ixKD, wSlc_d, slcKL, slcKT, slcKS, wSet_h, wBIlen, wBIabs, wBIintI, wBIintB, wBIintS, wBIstrI, wBIstrS, wBIlist, wBItuple, wBIall, wBIany, wBImax1, wBImin1, wBIsum, wBIsorted, wBImin2, wBImax2, wMTappend, wMTpop, wMTclear, wMTjoin, wMTsplit, isRcvA, isRcvP, isRcvC, isRcvJ, isRcvSp, ex_lst, ex_lst0, b_shown_tree_0, Tr.d]
    refine br_yes rfl ?_
    have hnum : intD (k : Int) = num k := rfl
    have hlim : lim = 16777216 := rfl
    try simp only [wSs_nil, wSs_cons, wAnd_one, wAnd_cons, wOr_one, wOr_cons, Tgs.len, eq_self, if_true, if_false, rsvN, rsvB, rsvI, rsvS, rsvT, rsvLs, rsvSc, rsvE, rsvH, isNonN, isNonB, isNonI, isNonS, isNonT, isNonL, isNonO, lenS, lenL, lenT, lenSc, seqL, seqT, kdN, kdB, kdI, kdS, kdT, kdL, Kd.isOf, br_t, br_f, itOk, VS.cellOf, wipeE, List.map_cons, List.map_nil, List.replicate_zero, List.replicate_succ, List.cons_append, List.nil_append, Nat.sub_self, Nat.reduceSub, Nat.reduceAdd, List.getElem?_cons_zero, List.getElem?_cons_succ, List.set_cons_zero, List.set_cons_succ, List.length_cons, List.length_nil, Option.some.injEq, exists_eq_left', exists_eq_left, exists_eq', exists_eq, D.int.injEq, D.bl.injEq, D.str.injEq, D.tup.injEq, D.lst.injEq, D.loc.injEq, List.cons.injEq, and_true, true_and, hup_same, ↓reduceIte, Nat.reduceLT, Nat.reduceEqDiff, reduceCtorEq, hup_hup, exists_and_left, Cell.lst.injEq, Nat.reduceLeDiff, Nat.zero_add, Bool.false_eq_true, ixN_ofNat, atI_ofNat, plnN, plnB, plnI, plnS, plnT, plnL, plns0, plnsC, depN, depB, depI, depS, depT, depL, deps0, depsC, eqbI, eqbS, eqbT, eqbL, eqbB, eqbs0, eqbsC, Nat.zero_le, br_not, Nat.max_zero, Nat.zero_max, Nat.max_self, Bool.and_true, Bool.true_and, Bool.not_true, Bool.not_false, beq_self_eq_true, wEq, wInL, wE_var, wE_cst, wE_glob, wE_bop, wE_neg, wE_not, wE_cmp, wE_chn, wE_andv, wE_orv, wE_ite, wE_tup, wE_lst, wE_ix, wE_slc, wE_rev, wE_call, wE_bi, wE_lrng1, wE_lrng2, wE_isi, wE_isx, wE_fld, wE_mt, wE_comp, wE_frz, wE_dnew, wEs_nil, wEs_cons, wO_none, wO_some, wC_val, wC_cmp, wC_chn, wC_not, wC_and, wC_or, wAndC_nil, wAndC_cons, wOrC_nil, wOrC_cons, wI_seq, wI_sgn, wI_rng1, wI_rng2, wI_enm, wI_zip2, wI_zip3, wS_asg, wS_par, wS_asgIx, wS_aug, wS_ex, wS_ret, wS_ret0, wS_ife, wS_whl, wS_fr, wS_rs, wS_never, wAdd_d, wMul_d, addKI, addKS, addKL, addKT, mulKI, mulKL, wSubI, wFdivI, wModI, wPowI, mkLt, mkLf, asgT_nm, asgT_tp, asgTs_nil, asgTs_cons, put_fn, put_glob, put_kc, frzKL, wCeq, wCne, wClt, wCle, wCleS, wCgt, wCge, wCis, wCisn, wCin, wCnin, wIn_d, inKS, inKL, inKTI, inKTS, inKD, wIx_d, ixKL, ixKT, ixKSc, ixKS, ixKD, wSlc_d, slcKL, slcKT, slcKS, wSet_h, wBIlen, wBIabs, wBIintI, wBIintB, wBIintS, wBIstrI, wBIstrS, wBIlist, wBItuple, wBIall, wBIany, wBImax1, wBImin1, wBIsum, wBIsorted, wBImin2, wBImax2, wMTappend, wMTpop, wMTclear, wMTjoin, wMTsplit, isRcvA, isRcvP, isRcvC, isRcvJ, isRcvSp, ex_lst, ex_lst0, b_shown_tree_0a_0, wAdd_d, hnum]
    refine ⟨small_log ok.1, by (try simp); omega, by (try simp); omega, l, ok.2.1, by omega, by omega, rfl, ?_⟩
    try simp only [wSs_nil, wSs_cons, wAnd_one, wAnd_cons, wOr_one, wOr_cons, Tgs.len, eq_self, if_true, if_false, rsvN, rsvB, rsvI, rsvS, rsvT, rsvLs, rsvSc, rsvE, rsvH, isNonN, isNonB, isNonI, isNonS, isNonT, isNonL, isNonO, lenS, lenL, lenT, lenSc, seqL, seqT, kdN, kdB, kdI, kdS, kdT, kdL, Kd.isOf, br_t, br_f, itOk, VS.cellOf, wipeE, List.map_cons, List.map_nil, List.replicate_zero, List.replicate_succ, List.cons_append, List.nil_append, Nat.sub_self, Nat.reduceSub, Nat.reduceAdd, List.getElem?_cons_zero, List.getElem?_cons_succ, List.set_cons_zero, List.set_cons_succ, List.length_cons, List.length_nil, Option.some.injEq, exists_eq_left', exists_eq_left, exists_eq', exists_eq, D.int.injEq, D.bl.injEq, D.str.injEq, D.tup.injEq, D.lst.injEq, D.loc.injEq, List.cons.injEq, and_true, true_and, hup_same, ↓reduceIte, Nat.reduceLT, Nat.reduceEqDiff, reduceCtorEq, hup_hup, exists_and_left, Cell.lst.injEq, Nat.reduceLeDiff, Nat.zero_add, Bool.false_eq_true, ixN_ofNat, atI_ofNat, plnN, plnB, plnI, plnS, plnT, plnL, plns0, plnsC, depN, depB, depI, depS, depT, depL, deps0, depsC, eqbI, eqbS, eqbT, eqbL, eqbB, eqbs0, eqbsC, Nat.zero_le, br_not, Nat.max_zero, Nat.zero_max, Nat.max_self, Bool.and_true, Bool.true_and, Bool.not_true, Bool.not_false, beq_self_eq_true, wEq, wInL, wE_var, wE_cst, wE_glob, wE_bop, wE_neg, wE_not, wE_cmp, wE_chn, wE_andv, wE_orv, wE_ite, wE_tup, wE_lst, wE_ix, wE_slc, wE_rev, wE_call, wE_bi, wE_lrng1, wE_lrng2, wE_isi, wE_isx, wE_fld, wE_mt, wE_comp, wE_frz, wE_dnew, wEs_nil, wEs_cons, wO_none, wO_some, wC_val, wC_cmp, wC_chn, wC_not, wC_and, wC_or, wAndC_nil, wAndC_cons, wOrC_nil, wOrC_cons, wI_seq, wI_sgn, wI_rng1, wI_rng2, wI_enm, wI_zip2, wI_zip3, wS_asg, wS_par, wS_asgIx, wS_aug, wS_ex, wS_ret, wS_ret0, wS_ife, wS_whl, wS_fr, wS_rs, wS_never, wAdd_d, wMul_d, addKI, addKS, addKL, addKT, mulKI, mulKL, wSubI, wFdivI, wModI, wPowI, mkLt, mkLf, asgT_nm, asgT_tp, asgTs_nil, asgTs_cons, put_fn, put_glob, put_kc, frzKL, wCeq, wCne, wClt, wCle, wCleS, wCgt, wCge, wCis, wCisn, wCin, wCnin, wIn_d, inKS, inKL, inKTI, inKTS, inKD, wIx_d, ixKL, ixKT, ixKSc, ixKS, ixKD, wSlc_d, slcKL, slcKT, slcKS, wSet_h, wBIlen, wBIabs, wBIintI, wBIintB, wBIintS, wBIstrI, wBIstrS, wBIlist, wBItuple, wBIall, wBIany, wBImax1, wBImin1, wBIsum, wBIsorted, wBImin2, wBImax2, wMTappend, wMTpop, wMTclear, wMTjoin, wMTsplit, isRcvA, isRcvP, isRcvC, isRcvJ, isRcvSp, ex_lst, ex_lst0, hnum]
    refine ⟨by (try simp); omega, by (try simp); omega, r, ok.2.2, by omega, by omega, rfl, ?_⟩
    try simp only [wSs_nil, wSs_cons, wAnd_one, wAnd_cons, wOr_one, wOr_cons, Tgs.len, eq_self, if_true, if_false, rsvN, rsvB, rsvI, rsvS, rsvT, rsvLs, rsvSc, rsvE, rsvH, isNonN, isNonB, isNonI, isNonS, isNonT, isNonL, isNonO, lenS, lenL, lenT, lenSc, seqL, seqT, kdN, kdB, kdI, kdS, kdT, kdL, Kd.isOf, br_t, br_f, itOk, VS.cellOf, wipeE, List.map_cons, List.map_nil, List.replicate_zero, List.replicate_succ, List.cons_append, List.nil_append, Nat.sub_self, Nat.reduceSub, Nat.reduceAdd, List.getElem?_cons_zero, List.getElem?_cons_succ, List.set_cons_zero, List.set_cons_succ, List.length_cons, List.length_nil, Option.some.injEq, exists_eq_left', exists_eq_left, exists_eq', exists_eq, D.int.injEq, D.bl.injEq, D.str.injEq, D.tup.injEq, D.lst.injEq, D.loc.injEq, List.cons.injEq, and_true, true_and, hup_same, ↓reduceIte, Nat.reduceLT, Nat.reduceEqDiff, reduceCtorEq, hup_hup, exists_and_left, Cell.lst.injEq, Nat.reduceLeDiff, Nat.zero_add, Bool.false_eq_true, ixN_ofNat, atI_ofNat, plnN, plnB, plnI, plnS, plnT, plnL, plns0, plnsC, depN, depB, depI, depS, depT, depL, deps0, depsC, eqbI, eqbS, eqbT, eqbL, eqbB, eqbs0, eqbsC, Nat.zero_le, br_not, Nat.max_zero, Nat.zero_max, Nat.max_self, Bool.and_true, Bool.true_and, Bool.not_true, Bool.not_false, beq_self_eq_true, wEq, wInL, wE_var, wE_cst, wE_glob, wE_bop, wE_neg, wE_not, wE_cmp, wE_chn, wE_andv, wE_orv, wE_ite, wE_tup, wE_lst, wE_ix, wE_slc, wE_rev, wE_call, wE_bi, wE_lrng1, wE_lrng2, wE_isi, wE_isx, wE_fld, wE_mt, wE_comp, wE_frz, wE_dnew, wEs_nil, wEs_cons, wO_none, wO_some, wC_val, wC_cmp, wC_chn, wC_not, wC_and, wC_or, wAndC_nil, wAndC_cons, wOrC_nil, wOrC_cons, wI_seq, wI_sgn, wI_rng1, wI_rng2, wI_enm, wI_zip2, wI_zip3, wS_asg, wS_par, wS_asgIx, wS_aug, wS_ex, wS_ret, wS_ret0, wS_ife, wS_whl, wS_fr, wS_rs, wS_never, wAdd_d, wMul_d, addKI, addKS, addKL, addKT, mulKI, mulKL, wSubI, wFdivI, wModI, wPowI, mkLt, mkLf, asgT_nm, asgT_tp, asgTs_nil, asgTs_cons, put_fn, put_glob, put_kc, frzKL, wCeq, wCne, wClt, wCle, wCleS, wCgt, wCge, wCis, wCisn, wCin, wCnin, wIn_d, inKS, inKL, inKTI, inKTS, inKD, wIx_d, ixKL, ixKT, ixKSc, ixKS, ixKD, wSlc_d, slcKL, slcKT, slcKS, wSet_h, wBIlen, wBIabs, wBIintI, wBIintB, wBIintS, wBIstrI, wBIstrS, wBIlist, wBItuple, wBIall, wBIany, wBImax1, wBImin1, wBIsum, wBIsorted, wBImin2, wBImax2, wMTappend, wMTpop, wMTclear, wMTjoin, wMTsplit, isRcvA, isRcvP, isRcvC, isRcvJ, isRcvSp, ex_lst, ex_lst0, hnum]
    refine ⟨by (try simp); omega, by (try simp); omega, h, hsub_refl h, ?_⟩
    have e : ((((([115, 112, 108, 105, 116, 32] ++ num k) ++ [32, 91]) ++ l.txt) ++ [32, 124, 32]) ++ r.txt) ++ [93] = (Tr.split k l r).txt := by
      simp [Tr.txt, sSplit]
    rw [← e] at q; exact q
end K78

set_option Elab.async false
set_option linter.all false
set_option maxRecDepth 100000
set_option maxHeartbeats 4000000
namespace K78
open PySem PySem.Spec PyProof.Rows L2 VS
def dlm (c : Nat) : Prop := c = 32 ∨ c = 93
def Dl (r : List Nat) : Prop := r = [] ∨ ∃ c r', r = c :: r' ∧ dlm c
def sp_word : VSp := fun ds h Q _ => ∃ p w r : List Nat, (p ++ w ++ r).length ≤ lim ∧ (∀ c ∈ w, ¬ dlm c) ∧ Dl r ∧ ds = [.str (p ++ w ++ r), .int (p.length : Nat)] ∧ Q (.str w) h
theorem atI_mid {α : Type} {p r : List α} {c : α} : VS.atI (p ++ c :: r) (p.length : Int) = some c := by
  rw [atI_nat (n := p.length) rfl (by simp)]; simp
theorem cutL_mid {α : Type} {p w r : List α} {i j : Nat} (hi : i = p.length) (hj : j = p.length + w.length) : VS.cutL (p ++ w ++ r) (some (i : Int)) (some (j : Int)) = w := by
  subst hi hj
  rw [cutL_nat (by simp) (by simp)]
  simp [List.append_assoc]
theorem l_word (T : Tab) : ∀ ds h Q X, sp_word ds h Q X → wSs T d_word_at.body (ds.map some ++ List.replicate (d_word_at.N.length - ds.length) none) h ⟨fun _ h1 => Q .non h1, Q, fun c fs _ h1 => X c fs h1⟩ := by
  rintro ds h Q X ⟨p, w, r, hl, hw, hr, rfl, q⟩
  show wSs T b_word_at_0 [some (.str (p ++ w ++ r)), some (.int p.length), none] h _
  try simp only [wSs_nil, wSs_cons, wAnd_one, wAnd_cons, wOr_one, wOr_cons, Tgs.len, eq_self, if_true, if_false, rsvN, rsvB, rsvI, rsvS, rsvT, rsvLs, rsvSc, rsvE, rsvH, isNonN, isNonB, isNonI, isNonS, isNonT, isNonL, isNonO, lenS, lenL, lenT, lenSc, seqL, seqT, kdN, kdB, kdI, kdS, kdT, kdL, Kd.isOf, br_t, br_f, itOk, VS.cellOf, wipeE, List.map_cons, List.map_nil, List.replicate_zero, List.replicate_succ, List.cons_append, List.nil_append, Nat.sub_self, Nat.reduceSub, Nat.reduceAdd, List.getElem?_cons_zero, List.getElem?_cons_succ, List.set_cons_zero, List.set_cons_succ, List.length_cons, List.length_nil, Option.some.injEq, exists_eq_left', exists_eq_left, exists_eq', exists_eq, D.int.injEq, D.bl.injEq, D.str.injEq, D.tup.injEq, D.lst.injEq, D.loc.injEq, List.cons.injEq, and_true, true_and, hup_same, ↓reduceIte, Nat.reduceLT, Nat.reduceEqDiff, reduceCtorEq, hup_hup, exists_and_left, Cell.lst.injEq, Nat.reduceLeDiff, Nat.zero_add, Bool.false_eq_true, ixN_ofNat, atI_ofNat, plnN, plnB, plnI, plnS, plnT, plnL, plns0, plnsC, depN, depB, depI, depS, depT, depL, deps0, depsC, eqbI, eqbS, eqbT, eqbL, eqbB, eqbs0, eqbsC, Nat.zero_le, br_not, Nat.max_zero, Nat.zero_max, Nat.max_self, Bool.and_true, Bool.true_and, Bool.not_true, Bool.not_false, beq_self_eq_true, wEq, wInL, wE_var, wE_cst, wE_glob, wE_bop, wE_neg, wE_not, wE_cmp, wE_chn, wE_andv, wE_orv, wE_ite, wE_tup, wE_lst, wE_ix, wE_slc, wE_rev, wE_call, wE_bi, wE_lrng1, wE_lrng2, wE_isi, wE_isx, wE_fld, wE_mt, wE_comp, wE_frz, wE_dnew, wEs_nil, wEs_cons, wO_none, wO_some, wC_val, wC_cmp, wC_chn, wC_not, wC_and, wC_or, wAndC_nil, wAndC_cons, wOrC_nil, wOrC_cons, wI_seq, wI_sgn, wI_rng1, wI_rng2, wI_enm, wI_zip2, wI_zip3, wS_asg, wS_par, wS_asgIx, wS_aug, wS_ex, wS_ret, wS_ret0, wS_ife, wS_whl, wS_fr, wS_rs, wS_never, wAdd_d, wMul_d, addKI, addKS, addKL, addKT, mulKI, mulKL, wSubI, wFdivI, wModI, wPowI, mkLt, mkLf, asgT_nm, asgT_tp, asgTs_nil, asgTs_cons, put_fn, put_glob, put_kc, frzKL, wCeq, wCne, wClt, wCle, wCleS, wCgt, wCge, wCis, wCisn, wCin, wCnin, wIn_d, inKS, inKL, inKTI, inKTS, inKD, wIx_d, ixKL, ixKT, ixKSc, ixKS, ixKD, wSlc_d, slcKL, slcKT, slcKS, wSet_h, wBIlen, wBIabs, wBIintI, wBIintB, wBIintS, wBIstrI, wBIstrS, wBIlist, wBItuple, wBIall, wBIany, wBImax1, wBImin1, wBIsum, wBIsorted, wBImin2, wBImax2, wMTappend, wMTpop, wMTclear, wMTjoin, wMTsplit, isRcvA, isRcvP, isRcvC, isRcvJ, isRcvSp, ex_lst, ex_lst0, b_word_at_0, b_word_at_1]
  refine wWhl_ind (fun n r' h' => h' = h ∧ ∃ u v : List Nat, w = u ++ v ∧ n = v.length ∧ r' = [some (.str (p ++ w ++ r)), some (.int p.length), some (.int ((p.length + u.length : Nat)))]) ?_ (n := w.length) ⟨rfl, [], w, rfl, rfl, rfl⟩
  rintro n r' h' N ⟨rfl, u, v, e, rfl, rfl⟩ hN
  try simp only [wSs_nil, wSs_cons, wAnd_one, wAnd_cons, wOr_one, wOr_cons, Tgs.len, eq_self, if_true, if_false, rsvN, rsvB, rsvI, rsvS, rsvT, rsvLs, rsvSc, rsvE, rsvH, isNonN, isNonB, isNonI, isNonS, isNonT, isNonL, isNonO, lenS, lenL, lenT, lenSc, seqL, seqT, kdN, kdB, kdI, kdS, kdT, kdL, Kd.isOf, br_t, br_f, itOk, VS.cellOf, wipeE, List.map_cons, List.map_nil, List.replicate_zero, List.replicate_succ, List.cons_append, List.nil_append, Nat.sub_self, Nat.reduceSub, Nat.reduceAdd, List.getElem?_cons_zero, List.getElem?_cons_succ, List.set_cons_zero, List.set_cons_succ, List.length_cons, List.length_nil, Option.some.injEq, exists_eq_left', exists_eq_left, exists_eq', exists_eq, D.int.injEq, D.bl.injEq, D.str.injEq, D.tup.injEq, D.lst.injEq, D.loc.injEq, List.cons.injEq, and_true, true_and, hup_same, ↓reduceIte, Nat.reduceLT, Nat.reduceEqDiff, reduceCtorEq, hup_hup, exists_and_left, Cell.lst.injEq, Nat.reduceLeDiff, Nat.zero_add, Bool.false_eq_true, ixN_ofNat, atI_ofNat, plnN, plnB, plnI, plnS, plnT, plnL, plns0, plnsC, depN, depB, depI, depS, depT, depL, deps0, depsC, eqbI, eqbS, eqbT, eqbL, eqbB, eqbs0, eqbsC, Nat.zero_le, br_not, Nat.max_zero, Nat.zero_max, Nat.max_self, Bool.and_true, Bool.true_and, Bool.not_true, Bool.not_false, beq_self_eq_true, wEq, wInL, wE_var, wE_cst, wE_glob, wE_bop, wE_neg, wE_not, wE_cmp, wE_chn, wE_andv, wE_orv, wE_ite, wE_tup, wE_lst, wE_ix, wE_slc, wE_rev, wE_call, wE_bi, wE_lrng1, wE_lrng2, wE_isi, wE_isx, wE_fld, wE_mt, wE_comp, wE_frz, wE_dnew, wEs_nil, wEs_cons, wO_none, wO_some, wC_val, wC_cmp, wC_chn, wC_not, wC_and, wC_or, wAndC_nil, wAndC_cons, wOrC_nil, wOrC_cons, wI_seq, wI_sgn, wI_rng1, wI_rng2, wI_enm, wI_zip2, wI_zip3, wS_asg, wS_par, wS_asgIx, wS_aug, wS_ex, wS_ret, wS_ret0, wS_ife, wS_whl, wS_fr, wS_rs, wS_never, wAdd_d, wMul_d, addKI, addKS, addKL, addKT, mulKI, mulKL, wSubI, wFdivI, wModI, wPowI, mkLt, mkLf, asgT_nm, asgT_tp, asgTs_nil, asgTs_cons, put_fn, put_glob, put_kc, frzKL, wCeq, wCne, wClt, wCle, wCleS, wCgt, wCge, wCis, wCisn, wCin, wCnin, wIn_d, inKS, inKL, inKTI, inKTS, inKD, wIx_d, ixKL, ixKT, ixKSc, ixKS, ixKD, wSlc_d, slcKL, slcKT, slcKS, wSet_h, wBIlen, wBIabs, wBIintI, wBIintB, wBIintS, wBIstrI, wBIstrS, wBIlist, wBItuple, wBIall, wBIany, wBImax1, wBImin1, wBIsum, wBIsorted, wBImin2, wBImax2, wMTappend, wMTpop, wMTclear, wMTjoin, wMTsplit, isRcvA, isRcvP, isRcvC, isRcvJ, isRcvSp, ex_lst, ex_lst0]
  refine ⟨hl, ?_⟩
  have fin : wSs T b_word_at_2 [some (.str (p ++ w ++ r)), some (.int p.length), some (.int ((p.length + w.length : Nat)))] h' ⟨fun _ h1 => Q .non h1, Q, fun c fs _ h1 => X c fs h1⟩ := by
    try simp only [wSs_nil, wSs_cons, wAnd_one, wAnd_cons, wOr_one, wOr_cons, Tgs.len, eq_self, if_true, if_false, rsvN, rsvB, rsvI, rsvS, rsvT, rsvLs, rsvSc, rsvE, rsvH, isNonN, isNonB, isNonI, isNonS, isNonT, isNonL, isNonO, lenS, lenL, lenT, lenSc, seqL, seqT, kdN, kdB, kdI, kdS, kdT, kdL, Kd.isOf, br_t, br_f, itOk, VS.cellOf, wipeE, List.map_cons, List.map_nil, List.replicate_zero, List.replicate_succ, List.cons_append, List.nil_append, Nat.sub_self, Nat.reduceSub, Nat.reduceAdd, List.getElem?_cons_zero, List.getElem?_cons_succ, List.set_cons_zero, List.set_cons_succ, List.length_cons, List.length_nil, Option.some.injEq, exists_eq_left', exists_eq_left, exists_eq', exists_eq, D.int.injEq, D.bl.injEq, D.str.injEq, D.tup.injEq, D.lst.injEq, D.loc.injEq, List.cons.injEq, and_true, true_and, hup_same, ↓reduceIte, Nat.reduceLT, Nat.reduceEqDiff, reduceCtorEq, hup_hup, exists_and_left, Cell.lst.injEq, Nat.reduceLeDiff, Nat.zero_add, Bool.false_eq_true, ixN_ofNat, atI_ofNat, plnN, plnB, plnI, plnS, plnT, plnL, plns0, plnsC, depN, depB, depI, depS, depT, depL, deps0, depsC, eqbI, eqbS, eqbT, eqbL, eqbB, eqbs0, eqbsC, Nat.zero_le, br_not, Nat.max_zero, Nat.zero_max, Nat.max_self, Bool.and_true, Bool.true_and, Bool.not_true, Bool.not_false, beq_self_eq_true, wEq, wInL, wE_var, wE_cst, wE_glob, wE_bop, wE_neg, wE_not, wE_cmp, wE_chn, wE_andv, wE_orv, wE_ite, wE_tup, wE_lst, wE_ix, wE_slc, wE_rev, wE_call, wE_bi, wE_lrng1, wE_lrng2, wE_isi, wE_isx, wE_fld, wE_mt, wE_comp, wE_frz, wE_dnew, wEs_nil, wEs_cons, wO_none, wO_some, wC_val, wC_cmp, wC_chn, wC_not, wC_and, wC_or, wAndC_nil, wAndC_cons, wOrC_nil, wOrC_cons, wI_seq, wI_sgn, wI_rng1, wI_rng2, wI_enm, wI_zip2, wI_zip3, wS_asg, wS_par, wS_asgIx, wS_aug, wS_ex, wS_ret, wS_ret0, wS_ife, wS_whl, wS_fr, wS_rs, wS_never, wAdd_d, wMul_d, addKI, addKS, addKL, addKT, mulKI, mulKL, wSubI, wFdivI, wModI, wPowI, mkLt, mkLf, asgT_nm, asgT_tp, asgTs_nil, asgTs_cons, put_fn, put_glob, put_kc, frzKL, wCeq, wCne, wClt, wCle, wCleS, wCgt, wCge, wCis, wCisn, wCin, wCnin, wIn_d, inKS, inKL, inKTI, inKTS, inKD, wIx_d, ixKL, ixKT, ixKSc, ixKS, ixKD, wSlc_d, slcKL, slcKT, slcKS, wSet_h, wBIlen, wBIabs, wBIintI, wBIintB, wBIintS, wBIstrI, wBIstrS, wBIlist, wBItuple, wBIall, wBIany, wBImax1, wBImin1, wBIsum, wBIsorted, wBImin2, wBImax2, wMTappend, wMTpop, wMTclear, wMTjoin, wMTsplit, isRcvA, isRcvP, isRcvC, isRcvJ, isRcvSp, ex_lst, ex_lst0, b_word_at_2]
    refine ⟨hl, h', hsub_refl _, ?_⟩
    rw [cutL_mid rfl rfl]
    exact q
  cases v with
  | nil =>
    have ew : u = w := by simpa using e.symm
    subst ew
    rcases hr with rfl | ⟨c, r', rfl, hc⟩
    · exact br_no (decide_eq_false (by simp)) fin
    · refine br_yes (decide_eq_true (by (try simp); omega)) ⟨hl, c, ?_, ?_⟩
      · rw [show (p.length + u.length : Nat) = (p ++ u).length by simp]
        exact atI_mid
      · try simp only [wSs_nil, wSs_cons, wAnd_one, wAnd_cons, wOr_one, wOr_cons, Tgs.len, eq_self, if_true, if_false, rsvN, rsvB, rsvI, rsvS, rsvT, rsvLs, rsvSc, rsvE, rsvH, isNonN, isNonB, isNonI, isNonS, isNonT, isNonL, isNonO, lenS, lenL, lenT, lenSc, seqL, seqT, kdN, kdB, kdI, kdS, kdT, kdL, Kd.isOf, br_t, br_f, itOk, VS.cellOf, wipeE, List.map_cons, List.map_nil, List.replicate_zero, List.replicate_succ, List.cons_append, List.nil_append, Nat.sub_self, Nat.reduceSub, Nat.reduceAdd, List.getElem?_cons_zero, List.getElem?_cons_succ, List.set_cons_zero, List.set_cons_succ, List.length_cons, List.length_nil, Option.some.injEq, exists_eq_left', exists_eq_left, exists_eq', exists_eq, D.int.injEq, D.bl.injEq, D.str.injEq, D.tup.injEq, D.lst.injEq, D.loc.injEq, List.cons.injEq, and_true, true_and, hup_same, ↓reduceIte, Nat.reduceLT, Nat.reduceEqDiff, reduceCtorEq, hup_hup, exists_and_left, Cell.lst.injEq, Nat.reduceLeDiff, Nat.zero_add, Bool.false_eq_true, ixN_ofNat, atI_ofNat, plnN, plnB, plnI, plnS, plnT, plnL, plns0, plnsC, depN, depB, depI, depS, depT, depL, deps0, depsC, eqbI, eqbS, eqbT, eqbL, eqbB, eqbs0, eqbsC, Nat.zero_le, br_not, Nat.max_zero, Nat.zero_max, Nat.max_self, Bool.and_true, Bool.true_and, Bool.not_true, Bool.not_false, beq_self_eq_true, wEq, wInL, wE_var, wE_cst, wE_glob, wE_bop, wE_neg, wE_not, wE_cmp, wE_chn, wE_andv, wE_orv, wE_ite, wE_tup, wE_lst, wE_ix, wE_slc, wE_rev, wE_call, wE_bi, wE_lrng1, wE_lrng2, wE_isi, wE_isx, wE_fld, wE_mt, wE_comp, wE_frz, wE_dnew, wEs_nil, wEs_cons, wO_none, wO_some, wC_val, wC_cmp, wC_chn, wC_not, wC_and, wC_or, wAndC_nil, wAndC_cons, wOrC_nil, wOrC_cons, wI_seq, wI_sgn, wI_rng1, wI_rng2, wI_enm, wI_zip2, wI_zip3, wS_asg, wS_par, wS_asgIx, wS_aug, wS_ex, wS_ret, wS_ret0, wS_ife, wS_whl, wS_fr, wS_rs, wS_never, wAdd_d, wMul_d, addKI, addKS, addKL, addKT, mulKI, mulKL, wSubI, wFdivI, wModI, wPowI, mkLt, mkLf, asgT_nm, asgT_tp, asgTs_nil, asgTs_cons, put_fn, put_glob, put_kc, frzKL, wCeq, wCne, wClt, wCle, wCleS, wCgt, wCge, wCis, wCisn, wCin, wCnin, wIn_d, inKS, inKL, inKTI, inKTS, inKD, wIx_d, ixKL, ixKT, ixKSc, ixKS, ixKD, wSlc_d, slcKL, slcKT, slcKS, wSet_h, wBIlen, wBIabs, wBIintI, wBIintB, wBIintS, wBIstrI, wBIstrS, wBIlist, wBItuple, wBIall, wBIany, wBImax1, wBImin1, wBIsum, wBIsorted, wBImin2, wBImax2, wMTappend, wMTpop, wMTclear, wMTjoin, wMTsplit, isRcvA, isRcvP, isRcvC, isRcvJ, isRcvSp, ex_lst, ex_lst0]
        refine br_yes (decide_eq_true ?_) fin
        rcases hc with rfl | rfl <;> simp
  | cons c v =>
    subst e
    have hc : ¬ dlm c := hw c (by simp)
    refine br_yes (decide_eq_true (by (try simp); omega)) ⟨hl, c, ?_, ?_⟩
    · rw [show (p.length + u.length : Nat) = (p ++ u).length by simp, show p ++ (u ++ c :: v) ++ r = (p ++ u) ++ c :: (v ++ r) by simp]
      exact atI_mid
    · try simp only [wSs_nil, wSs_cons, wAnd_one, wAnd_cons, wOr_one, wOr_cons, Tgs.len, eq_self, if_true, if_false, rsvN, rsvB, rsvI, rsvS, rsvT, rsvLs, rsvSc, rsvE, rsvH, isNonN, isNonB, isNonI, isNonS, isNonT, isNonL, isNonO, lenS, lenL, lenT, lenSc, seqL, seqT, kdN, kdB, kdI, kdS, kdT, kdL, Kd.isOf, br_t, br_f, itOk, VS.cellOf, wipeE, List.map_cons, List.map_nil, List.replicate_zero, List.replicate_succ, List.cons_append, List.nil_append, Nat.sub_self, Nat.reduceSub, Nat.reduceAdd, List.getElem?_cons_zero, List.getElem?_cons_succ, List.set_cons_zero, List.set_cons_succ, List.length_cons, List.length_nil, Option.some.injEq, exists_eq_left', exists_eq_left, exists_eq', exists_eq, D.int.injEq, D.bl.injEq, D.str.injEq, D.tup.injEq, D.lst.injEq, D.loc.injEq, List.cons.injEq, and_true, true_and, hup_same, ↓reduceIte, Nat.reduceLT, Nat.reduceEqDiff, reduceCtorEq, hup_hup, exists_and_left, Cell.lst.injEq, Nat.reduceLeDiff, Nat.zero_add, Bool.false_eq_true, ixN_ofNat, atI_ofNat, plnN, plnB, plnI, plnS, plnT, plnL, plns0, plnsC, depN, depB, depI, depS, depT, depL, deps0, depsC, eqbI, eqbS, eqbT, eqbL, eqbB, eqbs0, eqbsC, Nat.zero_le, br_not, Nat.max_zero, Nat.zero_max, Nat.max_self, Bool.and_true, Bool.true_and, Bool.not_true, Bool.not_false, beq_self_eq_true, wEq, wInL, wE_var, wE_cst, wE_glob, wE_bop, wE_neg, wE_not, wE_cmp, wE_chn, wE_andv, wE_orv, wE_ite, wE_tup, wE_lst, wE_ix, wE_slc, wE_rev, wE_call, wE_bi, wE_lrng1, wE_lrng2, wE_isi, wE_isx, wE_fld, wE_mt, wE_comp, wE_frz, wE_dnew, wEs_nil, wEs_cons, wO_none, wO_some, wC_val, wC_cmp, wC_chn, wC_not, wC_and, wC_or, wAndC_nil, wAndC_cons, wOrC_nil, wOrC_cons, wI_seq, wI_sgn, wI_rng1, wI_rng2, wI_enm, wI_zip2, wI_zip3, wS_asg, wS_par, wS_asgIx, wS_aug, wS_ex, wS_ret, wS_ret0, wS_ife, wS_whl, wS_fr, wS_rs, wS_never, wAdd_d, wMul_d, addKI, addKS, addKL, addKT, mulKI, mulKL, wSubI, wFdivI, wModI, wPowI, mkLt, mkLf, asgT_nm, asgT_tp, asgTs_nil, asgTs_cons, put_fn, put_glob, put_kc, frzKL, wCeq, wCne, wClt, wCle, wCleS, wCgt, wCge, wCis, wCisn, wCin, wCnin, wIn_d, inKS, inKL, inKTI, inKTS, inKD, wIx_d, ixKL, ixKT, ixKSc, ixKS, ixKD, wSlc_d, slcKL, slcKT, slcKS, wSet_h, wBIlen, wBIabs, wBIintI, wBIintB, wBIintS, wBIstrI, wBIstrS, wBIlist, wBItuple, wBIall, wBIany, wBImax1, wBImin1, wBIsum, wBIsorted, wBImin2, wBImax2, wMTappend, wMTpop, wMTclear, wMTjoin, wMTsplit, isRcvA, isRcvP, isRcvC, isRcvJ, isRcvSp, ex_lst, ex_lst0]
      refine br_no (decide_eq_false ?_) ?_
      · intro hm
        apply hc
        simpa [dlm] using hm
      · try simp only [wSs_nil, wSs_cons, wAnd_one, wAnd_cons, wOr_one, wOr_cons, Tgs.len, eq_self, if_true, if_false, rsvN, rsvB, rsvI, rsvS, rsvT, rsvLs, rsvSc, rsvE, rsvH, isNonN, isNonB, isNonI, isNonS, isNonT, isNonL, isNonO, lenS, lenL, lenT, lenSc, seqL, seqT, kdN, kdB, kdI, kdS, kdT, kdL, Kd.isOf, br_t, br_f, itOk, VS.cellOf, wipeE, List.map_cons, List.map_nil, List.replicate_zero, List.replicate_succ, List.cons_append, List.nil_append, Nat.sub_self, Nat.reduceSub, Nat.reduceAdd, List.getElem?_cons_zero, List.getElem?_cons_succ, List.set_cons_zero, List.set_cons_succ, List.length_cons, List.length_nil, Option.some.injEq, exists_eq_left', exists_eq_left, exists_eq', exists_eq, D.int.injEq, D.bl.injEq, D.str.injEq, D.tup.injEq, D.lst.injEq, D.loc.injEq, List.cons.injEq, and_true, true_and, hup_same, ↓reduceIte, Nat.reduceLT, Nat.reduceEqDiff, reduceCtorEq, hup_hup, exists_and_left, Cell.lst.injEq, Nat.reduceLeDiff, Nat.zero_add, Bool.false_eq_true, ixN_ofNat, atI_ofNat, plnN, plnB, plnI, plnS, plnT, plnL, plns0, plnsC, depN, depB, depI, depS, depT, depL, deps0, depsC, eqbI, eqbS, eqbT, eqbL, eqbB, eqbs0, eqbsC, Nat.zero_le, br_not, Nat.max_zero, Nat.zero_max, Nat.max_self, Bool.and_true, Bool.true_and, Bool.not_true, Bool.not_false, beq_self_eq_true, wEq, wInL, wE_var, wE_cst, wE_glob, wE_bop, wE_neg, wE_not, wE_cmp, wE_chn, wE_andv, wE_orv, wE_ite, wE_tup, wE_lst, wE_ix, wE_slc, wE_rev, wE_call, wE_bi, wE_lrng1, wE_lrng2, wE_isi, wE_isx, wE_fld, wE_mt, wE_comp, wE_frz, wE_dnew, wEs_nil, wEs_cons, wO_none, wO_some, wC_val, wC_cmp, wC_chn, wC_not, wC_and, wC_or, wAndC_nil, wAndC_cons, wOrC_nil, wOrC_cons, wI_seq, wI_sgn, wI_rng1, wI_rng2, wI_enm, wI_zip2, wI_zip3, wS_asg, wS_par, wS_asgIx, wS_aug, wS_ex, wS_ret, wS_ret0, wS_ife, wS_whl, wS_fr, wS_rs, wS_never, wAdd_d, wMul_d, addKI, addKS, addKL, addKT, mulKI, mulKL, wSubI, wFdivI, wModI, wPowI, mkLt, mkLf, asgT_nm, asgT_tp, asgTs_nil, asgTs_cons, put_fn, put_glob, put_kc, frzKL, wCeq, wCne, wClt, wCle, wCleS, wCgt, wCge, wCis, wCisn, wCin, wCnin, wIn_d, inKS, inKL, inKTI, inKTS, inKD, wIx_d, ixKL, ixKT, ixKSc, ixKS, ixKD, wSlc_d, slcKL, slcKT, slcKS, wSet_h, wBIlen, wBIabs, wBIintI, wBIintB, wBIintS, wBIstrI, wBIstrS, wBIlist, wBItuple, wBIall, wBIany, wBImax1, wBImin1, wBIsum, wBIsorted, wBImin2, wBImax2, wMTappend, wMTpop, wMTclear, wMTjoin, wMTsplit, isRcvA, isRcvP, isRcvC, isRcvJ, isRcvSp, ex_lst, ex_lst0, b_word_at_1a_0]
        refine hN v.length _ _ (by simp) ⟨rfl, u ++ [c], v, by simp, rfl, ?_⟩
        simp; (try omega)
def sp_stands : VSp := fun ds h Q _ => ∃ p w r : List Nat, (p ++ w ++ r).length ≤ lim ∧ ds = [.str (p ++ w ++ r), .int (p.length : Nat), .str w] ∧ Q (.int ((p ++ w).length : Nat)) h
theorem l_stands (T : Tab) : ∀ ds h Q X, sp_stands ds h Q X → wSs T d_stands.body (ds.map some ++ List.replicate (d_stands.N.length - ds.length) none) h ⟨fun _ h1 => Q .non h1, Q, fun c fs _ h1 => X c fs h1⟩ := by
  rintro ds h Q X ⟨p, w, r, hl, rfl, q⟩
  show wSs T b_stands_0 [some (.str (p ++ w ++ r)), some (.int p.length), some (.str w)] h _
  try simp only [wSs_nil, wSs_cons, wAnd_one, wAnd_cons, wOr_one, wOr_cons, Tgs.len, eq_self, if_true, if_false, rsvN, rsvB, rsvI, rsvS, rsvT, rsvLs, rsvSc, rsvE, rsvH, isNonN, isNonB, isNonI, isNonS, isNonT, isNonL, isNonO, lenS, lenL, lenT, lenSc, seqL, seqT, kdN, kdB, kdI, kdS, kdT, kdL, Kd.isOf, br_t, br_f, itOk, VS.cellOf, wipeE, List.map_cons, List.map_nil, List.replicate_zero, List.replicate_succ, List.cons_append, List.nil_append, Nat.sub_self, Nat.reduceSub, Nat.reduceAdd, List.getElem?_cons_zero, List.getElem?_cons_succ, List.set_cons_zero, List.set_cons_succ, List.length_cons, List.length_nil, Option.some.injEq, exists_eq_left', exists_eq_left, exists_eq', exists_eq, D.int.injEq, D.bl.injEq, D.str.injEq, D.tup.injEq, D.lst.injEq, D.loc.injEq, List.cons.injEq, and_true, true_and, hup_same, ↓reduceIte, Nat.reduceLT, Nat.reduceEqDiff, reduceCtorEq, hup_hup, exists_and_left, Cell.lst.injEq, Nat.reduceLeDiff, Nat.zero_add, Bool.false_eq_true, ixN_ofNat, atI_ofNat, plnN, plnB, plnI, plnS, plnT, plnL, plns0, plnsC, depN, depB, depI, depS, depT, depL, deps0, depsC, eqbI, eqbS, eqbT, eqbL, eqbB, eqbs0, eqbsC, Nat.zero_le, br_not, Nat.max_zero, Nat.zero_max, Nat.max_self, Bool.and_true, Bool.true_and, Bool.not_true, Bool.not_false, beq_self_eq_true, wEq, wInL, wE_var, wE_cst, wE_glob, wE_bop, wE_neg, wE_not, wE_cmp, wE_chn, wE_andv, wE_orv, wE_ite, wE_tup, wE_lst, wE_ix, wE_slc, wE_rev, wE_call, wE_bi, wE_lrng1, wE_lrng2, wE_isi, wE_isx, wE_fld, wE_mt, wE_comp, wE_frz, wE_dnew, wEs_nil, wEs_cons, wO_none, wO_some, wC_val, wC_cmp, wC_chn, wC_not, wC_and, wC_or, wAndC_nil, wAndC_cons, wOrC_nil, wOrC_cons, wI_seq, wI_sgn, wI_rng1, wI_rng2, wI_enm, wI_zip2, wI_zip3, wS_asg, wS_par, wS_asgIx, wS_aug, wS_ex, wS_ret, wS_ret0, wS_ife, wS_whl, wS_fr, wS_rs, wS_never, wAdd_d, wMul_d, addKI, addKS, addKL, addKT, mulKI, mulKL, wSubI, wFdivI, wModI, wPowI, mkLt, mkLf, asgT_nm, asgT_tp, asgTs_nil, asgTs_cons, put_fn, put_glob, put_kc, frzKL, wCeq, wCne, wClt, wCle, wCleS, wCgt, wCge, wCis, wCisn, wCin, wCnin, wIn_d, inKS, inKL, inKTI, inKTS, inKD, wIx_d, ixKL, ixKT, ixKSc, ixKS, ixKD, wSlc_d, slcKL, slcKT, slcKS, wSet_h, wBIlen, wBIabs, wBIintI, wBIintB, wBIintS, wBIstrI, wBIstrS, wBIlist, wBItuple, wBIall, wBIany, wBImax1, wBImin1, wBIsum, wBIsorted, wBImin2, wBImax2, wMTappend, wMTpop, wMTclear, wMTjoin, wMTsplit, isRcvA, isRcvP, isRcvC, isRcvJ, isRcvSp, ex_lst, ex_lst0, b_stands_0]
  have hw : w.length ≤ lim := by simp at hl; omega
  have e : ((p.length : Int) + (w.length : Int)) = ((p.length + w.length : Nat) : Int) := by simp
  rw [e]
  refine ⟨hw, hl, br_yes (by rw [cutL_mid rfl rfl]; simp) ?_⟩
  try simp only [wSs_nil, wSs_cons, wAnd_one, wAnd_cons, wOr_one, wOr_cons, Tgs.len, eq_self, if_true, if_false, rsvN, rsvB, rsvI, rsvS, rsvT, rsvLs, rsvSc, rsvE, rsvH, isNonN, isNonB, isNonI, isNonS, isNonT, isNonL, isNonO, lenS, lenL, lenT, lenSc, seqL, seqT, kdN, kdB, kdI, kdS, kdT, kdL, Kd.isOf, br_t, br_f, itOk, VS.cellOf, wipeE, List.map_cons, List.map_nil, List.replicate_zero, List.replicate_succ, List.cons_append, List.nil_append, Nat.sub_self, Nat.reduceSub, Nat.reduceAdd, List.getElem?_cons_zero, List.getElem?_cons_succ, List.set_cons_zero, List.set_cons_succ, List.length_cons, List.length_nil, Option.some.injEq, exists_eq_left', exists_eq_left, exists_eq', exists_eq, D.int.injEq, D.bl.injEq, D.str.injEq, D.tup.injEq, D.lst.injEq, D.loc.injEq, List.cons.injEq, and_true, true_and, hup_same, ↓reduceIte, Nat.reduceLT, Nat.reduceEqDiff, reduceCtorEq, hup_hup, exists_and_left, Cell.lst.injEq, Nat.reduceLeDiff, Nat.zero_add, Bool.false_eq_true, ixN_ofNat, atI_ofNat, plnN, plnB, plnI, plnS, plnT, plnL, plns0, plnsC, depN, depB, depI, depS, depT, depL, deps0, depsC, eqbI, eqbS, eqbT, eqbL, eqbB, eqbs0, eqbsC, Nat.zero_le, br_not, Nat.max_zero, Nat.zero_max, Nat.max_self, Bool.and_true, Bool.true_and, Bool.not_true, Bool.not_false, beq_self_eq_true, wEq, wInL, wE_var, wE_cst, wE_glob, wE_bop, wE_neg, wE_not, wE_cmp, wE_chn, wE_andv, wE_orv, wE_ite, wE_tup, wE_lst, wE_ix, wE_slc, wE_rev, wE_call, wE_bi, wE_lrng1, wE_lrng2, wE_isi, wE_isx, wE_fld, wE_mt, wE_comp, wE_frz, wE_dnew, wEs_nil, wEs_cons, wO_none, wO_some, wC_val, wC_cmp, wC_chn, wC_not, wC_and, wC_or, wAndC_nil, wAndC_cons, wOrC_nil, wOrC_cons, wI_seq, wI_sgn, wI_rng1, wI_rng2, wI_enm, wI_zip2, wI_zip3, wS_asg, wS_par, wS_asgIx, wS_aug, wS_ex, wS_ret, wS_ret0, wS_ife, wS_whl, wS_fr, wS_rs, wS_never, wAdd_d, wMul_d, addKI, addKS, addKL, addKT, mulKI, mulKL, wSubI, wFdivI, wModI, wPowI, mkLt, mkLf, asgT_nm, asgT_tp, asgTs_nil, asgTs_cons, put_fn, put_glob, put_kc, frzKL, wCeq, wCne, wClt, wCle, wCleS, wCgt, wCge, wCis, wCisn, wCin, wCnin, wIn_d, inKS, inKL, inKTI, inKTS, inKD, wIx_d, ixKL, ixKT, ixKSc, ixKS, ixKD, wSlc_d, slcKL, slcKT, slcKS, wSet_h, wBIlen, wBIabs, wBIintI, wBIintB, wBIintS, wBIstrI, wBIstrS, wBIlist, wBItuple, wBIall, wBIany, wBImax1, wBImin1, wBIsum, wBIsorted, wBImin2, wBImax2, wMTappend, wMTpop, wMTclear, wMTjoin, wMTsplit, isRcvA, isRcvP, isRcvC, isRcvJ, isRcvSp, ex_lst, ex_lst0, b_stands_1]
  refine ⟨hw, h, hsub_refl _, ?_⟩
  simpa using q
def sp_numat : VSp := fun ds h Q _ => ∃ (p r : List Nat) (k m : Nat), (p ++ num k ++ r).length ≤ lim ∧ Dl r ∧ k < 20 ∧ k < m ∧ ds = [.str (p ++ num k ++ r), .int (p.length : Nat), .int (m : Nat)] ∧ Q (.tup [.int (k : Nat), .int ((p ++ num k).length : Nat)]) h
theorem num_dl {k : Nat} (h : k < 20) : ∀ c ∈ num k, ¬ dlm c := fun c hc hd => by
  have := num_dig h c hc
  rcases hd with rfl | rfl <;> omega
theorem l_numat (T : Tab) (t1 : T.fn 1 = sp_below) (t3 : T.fn 3 = sp_word) : ∀ ds h Q X, sp_numat ds h Q X → wSs T d_number_at.body (ds.map some ++ List.replicate (d_number_at.N.length - ds.length) none) h ⟨fun _ h1 => Q .non h1, Q, fun c fs _ h1 => X c fs h1⟩ := by
  rintro ds h Q X ⟨p, r, k, m, hl, hr, hk, hm, rfl, q⟩
  show wSs T b_number_at_0 [some (.str (p ++ num k ++ r)), some (.int p.length), some (.int m), none, none] h _
  try simp only [wSs_nil, wSs_cons, wAnd_one, wAnd_cons, wOr_one, wOr_cons, Tgs.len, eq_self, if_true, if_false, rsvN, rsvB, rsvI, rsvS, rsvT, rsvLs, rsvSc, rsvE, rsvH, isNonN, isNonB, isNonI, isNonS, isNonT, isNonL, isNonO, lenS, lenL, lenT, lenSc, seqL, seqT, kdN, kdB, kdI, kdS, kdT, kdL, Kd.isOf, br_t, br_f, itOk, VS.cellOf, wipeE, List.map_cons, List.map_nil, List.replicate_zero, List.replicate_succ, List.cons_append, List.nil_append, Nat.sub_self, Nat.reduceSub, Nat.reduceAdd, List.getElem?_cons_zero, List.getElem?_cons_succ, List.set_cons_zero, List.set_cons_succ, List.length_cons, List.length_nil, Option.some.injEq, exists_eq_left', exists_eq_left, exists_eq', exists_eq, D.int.injEq, D.bl.injEq, D.str.injEq, D.tup.injEq, D.lst.injEq, D.loc.injEq, List.cons.injEq, and_true, true_and, hup_same, ↓reduceIte, Nat.reduceLT, Nat.reduceEqDiff, reduceCtorEq, hup_hup, exists_and_left, Cell.lst.injEq, Nat.reduceLeDiff, Nat.zero_add, Bool.false_eq_true, ixN_ofNat, atI_ofNat, plnN, plnB, plnI, plnS, plnT, plnL, plns0, plnsC, depN, depB, depI, depS, depT, depL, deps0, depsC, eqbI, eqbS, eqbT, eqbL, eqbB, eqbs0, eqbsC, Nat.zero_le, br_not, Nat.max_zero, Nat.zero_max, Nat.max_self, Bool.and_true, Bool.true_and, Bool.not_true, Bool.not_false, beq_self_eq_true, wEq, wInL, wE_var, wE_cst, wE_glob, wE_bop, wE_neg, wE_not, wE_cmp, wE_chn, wE_andv, wE_orv, wE_ite, wE_tup, wE_lst, wE_ix, wE_slc, wE_rev, wE_call, wE_bi, wE_lrng1, wE_lrng2, wE_isi, wE_isx, wE_fld, wE_mt, wE_comp, wE_frz, wE_dnew, wEs_nil, wEs_cons, wO_none, wO_some, wC_val, wC_cmp, wC_chn, wC_not, wC_and, wC_or, wAndC_nil, wAndC_cons, wOrC_nil, wOrC_cons, wI_seq, wI_sgn, wI_rng1, wI_rng2, wI_enm, wI_zip2, wI_zip3, wS_asg, wS_par, wS_asgIx, wS_aug, wS_ex, wS_ret, wS_ret0, wS_ife, wS_whl, wS_fr, wS_rs, wS_never, wAdd_d, wMul_d, addKI, addKS, addKL, addKT, mulKI, mulKL, wSubI, wFdivI, wModI, wPowI, mkLt, mkLf, asgT_nm, asgT_tp, asgTs_nil, asgTs_cons, put_fn, put_glob, put_kc, frzKL, wCeq, wCne, wClt, wCle, wCleS, wCgt, wCge, wCis, wCisn, wCin, wCnin, wIn_d, inKS, inKL, inKTI, inKTS, inKD, wIx_d, ixKL, ixKT, ixKSc, ixKS, ixKD, wSlc_d, slcKL, slcKT, slcKS, wSet_h, wBIlen, wBIabs, wBIintI, wBIintB, wBIintS, wBIstrI, wBIstrS, wBIlist, wBItuple, wBIall, wBIany, wBImax1, wBImin1, wBIsum, wBIsorted, wBImin2, wBImax2, wMTappend, wMTpop, wMTclear, wMTjoin, wMTsplit, isRcvA, isRcvP, isRcvC, isRcvJ, isRcvSp, ex_lst, ex_lst0, b_number_at_0, t3]
  refine ⟨p, num k, r, hl, num_dl hk, hr, rfl, ?_⟩
  try simp only [wSs_nil, wSs_cons, wAnd_one, wAnd_cons, wOr_one, wOr_cons, Tgs.len, eq_self, if_true, if_false, rsvN, rsvB, rsvI, rsvS, rsvT, rsvLs, rsvSc, rsvE, rsvH, isNonN, isNonB, isNonI, isNonS, isNonT, isNonL, isNonO, lenS, lenL, lenT, lenSc, seqL, seqT, kdN, kdB, kdI, kdS, kdT, kdL, Kd.isOf, br_t, br_f, itOk, VS.cellOf, wipeE, List.map_cons, List.map_nil, List.replicate_zero, List.replicate_succ, List.cons_append, List.nil_append, Nat.sub_self, Nat.reduceSub, Nat.reduceAdd, List.getElem?_cons_zero, List.getElem?_cons_succ, List.set_cons_zero, List.set_cons_succ, List.length_cons, List.length_nil, Option.some.injEq, exists_eq_left', exists_eq_left, exists_eq', exists_eq, D.int.injEq, D.bl.injEq, D.str.injEq, D.tup.injEq, D.lst.injEq, D.loc.injEq, List.cons.injEq, and_true, true_and, hup_same, ↓reduceIte, Nat.reduceLT, Nat.reduceEqDiff, reduceCtorEq, hup_hup, exists_and_left, Cell.lst.injEq, Nat.reduceLeDiff, Nat.zero_add, Bool.false_eq_true, ixN_ofNat, atI_ofNat, plnN, plnB, plnI, plnS, plnT, plnL, plns0, plnsC, depN, depB, depI, depS, depT, depL, deps0, depsC, eqbI, eqbS, eqbT, eqbL, eqbB, eqbs0, eqbsC, Nat.zero_le, br_not, Nat.max_zero, Nat.zero_max, Nat.max_self, Bool.and_true, Bool.true_and, Bool.not_true, Bool.not_false, beq_self_eq_true, wEq, wInL, wE_var, wE_cst, wE_glob, wE_bop, wE_neg, wE_not, wE_cmp, wE_chn, wE_andv, wE_orv, wE_ite, wE_tup, wE_lst, wE_ix, wE_slc, wE_rev, wE_call, wE_bi, wE_lrng1, wE_lrng2, wE_isi, wE_isx, wE_fld, wE_mt, wE_comp, wE_frz, wE_dnew, wEs_nil, wEs_cons, wO_none, wO_some, wC_val, wC_cmp, wC_chn, wC_not, wC_and, wC_or, wAndC_nil, wAndC_cons, wOrC_nil, wOrC_cons, wI_seq, wI_sgn, wI_rng1, wI_rng2, wI_enm, wI_zip2, wI_zip3, wS_asg, wS_par, wS_asgIx, wS_aug, wS_ex, wS_ret, wS_ret0, wS_ife, wS_whl, wS_fr, wS_rs, wS_never, wAdd_d, wMul_d, addKI, addKS, addKL, addKT, mulKI, mulKL, wSubI, wFdivI, wModI, wPowI, mkLt, mkLf, asgT_nm, asgT_tp, asgTs_nil, asgTs_cons, put_fn, put_glob, put_kc, frzKL, wCeq, wCne, wClt, wCle, wCleS, wCgt, wCge, wCis, wCisn, wCin, wCnin, wIn_d, inKS, inKL, inKTI, inKTS, inKD, wIx_d, ixKL, ixKT, ixKSc, ixKS, ixKD, wSlc_d, slcKL, slcKT, slcKS, wSet_h, wBIlen, wBIabs, wBIintI, wBIintB, wBIintS, wBIstrI, wBIstrS, wBIlist, wBItuple, wBIall, wBIany, wBImax1, wBImin1, wBIsum, wBIsorted, wBImin2, wBImax2, wMTappend, wMTpop, wMTclear, wMTjoin, wMTsplit, isRcvA, isRcvP, isRcvC, isRcvJ, isRcvSp, ex_lst, ex_lst0, b_number_at_1, t1]
  refine ⟨k, m, hk, hm, rfl, ?_⟩
  try simp only [wSs_nil, wSs_cons, wAnd_one, wAnd_cons, wOr_one, wOr_cons, Tgs.len, eq_self, if_true, if_false, rsvN, rsvB, rsvI, rsvS, rsvT, rsvLs, rsvSc, rsvE, rsvH, isNonN, isNonB, isNonI, isNonS, isNonT, isNonL, isNonO, lenS, lenL, lenT, lenSc, seqL, seqT, kdN, kdB, kdI, kdS, kdT, kdL, Kd.isOf, br_t, br_f, itOk, VS.cellOf, wipeE, List.map_cons, List.map_nil, List.replicate_zero, List.replicate_succ, List.cons_append, List.nil_append, Nat.sub_self, Nat.reduceSub, Nat.reduceAdd, List.getElem?_cons_zero, List.getElem?_cons_succ, List.set_cons_zero, List.set_cons_succ, List.length_cons, List.length_nil, Option.some.injEq, exists_eq_left', exists_eq_left, exists_eq', exists_eq, D.int.injEq, D.bl.injEq, D.str.injEq, D.tup.injEq, D.lst.injEq, D.loc.injEq, List.cons.injEq, and_true, true_and, hup_same, ↓reduceIte, Nat.reduceLT, Nat.reduceEqDiff, reduceCtorEq, hup_hup, exists_and_left, Cell.lst.injEq, Nat.reduceLeDiff, Nat.zero_add, Bool.false_eq_true, ixN_ofNat, atI_ofNat, plnN, plnB, plnI, plnS, plnT, plnL, plns0, plnsC, depN, depB, depI, depS, depT, depL, deps0, depsC, eqbI, eqbS, eqbT, eqbL, eqbB, eqbs0, eqbsC, Nat.zero_le, br_not, Nat.max_zero, Nat.zero_max, Nat.max_self, Bool.and_true, Bool.true_and, Bool.not_true, Bool.not_false, beq_self_eq_true, wEq, wInL, wE_var, wE_cst, wE_glob, wE_bop, wE_neg, wE_not, wE_cmp, wE_chn, wE_andv, wE_orv, wE_ite, wE_tup, wE_lst, wE_ix, wE_slc, wE_rev, wE_call, wE_bi, wE_lrng1, wE_lrng2, wE_isi, wE_isx, wE_fld, wE_mt, wE_comp, wE_frz, wE_dnew, wEs_nil, wEs_cons, wO_none, wO_some, wC_val, wC_cmp, wC_chn, wC_not, wC_and, wC_or, wAndC_nil, wAndC_cons, wOrC_nil, wOrC_cons, wI_seq, wI_sgn, wI_rng1, wI_rng2, wI_enm, wI_zip2, wI_zip3, wS_asg, wS_par, wS_asgIx, wS_aug, wS_ex, wS_ret, wS_ret0, wS_ife, wS_whl, wS_fr, wS_rs, wS_never, wAdd_d, wMul_d, addKI, addKS, addKL, addKT, mulKI, mulKL, wSubI, wFdivI, wModI, wPowI, mkLt, mkLf, asgT_nm, asgT_tp, asgTs_nil, asgTs_cons, put_fn, put_glob, put_kc, frzKL, wCeq, wCne, wClt, wCle, wCleS, wCgt, wCge, wCis, wCisn, wCin, wCnin, wIn_d, inKS, inKL, inKTI, inKTS, inKD, wIx_d, ixKL, ixKT, ixKSc, ixKS, ixKD, wSlc_d, slcKL, slcKT, slcKS, wSet_h, wBIlen, wBIabs, wBIintI, wBIintB, wBIintS, wBIstrI, wBIstrS, wBIlist, wBItuple, wBIall, wBIany, wBImax1, wBImin1, wBIsum, wBIsorted, wBImin2, wBImax2, wMTappend, wMTpop, wMTclear, wMTjoin, wMTsplit, isRcvA, isRcvP, isRcvC, isRcvJ, isRcvSp, ex_lst, ex_lst0, b_number_at_2]
  try simp only [wSs_nil, wSs_cons, wAnd_one, wAnd_cons, wOr_one, wOr_cons, Tgs.len, eq_self, if_true, if_false, rsvN, rsvB, rsvI, rsvS, rsvT, rsvLs, rsvSc, rsvE, rsvH, isNonN, isNonB, isNonI, isNonS, isNonT, isNonL, isNonO, lenS, lenL, lenT, lenSc, seqL, seqT, kdN, kdB, kdI, kdS, kdT, kdL, Kd.isOf, br_t, br_f, itOk, VS.cellOf, wipeE, List.map_cons, List.map_nil, List.replicate_zero, List.replicate_succ, List.cons_append, List.nil_append, Nat.sub_self, Nat.reduceSub, Nat.reduceAdd, List.getElem?_cons_zero, List.getElem?_cons_succ, List.set_cons_zero, List.set_cons_succ, List.length_cons, List.length_nil, Option.some.injEq, exists_eq_left', exists_eq_left, exists_eq', exists_eq, D.int.injEq, D.bl.injEq, D.str.injEq, D.tup.injEq, D.lst.injEq, D.loc.injEq, List.cons.injEq, and_true, true_and, hup_same, ↓reduceIte, Nat.reduceLT, Nat.reduceEqDiff, reduceCtorEq, hup_hup, exists_and_left, Cell.lst.injEq, Nat.reduceLeDiff, Nat.zero_add, Bool.false_eq_true, ixN_ofNat, atI_ofNat, plnN, plnB, plnI, plnS, plnT, plnL, plns0, plnsC, depN, depB, depI, depS, depT, depL, deps0, depsC, eqbI, eqbS, eqbT, eqbL, eqbB, eqbs0, eqbsC, Nat.zero_le, br_not, Nat.max_zero, Nat.zero_max, Nat.max_self, Bool.and_true, Bool.true_and, Bool.not_true, Bool.not_false, beq_self_eq_true, wEq, wInL, wE_var, wE_cst, wE_glob, wE_bop, wE_neg, wE_not, wE_cmp, wE_chn, wE_andv, wE_orv, wE_ite, wE_tup, wE_lst, wE_ix, wE_slc, wE_rev, wE_call, wE_bi, wE_lrng1, wE_lrng2, wE_isi, wE_isx, wE_fld, wE_mt, wE_comp, wE_frz, wE_dnew, wEs_nil, wEs_cons, wO_none, wO_some, wC_val, wC_cmp, wC_chn, wC_not, wC_and, wC_or, wAndC_nil, wAndC_cons, wOrC_nil, wOrC_cons, wI_seq, wI_sgn, wI_rng1, wI_rng2, wI_enm, wI_zip2, wI_zip3, wS_asg, wS_par, wS_asgIx, wS_aug, wS_ex, wS_ret, wS_ret0, wS_ife, wS_whl, wS_fr, wS_rs, wS_never, wAdd_d, wMul_d, addKI, addKS, addKL, addKT, mulKI, mulKL, wSubI, wFdivI, wModI, wPowI, mkLt, mkLf, asgT_nm, asgT_tp, asgTs_nil, asgTs_cons, put_fn, put_glob, put_kc, frzKL, wCeq, wCne, wClt, wCle, wCleS, wCgt, wCge, wCis, wCisn, wCin, wCnin, wIn_d, inKS, inKL, inKTI, inKTS, inKD, wIx_d, ixKL, ixKT, ixKSc, ixKS, ixKD, wSlc_d, slcKL, slcKT, slcKS, wSet_h, wBIlen, wBIabs, wBIintI, wBIintB, wBIintS, wBIstrI, wBIstrS, wBIlist, wBItuple, wBIall, wBIany, wBImax1, wBImin1, wBIsum, wBIsorted, wBImin2, wBImax2, wMTappend, wMTpop, wMTclear, wMTjoin, wMTsplit, isRcvA, isRcvP, isRcvC, isRcvJ, isRcvSp, ex_lst, ex_lst0, b_number_at_3]
  have := num_len hk
  refine ⟨by rw [lim_eq']; omega, by rw [lim_eq']; omega, h, hsub_refl _, ?_⟩
  simpa using q
def sp_treeat (n : Nat) : VSp := fun ds h Q _ => ∃ (p r : List Nat) (t : Tr) (e : Nat), (p ++ t.txt ++ r).length ≤ lim ∧ Dl r ∧ t.ok ∧ t.dep < n ∧ e + t.dep ≤ 20 ∧ ds = [.str (p ++ t.txt ++ r), .int (p.length : Nat), .int (e : Nat)] ∧ Q (.tup [t.d, .int ((p ++ t.txt).length : Nat)]) h
theorem nat1 {e : Nat} : ((e : Int) + 1) = ((e + 1 : Nat) : Int) := rfl
theorem l_treeat (n : Nat) (T : Tab) (g : G T) (t3 : T.fn 3 = sp_word) (t4 : T.fn 4 = sp_stands) (t5 : T.fn 5 = sp_numat) : ∀ ds h Q X, sp_treeat (n + 1) ds h Q X → wSs (T.put 6 (sp_treeat n)) d_tree_at.body (ds.map some ++ List.replicate (d_tree_at.N.length - ds.length) none) h ⟨fun _ h1 => Q .non h1, Q, fun c fs _ h1 => X c fs h1⟩ := by
  rintro ds h Q X ⟨p, r, t, e, hl, hr, ok, hn, he, rfl, q⟩
  obtain ⟨g0, g1, g2, g3, g4⟩ := g
  show wSs _ b_tree_at_0 [some (.str (p ++ t.txt ++ r)), some (.int p.length), some (.int e), none, none, none, none, none, none] h _
  have h2 : (2 : Nat) ≤ lim := by decide
  cases t with
  | turned =>
    try simp only [wSs_nil, wSs_cons, wAnd_one, wAnd_cons, wOr_one, wOr_cons, Tgs.len, eq_self, if_true, if_false, rsvN, rsvB, rsvI, rsvS, rsvT, rsvLs, rsvSc, rsvE, rsvH, isNonN, isNonB, isNonI, isNonS, isNonT, isNonL, isNonO, lenS, lenL, lenT, lenSc, seqL, seqT, kdN, kdB, kdI, kdS, kdT, kdL, Kd.isOf, br_t, br_f, itOk, VS.cellOf, wipeE, List.map_cons, List.map_nil, List.replicate_zero, List.replicate_succ, List.cons_append, List.nil_append, Nat.sub_self, Nat.reduceSub, Nat.reduceAdd, List.getElem?_cons_zero, List.getElem?_cons_succ, List.set_cons_zero, List.set_cons_succ, List.length_cons, List.length_nil, Option.some.injEq, exists_eq_left', exists_eq_left, exists_eq', exists_eq, D.int.injEq, D.bl.injEq, D.str.injEq, D.tup.injEq, D.lst.injEq, D.loc.injEq, List.cons.injEq, and_true, true_and, hup_same, ↓reduceIte, Nat.reduceLT, Nat.reduceEqDiff, reduceCtorEq, hup_hup, exists_and_left, Cell.lst.injEq, Nat.reduceLeDiff, Nat.zero_add, Bool.false_eq_true, ixN_ofNat, atI_ofNat, plnN, plnB, plnI, plnS, plnT, plnL, plns0, plnsC, depN, depB, depI, depS, depT, depL, deps0, depsC, eqbI, eqbS, eqbT, eqbL, eqbB, eqbs0, eqbsC, Nat.zero_le, br_not, Nat.max_zero, Nat.zero_max, Nat.max_self, Bool.and_true, Bool.true_and, Bool.not_true, Bool.not_false, beq_self_eq_true, wEq, wInL, wE_var, wE_cst, wE_glob, wE_bop, wE_neg, wE_not, wE_cmp, wE_chn, wE_andv, wE_orv, wE_ite, wE_tup, wE_lst, wE_ix, wE_slc, wE_rev, wE_call, wE_bi, wE_lrng1, wE_lrng2, wE_isi, wE_isx, wE_fld, wE_mt, wE_comp, wE_frz, wE_dnew, wEs_nil, wEs_cons, wO_none, wO_some, wC_val, wC_cmp, wC_chn, wC_not, wC_and, wC_or, wAndC_nil, wAndC_cons, wOrC_nil, wOrC_cons, wI_seq, wI_sgn, wI_rng1, wI_rng2, wI_enm, wI_zip2, wI_zip3, wS_asg, wS_par, wS_asgIx, wS_aug, wS_ex, wS_ret, wS_ret0, wS_ife, wS_whl, wS_fr, wS_rs, wS_never, wAdd_d, wMul_d, addKI, addKS, addKL, addKT, mulKI, mulKL, wSubI, wFdivI, wModI, wPowI, mkLt, mkLf, asgT_nm, asgT_tp, asgTs_nil, asgTs_cons, put_fn, put_glob, put_kc, frzKL, wCeq, wCne, wClt, wCle, wCleS, wCgt, wCge, wCis, wCisn, wCin, wCnin, wIn_d, inKS, inKL, inKTI, inKTS, inKD, wIx_d, ixKL, ixKT, ixKSc, ixKS, ixKD, wSlc_d, slcKL, slcKT, slcKS, wSet_h, wBIlen, wBIabs, wBIintI, wBIintB, wBIintS, wBIstrI, wBIstrS, wBIlist, wBItuple, wBIall, wBIany, wBImax1, wBImin1, wBIsum, wBIsorted, wBImin2, wBImax2, wMTappend, wMTpop, wMTclear, wMTjoin, wMTsplit, isRcvA, isRcvP, isRcvC, isRcvJ, isRcvSp, ex_lst, ex_lst0, b_tree_at_0, t3]
    refine ⟨p, sTurned, r, hl, ?_, hr, rfl, ?_⟩
    · intro c hc hd
      rcases hd with rfl | rfl <;> revert hc <;> decide
    try simp only [wSs_nil, wSs_cons, wAnd_one, wAnd_cons, wOr_one, wOr_cons, Tgs.len, eq_self, if_true, if_false, rsvN, rsvB, rsvI, rsvS, rsvT, rsvLs, rsvSc, rsvE, rsvH, isNonN, isNonB, isNonI, isNonS, isNonT, isNonL, isNonO, lenS, lenL, lenT, lenSc, seqL, seqT, kdN, kdB, kdI, kdS, kdT, kdL, Kd.isOf, br_t, br_f, itOk, VS.cellOf, wipeE, List.map_cons, List.map_nil, List.replicate_zero, List.replicate_succ, List.cons_append, List.nil_append, Nat.sub_self, Nat.reduceSub, Nat.reduceAdd, List.getElem?_cons_zero, List.getElem?_cons_succ, List.set_cons_zero, List.set_cons_succ, List.length_cons, List.length_nil, Option.some.injEq, exists_eq_left', exists_eq_left, exists_eq', exists_eq, D.int.injEq, D.bl.injEq, D.str.injEq, D.tup.injEq, D.lst.injEq, D.loc.injEq, List.cons.injEq, and_true, true_and, hup_same, ↓reduceIte, Nat.reduceLT, Nat.reduceEqDiff, reduceCtorEq, hup_hup, exists_and_left, Cell.lst.injEq, Nat.reduceLeDiff, Nat.zero_add, Bool.false_eq_true, ixN_ofNat, atI_ofNat, plnN, plnB, plnI, plnS, plnT, plnL, plns0, plnsC, depN, depB, depI, depS, depT, depL, deps0, depsC, eqbI, eqbS, eqbT, eqbL, eqbB, eqbs0, eqbsC, Nat.zero_le, br_not, Nat.max_zero, Nat.zero_max, Nat.max_self, Bool.and_true, Bool.true_and, Bool.not_true, Bool.not_false, beq_self_eq_true, wEq, wInL, wE_var, wE_cst, wE_glob, wE_bop, wE_neg, wE_not, wE_cmp, wE_chn, wE_andv, wE_orv, wE_ite, wE_tup, wE_lst, wE_ix, wE_slc, wE_rev, wE_call, wE_bi, wE_lrng1, wE_lrng2, wE_isi, wE_isx, wE_fld, wE_mt, wE_comp, wE_frz, wE_dnew, wEs_nil, wEs_cons, wO_none, wO_some, wC_val, wC_cmp, wC_chn, wC_not, wC_and, wC_or, wAndC_nil, wAndC_cons, wOrC_nil, wOrC_cons, wI_seq, wI_sgn, wI_rng1, wI_rng2, wI_enm, wI_zip2, wI_zip3, wS_asg, wS_par, wS_asgIx, wS_aug, wS_ex, wS_ret, wS_ret0, wS_ife, wS_whl, wS_fr, wS_rs, wS_never, wAdd_d, wMul_d, addKI, addKS, addKL, addKT, mulKI, mulKL, wSubI, wFdivI, wModI, wPowI, mkLt, mkLf, asgT_nm, asgT_tp, asgTs_nil, asgTs_cons, put_fn, put_glob, put_kc, frzKL, wCeq, wCne, wClt, wCle, wCleS, wCgt, wCge, wCis, wCisn, wCin, wCnin, wIn_d, inKS, inKL, inKTI, inKTS, inKD, wIx_d, ixKL, ixKT, ixKSc, ixKS, ixKD, wSlc_d, slcKL, slcKT, slcKS, wSet_h, wBIlen, wBIabs, wBIintI, wBIintB, wBIintS, wBIstrI, wBIstrS, wBIlist, wBItuple, wBIall, wBIany, wBImax1, wBImin1, wBIsum, wBIsorted, wBImin2, wBImax2, wMTappend, wMTpop, wMTclear, wMTjoin, wMTsplit, isRcvA, isRcvP, isRcvC, isRcvJ, isRcvSp, ex_lst, ex_lst0, b_tree_at_1]
    refine br_yes (by decide) ?_
    try simp only [wSs_nil, wSs_cons, wAnd_one, wAnd_cons, wOr_one, wOr_cons, Tgs.len, eq_self, if_true, if_false, rsvN, rsvB, rsvI, rsvS, rsvT, rsvLs, rsvSc, rsvE, rsvH, isNonN, isNonB, isNonI, isNonS, isNonT, isNonL, isNonO, lenS, lenL, lenT, lenSc, seqL, seqT, kdN, kdB, kdI, kdS, kdT, kdL, Kd.isOf, br_t, br_f, itOk, VS.cellOf, wipeE, List.map_cons, List.map_nil, List.replicate_zero, List.replicate_succ, List.cons_append, List.nil_append, Nat.sub_self, Nat.reduceSub, Nat.reduceAdd, List.getElem?_cons_zero, List.getElem?_cons_succ, List.set_cons_zero, List.set_cons_succ, List.length_cons, List.length_nil, Option.some.injEq, exists_eq_left', exists_eq_left, exists_eq', exists_eq, D.int.injEq, D.bl.injEq, D.str.injEq, D.tup.injEq, D.lst.injEq, D.loc.injEq, List.cons.injEq, and_true, true_and, hup_same, ↓reduceIte, Nat.reduceLT, Nat.reduceEqDiff, reduceCtorEq, hup_hup, exists_and_left, Cell.lst.injEq, Nat.reduceLeDiff, Nat.zero_add, Bool.false_eq_true, ixN_ofNat, atI_ofNat, plnN, plnB, plnI, plnS, plnT, plnL, plns0, plnsC, depN, depB, depI, depS, depT, depL, deps0, depsC, eqbI, eqbS, eqbT, eqbL, eqbB, eqbs0, eqbsC, Nat.zero_le, br_not, Nat.max_zero, Nat.zero_max, Nat.max_self, Bool.and_true, Bool.true_and, Bool.not_true, Bool.not_false, beq_self_eq_true, wEq, wInL, wE_var, wE_cst, wE_glob, wE_bop, wE_neg, wE_not, wE_cmp, wE_chn, wE_andv, wE_orv, wE_ite, wE_tup, wE_lst, wE_ix, wE_slc, wE_rev, wE_call, wE_bi, wE_lrng1, wE_lrng2, wE_isi, wE_isx, wE_fld, wE_mt, wE_comp, wE_frz, wE_dnew, wEs_nil, wEs_cons, wO_none, wO_some, wC_val, wC_cmp, wC_chn, wC_not, wC_and, wC_or, wAndC_nil, wAndC_cons, wOrC_nil, wOrC_cons, wI_seq, wI_sgn, wI_rng1, wI_rng2, wI_enm, wI_zip2, wI_zip3, wS_asg, wS_par, wS_asgIx, wS_aug, wS_ex, wS_ret, wS_ret0, wS_ife, wS_whl, wS_fr, wS_rs, wS_never, wAdd_d, wMul_d, addKI, addKS, addKL, addKT, mulKI, mulKL, wSubI, wFdivI, wModI, wPowI, mkLt, mkLf, asgT_nm, asgT_tp, asgTs_nil, asgTs_cons, put_fn, put_glob, put_kc, frzKL, wCeq, wCne, wClt, wCle, wCleS, wCgt, wCge, wCis, wCisn, wCin, wCnin, wIn_d, inKS, inKL, inKTI, inKTS, inKD, wIx_d, ixKL, ixKT, ixKSc, ixKS, ixKD, wSlc_d, slcKL, slcKT, slcKS, wSet_h, wBIlen, wBIabs, wBIintI, wBIintB, wBIintS, wBIstrI, wBIstrS, wBIlist, wBItuple, wBIall, wBIany, wBImax1, wBImin1, wBIsum, wBIsorted, wBImin2, wBImax2, wMTappend, wMTpop, wMTclear, wMTjoin, wMTsplit, isRcvA, isRcvP, isRcvC, isRcvJ, isRcvSp, ex_lst, ex_lst0, b_tree_at_1a_0]
    refine ⟨by decide, by decide, by decide, h, hsub_refl _, ?_⟩
    simpa [Tr.txt, Tr.d, sTurned] using q
  | cut a b =>
    have ha : a < 12 := ok.1
    have hb : b < 12 := ok.2
    try simp only [wSs_nil, wSs_cons, wAnd_one, wAnd_cons, wOr_one, wOr_cons, Tgs.len, eq_self, if_true, if_false, rsvN, rsvB, rsvI, rsvS, rsvT, rsvLs, rsvSc, rsvE, rsvH, isNonN, isNonB, isNonI, isNonS, isNonT, isNonL, isNonO, lenS, lenL, lenT, lenSc, seqL, seqT, kdN, kdB, kdI, kdS, kdT, kdL, Kd.isOf, br_t, br_f, itOk, VS.cellOf, wipeE, List.map_cons, List.map_nil, List.replicate_zero, List.replicate_succ, List.cons_append, List.nil_append, Nat.sub_self, Nat.reduceSub, Nat.reduceAdd, List.getElem?_cons_zero, List.getElem?_cons_succ, List.set_cons_zero, List.set_cons_succ, List.length_cons, List.length_nil, Option.some.injEq, exists_eq_left', exists_eq_left, exists_eq', exists_eq, D.int.injEq, D.bl.injEq, D.str.injEq, D.tup.injEq, D.lst.injEq, D.loc.injEq, List.cons.injEq, and_true, true_and, hup_same, ↓reduceIte, Nat.reduceLT, Nat.reduceEqDiff, reduceCtorEq, hup_hup, exists_and_left, Cell.lst.injEq, Nat.reduceLeDiff, Nat.zero_add, Bool.false_eq_true, ixN_ofNat, atI_ofNat, plnN, plnB, plnI, plnS, plnT, plnL, plns0, plnsC, depN, depB, depI, depS, depT, depL, deps0, depsC, eqbI, eqbS, eqbT, eqbL, eqbB, eqbs0, eqbsC, Nat.zero_le, br_not, Nat.max_zero, Nat.zero_max, Nat.max_self, Bool.and_true, Bool.true_and, Bool.not_true, Bool.not_false, beq_self_eq_true, wEq, wInL, wE_var, wE_cst, wE_glob, wE_bop, wE_neg, wE_not, wE_cmp, wE_chn, wE_andv, wE_orv, wE_ite, wE_tup, wE_lst, wE_ix, wE_slc, wE_rev, wE_call, wE_bi, wE_lrng1, wE_lrng2, wE_isi, wE_isx, wE_fld, wE_mt, wE_comp, wE_frz, wE_dnew, wEs_nil, wEs_cons, wO_none, wO_some, wC_val, wC_cmp, wC_chn, wC_not, wC_and, wC_or, wAndC_nil, wAndC_cons, wOrC_nil, wOrC_cons, wI_seq, wI_sgn, wI_rng1, wI_rng2, wI_enm, wI_zip2, wI_zip3, wS_asg, wS_par, wS_asgIx, wS_aug, wS_ex, wS_ret, wS_ret0, wS_ife, wS_whl, wS_fr, wS_rs, wS_never, wAdd_d, wMul_d, addKI, addKS, addKL, addKT, mulKI, mulKL, wSubI, wFdivI, wModI, wPowI, mkLt, mkLf, asgT_nm, asgT_tp, asgTs_nil, asgTs_cons, put_fn, put_glob, put_kc, frzKL, wCeq, wCne, wClt, wCle, wCleS, wCgt, wCge, wCis, wCisn, wCin, wCnin, wIn_d, inKS, inKL, inKTI, inKTS, inKD, wIx_d, ixKL, ixKT, ixKSc, ixKS, ixKD, wSlc_d, slcKL, slcKT, slcKS, wSet_h, wBIlen, wBIabs, wBIintI, wBIintB, wBIintS, wBIstrI, wBIstrS, wBIlist, wBItuple, wBIall, wBIany, wBImax1, wBImin1, wBIsum, wBIsorted, wBImin2, wBImax2, wMTappend, wMTpop, wMTclear, wMTjoin, wMTsplit, isRcvA, isRcvP, isRcvC, isRcvJ, isRcvSp, ex_lst, ex_lst0, b_tree_at_0, t3]
    refine ⟨p, sCut, 32 :: (num a ++ 32 :: num b) ++ r, by simpa [Tr.txt] using hl, ?_, .inr ⟨32, _, rfl, .inl rfl⟩, by simp [Tr.txt], ?_⟩
    · intro c hc hd
      rcases hd with rfl | rfl <;> revert hc <;> decide
    try simp only [wSs_nil, wSs_cons, wAnd_one, wAnd_cons, wOr_one, wOr_cons, Tgs.len, eq_self, if_true, if_false, rsvN, rsvB, rsvI, rsvS, rsvT, rsvLs, rsvSc, rsvE, rsvH, isNonN, isNonB, isNonI, isNonS, isNonT, isNonL, isNonO, lenS, lenL, lenT, lenSc, seqL, seqT, kdN, kdB, kdI, kdS, kdT, kdL, Kd.isOf, br_t, br_f, itOk, VS.cellOf, wipeE, List.map_cons, List.map_nil, List.replicate_zero, List.replicate_succ, List.cons_append, List.nil_append, Nat.sub_self, Nat.reduceSub, Nat.reduceAdd, List.getElem?_cons_zero, List.getElem?_cons_succ, List.set_cons_zero, List.set_cons_succ, List.length_cons, List.length_nil, Option.some.injEq, exists_eq_left', exists_eq_left, exists_eq', exists_eq, D.int.injEq, D.bl.injEq, D.str.injEq, D.tup.injEq, D.lst.injEq, D.loc.injEq, List.cons.injEq, and_true, true_and, hup_same, ↓reduceIte, Nat.reduceLT, Nat.reduceEqDiff, reduceCtorEq, hup_hup, exists_and_left, Cell.lst.injEq, Nat.reduceLeDiff, Nat.zero_add, Bool.false_eq_true, ixN_ofNat, atI_ofNat, plnN, plnB, plnI, plnS, plnT, plnL, plns0, plnsC, depN, depB, depI, depS, depT, depL, deps0, depsC, eqbI, eqbS, eqbT, eqbL, eqbB, eqbs0, eqbsC, Nat.zero_le, br_not, Nat.max_zero, Nat.zero_max, Nat.max_self, Bool.and_true, Bool.true_and, Bool.not_true, Bool.not_false, beq_self_eq_true, wEq, wInL, wE_var, wE_cst, wE_glob, wE_bop, wE_neg, wE_not, wE_cmp, wE_chn, wE_andv, wE_orv, wE_ite, wE_tup, wE_lst, wE_ix, wE_slc, wE_rev, wE_call, wE_bi, wE_lrng1, wE_lrng2, wE_isi, wE_isx, wE_fld, wE_mt, wE_comp, wE_frz, wE_dnew, wEs_nil, wEs_cons, wO_none, wO_some, wC_val, wC_cmp, wC_chn, wC_not, wC_and, wC_or, wAndC_nil, wAndC_cons, wOrC_nil, wOrC_cons, wI_seq, wI_sgn, wI_rng1, wI_rng2, wI_enm, wI_zip2, wI_zip3, wS_asg, wS_par, wS_asgIx, wS_aug, wS_ex, wS_ret, wS_ret0, wS_ife, wS_whl, wS_fr, wS_rs, wS_never, wAdd_d, wMul_d, addKI, addKS, addKL, addKT, mulKI, mulKL, wSubI, wFdivI, wModI, wPowI, mkLt, mkLf, asgT_nm, asgT_tp, asgTs_nil, asgTs_cons, put_fn, put_glob, put_kc, frzKL, wCeq, wCne, wClt, wCle, wCleS, wCgt, wCge, wCis, wCisn, wCin, wCnin, wIn_d, inKS, inKL, inKTI, inKTS, inKD, wIx_d, ixKL, ixKT, ixKSc, ixKS, ixKD, wSlc_d, slcKL, slcKT, slcKS, wSet_h, wBIlen, wBIabs, wBIintI, wBIintB, wBIintS, wBIstrI, wBIstrS, wBIlist, wBItuple, wBIall, wBIany, wBImax1, wBImin1, wBIsum, wBIsorted, wBImin2, wBImax2, wMTappend, wMTpop, wMTclear, wMTjoin, wMTsplit, isRcvA, isRcvP, isRcvC, isRcvJ, isRcvSp, ex_lst, ex_lst0, b_tree_at_1]
    refine br_no (by decide) ?_
    try simp only [wSs_nil, wSs_cons, wAnd_one, wAnd_cons, wOr_one, wOr_cons, Tgs.len, eq_self, if_true, if_false, rsvN, rsvB, rsvI, rsvS, rsvT, rsvLs, rsvSc, rsvE, rsvH, isNonN, isNonB, isNonI, isNonS, isNonT, isNonL, isNonO, lenS, lenL, lenT, lenSc, seqL, seqT, kdN, kdB, kdI, kdS, kdT, kdL, Kd.isOf, br_t, br_f, itOk, VS.cellOf, wipeE, List.map_cons, List.map_nil, List.replicate_zero, List.replicate_succ, List.cons_append, List.nil_append, Nat.sub_self, Nat.reduceSub, Nat.reduceAdd, List.getElem?_cons_zero, List.getElem?_cons_succ, List.set_cons_zero, List.set_cons_succ, List.length_cons, List.length_nil, Option.some.injEq, exists_eq_left', exists_eq_left, exists_eq', exists_eq, D.int.injEq, D.bl.injEq, D.str.injEq, D.tup.injEq, D.lst.injEq, D.loc.injEq, List.cons.injEq, and_true, true_and, hup_same, ↓reduceIte, Nat.reduceLT, Nat.reduceEqDiff, reduceCtorEq, hup_hup, exists_and_left, Cell.lst.injEq, Nat.reduceLeDiff, Nat.zero_add, Bool.false_eq_true, ixN_ofNat, atI_ofNat, plnN, plnB, plnI, plnS, plnT, plnL, plns0, plnsC, depN, depB, depI, depS, depT, depL, deps0, depsC, eqbI, eqbS, eqbT, eqbL, eqbB, eqbs0, eqbsC, Nat.zero_le, br_not, Nat.max_zero, Nat.zero_max, Nat.max_self, Bool.and_true, Bool.true_and, Bool.not_true, Bool.not_false, beq_self_eq_true, wEq, wInL, wE_var, wE_cst, wE_glob, wE_bop, wE_neg, wE_not, wE_cmp, wE_chn, wE_andv, wE_orv, wE_ite, wE_tup, wE_lst, wE_ix, wE_slc, wE_rev, wE_call, wE_bi, wE_lrng1, wE_lrng2, wE_isi, wE_isx, wE_fld, wE_mt, wE_comp, wE_frz, wE_dnew, wEs_nil, wEs_cons, wO_none, wO_some, wC_val, wC_cmp, wC_chn, wC_not, wC_and, wC_or, wAndC_nil, wAndC_cons, wOrC_nil, wOrC_cons, wI_seq, wI_sgn, wI_rng1, wI_rng2, wI_enm, wI_zip2, wI_zip3, wS_asg, wS_par, wS_asgIx, wS_aug, wS_ex, wS_ret, wS_ret0, wS_ife, wS_whl, wS_fr, wS_rs, wS_never, wAdd_d, wMul_d, addKI, addKS, addKL, addKT, mulKI, mulKL, wSubI, wFdivI, wModI, wPowI, mkLt, mkLf, asgT_nm, asgT_tp, asgTs_nil, asgTs_cons, put_fn, put_glob, put_kc, frzKL, wCeq, wCne, wClt, wCle, wCleS, wCgt, wCge, wCis, wCisn, wCin, wCnin, wIn_d, inKS, inKL, inKTI, inKTS, inKD, wIx_d, ixKL, ixKT, ixKSc, ixKS, ixKD, wSlc_d, slcKL, slcKT, slcKS, wSet_h, wBIlen, wBIabs, wBIintI, wBIintB, wBIintS, wBIstrI, wBIstrS, wBIlist, wBItuple, wBIall, wBIany, wBImax1, wBImin1, wBIsum, wBIsorted, wBImin2, wBImax2, wMTappend, wMTpop, wMTclear, wMTjoin, wMTsplit, isRcvA, isRcvP, isRcvC, isRcvJ, isRcvSp, ex_lst, ex_lst0, b_tree_at_2]
    refine br_yes (by decide) ?_
    try simp only [wSs_nil, wSs_cons, wAnd_one, wAnd_cons, wOr_one, wOr_cons, Tgs.len, eq_self, if_true, if_false, rsvN, rsvB, rsvI, rsvS, rsvT, rsvLs, rsvSc, rsvE, rsvH, isNonN, isNonB, isNonI, isNonS, isNonT, isNonL, isNonO, lenS, lenL, lenT, lenSc, seqL, seqT, kdN, kdB, kdI, kdS, kdT, kdL, Kd.isOf, br_t, br_f, itOk, VS.cellOf, wipeE, List.map_cons, List.map_nil, List.replicate_zero, List.replicate_succ, List.cons_append, List.nil_append, Nat.sub_self, Nat.reduceSub, Nat.reduceAdd, List.getElem?_cons_zero, List.getElem?_cons_succ, List.set_cons_zero, List.set_cons_succ, List.length_cons, List.length_nil, Option.some.injEq, exists_eq_left', exists_eq_left, exists_eq', exists_eq, D.int.injEq, D.bl.injEq, D.str.injEq, D.tup.injEq, D.lst.injEq, D.loc.injEq, List.cons.injEq, and_true, true_and, hup_same, ↓reduceIte, Nat.reduceLT, Nat.reduceEqDiff, reduceCtorEq, hup_hup, exists_and_left, Cell.lst.injEq, Nat.reduceLeDiff, Nat.zero_add, Bool.false_eq_true, ixN_ofNat, atI_ofNat, plnN, plnB, plnI, plnS, plnT, plnL, plns0, plnsC, depN, depB, depI, depS, depT, depL, deps0, depsC, eqbI, eqbS, eqbT, eqbL, eqbB, eqbs0, eqbsC, Nat.zero_le, br_not, Nat.max_zero, Nat.zero_max, Nat.max_self, Bool.and_true, Bool.true_and, Bool.not_true, Bool.not_false, beq_self_eq_true, wEq, wInL, wE_var, wE_cst, wE_glob, wE_bop, wE_neg, wE_not, wE_cmp, wE_chn, wE_andv, wE_orv, wE_ite, wE_tup, wE_lst, wE_ix, wE_slc, wE_rev, wE_call, wE_bi, wE_lrng1, wE_lrng2, wE_isi, wE_isx, wE_fld, wE_mt, wE_comp, wE_frz, wE_dnew, wEs_nil, wEs_cons, wO_none, wO_some, wC_val, wC_cmp, wC_chn, wC_not, wC_and, wC_or, wAndC_nil, wAndC_cons, wOrC_nil, wOrC_cons, wI_seq, wI_sgn, wI_rng1, wI_rng2, wI_enm, wI_zip2, wI_zip3, wS_asg, wS_par, wS_asgIx, wS_aug, wS_ex, wS_ret, wS_ret0, wS_ife, wS_whl, wS_fr, wS_rs, wS_never, wAdd_d, wMul_d, addKI, addKS, addKL, addKT, mulKI, mulKL, wSubI, wFdivI, wModI, wPowI, mkLt, mkLf, asgT_nm, asgT_tp, asgTs_nil, asgTs_cons, put_fn, put_glob, put_kc, frzKL, wCeq, wCne, wClt, wCle, wCleS, wCgt, wCge, wCis, wCisn, wCin, wCnin, wIn_d, inKS, inKL, inKTI, inKTS, inKD, wIx_d, ixKL, ixKT, ixKSc, ixKS, ixKD, wSlc_d, slcKL, slcKT, slcKS, wSet_h, wBIlen, wBIabs, wBIintI, wBIintB, wBIintS, wBIstrI, wBIstrS, wBIlist, wBItuple, wBIall, wBIany, wBImax1, wBImin1, wBIsum, wBIsorted, wBImin2, wBImax2, wMTappend, wMTpop, wMTclear, wMTjoin, wMTsplit, isRcvA, isRcvP, isRcvC, isRcvJ, isRcvSp, ex_lst, ex_lst0, b_tree_at_2a_0, t4]
    refine ⟨p, [99, 117, 116, 32], num a ++ 32 :: num b ++ r, by simpa [Tr.txt, sCut] using hl, by simp [Tr.txt, sCut], ?_⟩
    try simp only [wSs_nil, wSs_cons, wAnd_one, wAnd_cons, wOr_one, wOr_cons, Tgs.len, eq_self, if_true, if_false, rsvN, rsvB, rsvI, rsvS, rsvT, rsvLs, rsvSc, rsvE, rsvH, isNonN, isNonB, isNonI, isNonS, isNonT, isNonL, isNonO, lenS, lenL, lenT, lenSc, seqL, seqT, kdN, kdB, kdI, kdS, kdT, kdL, Kd.isOf, br_t, br_f, itOk, VS.cellOf, wipeE, List.map_cons, List.map_nil, List.replicate_zero, List.replicate_succ, List.cons_append, List.nil_append, Nat.sub_self, Nat.reduceSub, Nat.reduceAdd, List.getElem?_cons_zero, List.getElem?_cons_succ, List.set_cons_zero, List.set_cons_succ, List.length_cons, List.length_nil, Option.some.injEq, exists_eq_left', exists_eq_left, exists_eq', exists_eq, D.int.injEq, D.bl.injEq, D.str.injEq, D.tup.injEq, D.lst.injEq, D.loc.injEq, List.cons.injEq, and_true, true_and, hup_same, ↓reduceIte, Nat.reduceLT, Nat.reduceEqDiff, reduceCtorEq, hup_hup, exists_and_left, Cell.lst.injEq, Nat.reduceLeDiff, Nat.zero_add, Bool.false_eq_true, ixN_ofNat, atI_ofNat, plnN, plnB, plnI, plnS, plnT, plnL, plns0, plnsC, depN, depB, depI, depS, depT, depL, deps0, depsC, eqbI, eqbS, eqbT, eqbL, eqbB, eqbs0, eqbsC, Nat.zero_le, br_not, Nat.max_zero, Nat.zero_max, Nat.max_self, Bool.and_true, Bool.true_and, Bool.not_true, Bool.not_false, beq_self_eq_true, wEq, wInL, wE_var, wE_cst, wE_glob, wE_bop, wE_neg, wE_not, wE_cmp, wE_chn, wE_andv, wE_orv, wE_ite, wE_tup, wE_lst, wE_ix, wE_slc, wE_rev, wE_call, wE_bi, wE_lrng1, wE_lrng2, wE_isi, wE_isx, wE_fld, wE_mt, wE_comp, wE_frz, wE_dnew, wEs_nil, wEs_cons, wO_none, wO_some, wC_val, wC_cmp, wC_chn, wC_not, wC_and, wC_or, wAndC_nil, wAndC_cons, wOrC_nil, wOrC_cons, wI_seq, wI_sgn, wI_rng1, wI_rng2, wI_enm, wI_zip2, wI_zip3, wS_asg, wS_par, wS_asgIx, wS_aug, wS_ex, wS_ret, wS_ret0, wS_ife, wS_whl, wS_fr, wS_rs, wS_never, wAdd_d, wMul_d, addKI, addKS, addKL, addKT, mulKI, mulKL, wSubI, wFdivI, wModI, wPowI, mkLt, mkLf, asgT_nm, asgT_tp, asgTs_nil, asgTs_cons, put_fn, put_glob, put_kc, frzKL, wCeq, wCne, wClt, wCle, wCleS, wCgt, wCge, wCis, wCisn, wCin, wCnin, wIn_d, inKS, inKL, inKTI, inKTS, inKD, wIx_d, ixKL, ixKT, ixKSc, ixKS, ixKD, wSlc_d, slcKL, slcKT, slcKS, wSet_h, wBIlen, wBIabs, wBIintI, wBIintB, wBIintS, wBIstrI, wBIstrS, wBIlist, wBItuple, wBIall, wBIany, wBImax1, wBImin1, wBIsum, wBIsorted, wBImin2, wBImax2, wMTappend, wMTpop, wMTclear, wMTjoin, wMTsplit, isRcvA, isRcvP, isRcvC, isRcvJ, isRcvSp, ex_lst, ex_lst0, g3, t5]
    refine ⟨p ++ [99, 117, 116, 32], 32 :: num b ++ r, a, 12, by simpa [Tr.txt, sCut] using hl, .inr ⟨32, _, rfl, .inl rfl⟩, by omega, ha, by simp [Tr.txt, sCut], ?_⟩
    try simp only [wSs_nil, wSs_cons, wAnd_one, wAnd_cons, wOr_one, wOr_cons, Tgs.len, eq_self, if_true, if_false, rsvN, rsvB, rsvI, rsvS, rsvT, rsvLs, rsvSc, rsvE, rsvH, isNonN, isNonB, isNonI, isNonS, isNonT, isNonL, isNonO, lenS, lenL, lenT, lenSc, seqL, seqT, kdN, kdB, kdI, kdS, kdT, kdL, Kd.isOf, br_t, br_f, itOk, VS.cellOf, wipeE, List.map_cons, List.map_nil, List.replicate_zero, List.replicate_succ, List.cons_append, List.nil_append, Nat.sub_self, Nat.reduceSub, Nat.reduceAdd, List.getElem?_cons_zero, List.getElem?_cons_succ, List.set_cons_zero, List.set_cons_succ, List.length_cons, List.length_nil, Option.some.injEq, exists_eq_left', exists_eq_left, exists_eq', exists_eq, D.int.injEq, D.bl.injEq, D.str.injEq, D.tup.injEq, D.lst.injEq, D.loc.injEq, List.cons.injEq, and_true, true_and, hup_same, ↓reduceIte, Nat.reduceLT, Nat.reduceEqDiff, reduceCtorEq, hup_hup, exists_and_left, Cell.lst.injEq, Nat.reduceLeDiff, Nat.zero_add, Bool.false_eq_true, ixN_ofNat, atI_ofNat, plnN, plnB, plnI, plnS, plnT, plnL, plns0, plnsC, depN, depB, depI, depS, depT, depL, deps0, depsC, eqbI, eqbS, eqbT, eqbL, eqbB, eqbs0, eqbsC, Nat.zero_le, br_not, Nat.max_zero, Nat.zero_max, Nat.max_self, Bool.and_true, Bool.true_and, Bool.not_true, Bool.not_false, beq_self_eq_true, wEq, wInL, wE_var, wE_cst, wE_glob, wE_bop, wE_neg, wE_not, wE_cmp, wE_chn, wE_andv, wE_orv, wE_ite, wE_tup, wE_lst, wE_ix, wE_slc, wE_rev, wE_call, wE_bi, wE_lrng1, wE_lrng2, wE_isi, wE_isx, wE_fld, wE_mt, wE_comp, wE_frz, wE_dnew, wEs_nil, wEs_cons, wO_none, wO_some, wC_val, wC_cmp, wC_chn, wC_not, wC_and, wC_or, wAndC_nil, wAndC_cons, wOrC_nil, wOrC_cons, wI_seq, wI_sgn, wI_rng1, wI_rng2, wI_enm, wI_zip2, wI_zip3, wS_asg, wS_par, wS_asgIx, wS_aug, wS_ex, wS_ret, wS_ret0, wS_ife, wS_whl, wS_fr, wS_rs, wS_never, wAdd_d, wMul_d, addKI, addKS, addKL, addKT, mulKI, mulKL, wSubI, wFdivI, wModI, wPowI, mkLt, mkLf, asgT_nm, asgT_tp, asgTs_nil, asgTs_cons, put_fn, put_glob, put_kc, frzKL, wCeq, wCne, wClt, wCle, wCleS, wCgt, wCge, wCis, wCisn, wCin, wCnin, wIn_d, inKS, inKL, inKTI, inKTS, inKD, wIx_d, ixKL, ixKT, ixKSc, ixKS, ixKD, wSlc_d, slcKL, slcKT, slcKS, wSet_h, wBIlen, wBIabs, wBIintI, wBIintB, wBIintS, wBIstrI, wBIstrS, wBIlist, wBItuple, wBIall, wBIany, wBImax1, wBImin1, wBIsum, wBIsorted, wBImin2, wBImax2, wMTappend, wMTpop, wMTclear, wMTjoin, wMTsplit, isRcvA, isRcvP, isRcvC, isRcvJ, isRcvSp, ex_lst, ex_lst0]
        try simp only [wSs_nil, wSs_cons, wAnd_one, wAnd_cons, wOr_one, wOr_cons, Tgs.len, eq_self, if_true, if_false, rsvN, rsvB, rsvI, rsvS, rsvT, rsvLs, rsvSc, rsvE, rsvH, isNonN, isNonB, isNonI, isNonS, isNonT, isNonL, isNonO, lenS, lenL, lenT, lenSc, seqL, seqT, kdN, kdB, kdI, kdS, kdT, kdL, Kd.isOf, br_t, br_f, itOk, VS.cellOf, wipeE, List.map_cons, List.map_nil, List.replicate_zero, List.replicate_succ, List.cons_append, List.nil_append, Nat.sub_self, Nat.reduceSub, Nat.reduceAdd, List.getElem?_cons_zero, List.getElem?_cons_succ, List.set_cons_zero, List.set_cons_succ, List.length_cons, List.length_nil, Option.some.injEq, exists_eq_left', exists_eq_left, exists_eq', exists_eq, D.int.injEq, D.bl.injEq, D.str.injEq, D.tup.injEq, D.lst.injEq, D.loc.injEq, List.cons.injEq, and_true, true_and, hup_same, ↓reduceIte, Nat.reduceLT, Nat.reduceEqDiff, reduceCtorEq, hup_hup, exists_and_left, Cell.lst.injEq, Nat.reduceLeDiff, Nat.zero_add, Bool.false_eq_true, ixN_ofNat, atI_ofNat, plnN, plnB, plnI, plnS, plnT, plnL, plns0, plnsC, depN, depB, depI, depS, depT, depL, deps0, depsC, eqbI, eqbS, eqbT, eqbL, eqbB, eqbs0, eqbsC, Nat.zero_le, br_not, Nat.max_zero, Nat.zero_max, Nat.max_self, Bool.and_true, Bool.true_and, Bool.not_true, Bool.not_false, beq_self_eq_true, wEq, wInL, wE_var, wE_cst, wE_glob, wE_bop, wE_neg, wE_not, wE_cmp, wE_chn, wE_andv, wE_orv, wE_ite, wE_tup, wE_lst, wE_ix, wE_slc, wE_rev, wE_call, wE_bi, wE_lrng1, wE_lrng2, wE_isi, wE_isx, wE_fld, wE_mt, wE_comp, wE_frz, wE_dnew, wEs_nil, wEs_cons, wO_none, wO_some, wC_val, wC_cmp, wC_chn, wC_not, wC_and, wC_or, wAndC_nil, wAndC_cons, wOrC_nil, wOrC_cons, wI_seq, wI_sgn, wI_rng1, wI_rng2, wI_enm, wI_zip2, wI_zip3, wS_asg, wS_par, wS_asgIx, wS_aug, wS_ex, wS_ret, wS_ret0, wS_ife, wS_whl, wS_fr, wS_rs, wS_never, wAdd_d, wMul_d, addKI, addKS, addKL, addKT, mulKI, mulKL, wSubI, wFdivI, wModI, wPowI, mkLt, mkLf, asgT_nm, asgT_tp, asgTs_nil, asgTs_cons, put_fn, put_glob, put_kc, frzKL, wCeq, wCne, wClt, wCle, wCleS, wCgt, wCge, wCis, wCisn, wCin, wCnin, wIn_d, inKS, inKL, inKTI, inKTS, inKD, wIx_d, ixKL, ixKT, ixKSc, ixKS, ixKD, wSlc_d, slcKL, slcKT, slcKS, wSet_h, wBIlen, wBIabs, wBIintI, wBIintB, wBIintS, wBIstrI, wBIstrS, wBIlist, wBItuple, wBIall, wBIany, wBImax1, wBImin1, wBIsum, wBIsorted, wBImin2, wBImax2, wMTappend, wMTpop, wMTclear, wMTjoin, wMTsplit, isRcvA, isRcvP, isRcvC, isRcvJ, isRcvSp, ex_lst, ex_lst0, b_tree_at_2a_1, t4]
    refine ⟨p ++ [99, 117, 116, 32] ++ num a, [32], num b ++ r, by simpa [Tr.txt, sCut] using hl, by simp [Tr.txt, sCut], ?_⟩
    try simp only [wSs_nil, wSs_cons, wAnd_one, wAnd_cons, wOr_one, wOr_cons, Tgs.len, eq_self, if_true, if_false, rsvN, rsvB, rsvI, rsvS, rsvT, rsvLs, rsvSc, rsvE, rsvH, isNonN, isNonB, isNonI, isNonS, isNonT, isNonL, isNonO, lenS, lenL, lenT, lenSc, seqL, seqT, kdN, kdB, kdI, kdS, kdT, kdL, Kd.isOf, br_t, br_f, itOk, VS.cellOf, wipeE, List.map_cons, List.map_nil, List.replicate_zero, List.replicate_succ, List.cons_append, List.nil_append, Nat.sub_self, Nat.reduceSub, Nat.reduceAdd, List.getElem?_cons_zero, List.getElem?_cons_succ, List.set_cons_zero, List.set_cons_succ, List.length_cons, List.length_nil, Option.some.injEq, exists_eq_left', exists_eq_left, exists_eq', exists_eq, D.int.injEq, D.bl.injEq, D.str.injEq, D.tup.injEq, D.lst.injEq, D.loc.injEq, List.cons.injEq, and_true, true_and, hup_same, ↓reduceIte, Nat.reduceLT, Nat.reduceEqDiff, reduceCtorEq, hup_hup, exists_and_left, Cell.lst.injEq, Nat.reduceLeDiff, Nat.zero_add, Bool.false_eq_true, ixN_ofNat, atI_ofNat, plnN, plnB, plnI, plnS, plnT, plnL, plns0, plnsC, depN, depB, depI, depS, depT, depL, deps0, depsC, eqbI, eqbS, eqbT, eqbL, eqbB, eqbs0, eqbsC, Nat.zero_le, br_not, Nat.max_zero, Nat.zero_max, Nat.max_self, Bool.and_true, Bool.true_and, Bool.not_true, Bool.not_false, beq_self_eq_true, wEq, wInL, wE_var, wE_cst, wE_glob, wE_bop, wE_neg, wE_not, wE_cmp, wE_chn, wE_andv, wE_orv, wE_ite, wE_tup, wE_lst, wE_ix, wE_slc, wE_rev, wE_call, wE_bi, wE_lrng1, wE_lrng2, wE_isi, wE_isx, wE_fld, wE_mt, wE_comp, wE_frz, wE_dnew, wEs_nil, wEs_cons, wO_none, wO_some, wC_val, wC_cmp, wC_chn, wC_not, wC_and, wC_or, wAndC_nil, wAndC_cons, wOrC_nil, wOrC_cons, wI_seq, wI_sgn, wI_rng1, wI_rng2, wI_enm, wI_zip2, wI_zip3, wS_asg, wS_par, wS_asgIx, wS_aug, wS_ex, wS_ret, wS_ret0, wS_ife, wS_whl, wS_fr, wS_rs, wS_never, wAdd_d, wMul_d, addKI, addKS, addKL, addKT, mulKI, mulKL, wSubI, wFdivI, wModI, wPowI, mkLt, mkLf, asgT_nm, asgT_tp, asgTs_nil, asgTs_cons, put_fn, put_glob, put_kc, frzKL, wCeq, wCne, wClt, wCle, wCleS, wCgt, wCge, wCis, wCisn, wCin, wCnin, wIn_d, inKS, inKL, inKTI, inKTS, inKD, wIx_d, ixKL, ixKT, ixKSc, ixKS, ixKD, wSlc_d, slcKL, slcKT, slcKS, wSet_h, wBIlen, wBIabs, wBIintI, wBIintB, wBIintS, wBIstrI, wBIstrS, wBIlist, wBItuple, wBIall, wBIany, wBImax1, wBImin1, wBIsum, wBIsorted, wBImin2, wBImax2, wMTappend, wMTpop, wMTclear, wMTjoin, wMTsplit, isRcvA, isRcvP, isRcvC, isRcvJ, isRcvSp, ex_lst, ex_lst0, g3, t5]
    refine ⟨p ++ [99, 117, 116, 32] ++ num a ++ [32], r, b, 12, by simpa [Tr.txt, sCut] using hl, hr, by omega, hb, by simp [Tr.txt, sCut], ?_⟩
    try simp only [wSs_nil, wSs_cons, wAnd_one, wAnd_cons, wOr_one, wOr_cons, Tgs.len, eq_self, if_true, if_false, rsvN, rsvB, rsvI, rsvS, rsvT, rsvLs, rsvSc, rsvE, rsvH, isNonN, isNonB, isNonI, isNonS, isNonT, isNonL, isNonO, lenS, lenL, lenT, lenSc, seqL, seqT, kdN, kdB, kdI, kdS, kdT, kdL, Kd.isOf, br_t, br_f, itOk, VS.cellOf, wipeE, List.map_cons, List.map_nil, List.replicate_zero, List.replicate_succ, List.cons_append, List.nil_append, Nat.sub_self, Nat.reduceSub, Nat.reduceAdd, List.getElem?_cons_zero, List.getElem?_cons_succ, List.set_cons_zero, List.set_cons_succ, List.length_cons, List.length_nil, Option.some.injEq, exists_eq_left', exists_eq_left, exists_eq', exists_eq, D.int.injEq, D.bl.injEq, D.str.injEq, D.tup.injEq, D.lst.injEq, D.loc.injEq, List.cons.injEq, and_true, true_and, hup_same, ↓reduceIte, Nat.reduceLT, Nat.reduceEqDiff, reduceCtorEq, hup_hup, exists_and_left, Cell.lst.injEq, Nat.reduceLeDiff, Nat.zero_add, Bool.false_eq_true, ixN_ofNat, atI_ofNat, plnN, plnB, plnI, plnS, plnT, plnL, plns0, plnsC, depN, depB, depI, depS, depT, depL, deps0, depsC, eqbI, eqbS, eqbT, eqbL, eqbB, eqbs0, eqbsC, Nat.zero_le, br_not, Nat.max_zero, Nat.zero_max, Nat.max_self, Bool.and_true, Bool.true_and, Bool.not_true, Bool.not_false, beq_self_eq_true, wEq, wInL, wE_var, wE_cst, wE_glob, wE_bop, wE_neg, wE_not, wE_cmp, wE_chn, wE_andv, wE_orv, wE_ite, wE_tup, wE_lst, wE_ix, wE_slc, wE_rev, wE_call, wE_bi, wE_lrng1, wE_lrng2, wE_isi, wE_isx, wE_fld, wE_mt, wE_comp, wE_frz, wE_dnew, wEs_nil, wEs_cons, wO_none, wO_some, wC_val, wC_cmp, wC_chn, wC_not, wC_and, wC_or, wAndC_nil, wAndC_cons, wOrC_nil, wOrC_cons, wI_seq, wI_sgn, wI_rng1, wI_rng2, wI_enm, wI_zip2, wI_zip3, wS_asg, wS_par, wS_asgIx, wS_aug, wS_ex, wS_ret, wS_ret0, wS_ife, wS_whl, wS_fr, wS_rs, wS_never, wAdd_d, wMul_d, addKI, addKS, addKL, addKT, mulKI, mulKL, wSubI, wFdivI, wModI, wPowI, mkLt, mkLf, asgT_nm, asgT_tp, asgTs_nil, asgTs_cons, put_fn, put_glob, put_kc, frzKL, wCeq, wCne, wClt, wCle, wCleS, wCgt, wCge, wCis, wCisn, wCin, wCnin, wIn_d, inKS, inKL, inKTI, inKTS, inKD, wIx_d, ixKL, ixKT, ixKSc, ixKS, ixKD, wSlc_d, slcKL, slcKT, slcKS, wSet_h, wBIlen, wBIabs, wBIintI, wBIintB, wBIintS, wBIstrI, wBIstrS, wBIlist, wBItuple, wBIall, wBIany, wBImax1, wBImin1, wBIsum, wBIsorted, wBImin2, wBImax2, wMTappend, wMTpop, wMTclear, wMTjoin, wMTsplit, isRcvA, isRcvP, isRcvC, isRcvJ, isRcvSp, ex_lst, ex_lst0]
        try simp only [wSs_nil, wSs_cons, wAnd_one, wAnd_cons, wOr_one, wOr_cons, Tgs.len, eq_self, if_true, if_false, rsvN, rsvB, rsvI, rsvS, rsvT, rsvLs, rsvSc, rsvE, rsvH, isNonN, isNonB, isNonI, isNonS, isNonT, isNonL, isNonO, lenS, lenL, lenT, lenSc, seqL, seqT, kdN, kdB, kdI, kdS, kdT, kdL, Kd.isOf, br_t, br_f, itOk, VS.cellOf, wipeE, List.map_cons, List.map_nil, List.replicate_zero, List.replicate_succ, List.cons_append, List.nil_append, Nat.sub_self, Nat.reduceSub, Nat.reduceAdd, List.getElem?_cons_zero, List.getElem?_cons_succ, List.set_cons_zero, List.set_cons_succ, List.length_cons, List.length_nil, Option.some.injEq, exists_eq_left', exists_eq_left, exists_eq', exists_eq, D.int.injEq, D.bl.injEq, D.str.injEq, D.tup.injEq, D.lst.injEq, D.loc.injEq, List.cons.injEq, and_true, true_and, hup_same, ↓reduceIte, Nat.reduceLT, Nat.reduceEqDiff, reduceCtorEq, hup_hup, exists_and_left, Cell.lst.injEq, Nat.reduceLeDiff, Nat.zero_add, Bool.false_eq_true, ixN_ofNat, atI_ofNat, plnN, plnB, plnI, plnS, plnT, plnL, plns0, plnsC, depN, depB, depI, depS, depT, depL, deps0, depsC, eqbI, eqbS, eqbT, eqbL, eqbB, eqbs0, eqbsC, Nat.zero_le, br_not, Nat.max_zero, Nat.zero_max, Nat.max_self, Bool.and_true, Bool.true_and, Bool.not_true, Bool.not_false, beq_self_eq_true, wEq, wInL, wE_var, wE_cst, wE_glob, wE_bop, wE_neg, wE_not, wE_cmp, wE_chn, wE_andv, wE_orv, wE_ite, wE_tup, wE_lst, wE_ix, wE_slc, wE_rev, wE_call, wE_bi, wE_lrng1, wE_lrng2, wE_isi, wE_isx, wE_fld, wE_mt, wE_comp, wE_frz, wE_dnew, wEs_nil, wEs_cons, wO_none, wO_some, wC_val, wC_cmp, wC_chn, wC_not, wC_and, wC_or, wAndC_nil, wAndC_cons, wOrC_nil, wOrC_cons, wI_seq, wI_sgn, wI_rng1, wI_rng2, wI_enm, wI_zip2, wI_zip3, wS_asg, wS_par, wS_asgIx, wS_aug, wS_ex, wS_ret, wS_ret0, wS_ife, wS_whl, wS_fr, wS_rs, wS_never, wAdd_d, wMul_d, addKI, addKS, addKL, addKT, mulKI, mulKL, wSubI, wFdivI, wModI, wPowI, mkLt, mkLf, asgT_nm, asgT_tp, asgTs_nil, asgTs_cons, put_fn, put_glob, put_kc, frzKL, wCeq, wCne, wClt, wCle, wCleS, wCgt, wCge, wCis, wCisn, wCin, wCnin, wIn_d, inKS, inKL, inKTI, inKTS, inKD, wIx_d, ixKL, ixKT, ixKSc, ixKS, ixKD, wSlc_d, slcKL, slcKT, slcKS, wSet_h, wBIlen, wBIabs, wBIintI, wBIintB, wBIintS, wBIstrI, wBIstrS, wBIlist, wBItuple, wBIall, wBIany, wBImax1, wBImin1, wBIsum, wBIsorted, wBImin2, wBImax2, wMTappend, wMTpop, wMTclear, wMTjoin, wMTsplit, isRcvA, isRcvP, isRcvC, isRcvJ, isRcvSp, ex_lst, ex_lst0, b_tree_at_2a_2]
    refine ⟨by decide, by decide, h, hsub_refl _, ?_⟩
    simpa [Tr.txt, Tr.d, sCut] using q
  | split k l w =>
    have hk : k < 20 := ok.1
    have hd : max l.dep w.dep + 1 < n + 1 := hn
    have hd2 : e + (max l.dep w.dep + 1) ≤ 20 := he
    try simp only [wSs_nil, wSs_cons, wAnd_one, wAnd_cons, wOr_one, wOr_cons, Tgs.len, eq_self, if_true, if_false, rsvN, rsvB, rsvI, rsvS, rsvT, rsvLs, rsvSc, rsvE, rsvH, isNonN, isNonB, isNonI, isNonS, isNonT, isNonL, isNonO, lenS, lenL, lenT, lenSc, seqL, seqT, kdN, kdB, kdI, kdS, kdT, kdL, Kd.isOf, br_t, br_f, itOk, VS.cellOf, wipeE, List.map_cons, List.map_nil, List.replicate_zero, List.replicate_succ, List.cons_append, List.nil_append, Nat.sub_self, Nat.reduceSub, Nat.reduceAdd, List.getElem?_cons_zero, List.getElem?_cons_succ, List.set_cons_zero, List.set_cons_succ, List.length_cons, List.length_nil, Option.some.injEq, exists_eq_left', exists_eq_left, exists_eq', exists_eq, D.int.injEq, D.bl.injEq, D.str.injEq, D.tup.injEq, D.lst.injEq, D.loc.injEq, List.cons.injEq, and_true, true_and, hup_same, ↓reduceIte, Nat.reduceLT, Nat.reduceEqDiff, reduceCtorEq, hup_hup, exists_and_left, Cell.lst.injEq, Nat.reduceLeDiff, Nat.zero_add, Bool.false_eq_true, ixN_ofNat, atI_ofNat, plnN, plnB, plnI, plnS, plnT, plnL, plns0, plnsC, depN, depB, depI, depS, depT, depL, deps0, depsC, eqbI, eqbS, eqbT, eqbL, eqbB, eqbs0, eqbsC, Nat.zero_le, br_not, Nat.max_zero, Nat.zero_max, Nat.max_self, Bool.and_true, Bool.true_and, Bool.not_true, Bool.not_false, beq_self_eq_true, wEq, wInL, wE_var, wE_cst, wE_glob, wE_bop, wE_neg, wE_not, wE_cmp, wE_chn, wE_andv, wE_orv, wE_ite, wE_tup, wE_lst, wE_ix, wE_slc, wE_rev, wE_call, wE_bi, wE_lrng1, wE_lrng2, wE_isi, wE_isx, wE_fld, wE_mt, wE_comp, wE_frz, wE_dnew, wEs_nil, wEs_cons, wO_none, wO_some, wC_val, wC_cmp, wC_chn, wC_not, wC_and, wC_or, wAndC_nil, wAndC_cons, wOrC_nil, wOrC_cons, wI_seq, wI_sgn, wI_rng1, wI_rng2, wI_enm, wI_zip2, wI_zip3, wS_asg, wS_par, wS_asgIx, wS_aug, wS_ex, wS_ret, wS_ret0, wS_ife, wS_whl, wS_fr, wS_rs, wS_never, wAdd_d, wMul_d, addKI, addKS, addKL, addKT, mulKI, mulKL, wSubI, wFdivI, wModI, wPowI, mkLt, mkLf, asgT_nm, asgT_tp, asgTs_nil, asgTs_cons, put_fn, put_glob, put_kc, frzKL, wCeq, wCne, wClt, wCle, wCleS, wCgt, wCge, wCis, wCisn, wCin, wCnin, wIn_d, inKS, inKL, inKTI, inKTS, inKD, wIx_d, ixKL, ixKT, ixKSc, ixKS, ixKD, wSlc_d, slcKL, slcKT, slcKS, wSet_h, wBIlen, wBIabs, wBIintI, wBIintB, wBIintS, wBIstrI, wBIstrS, wBIlist, wBItuple, wBIall, wBIany, wBImax1, wBImin1, wBIsum, wBIsorted, wBImin2, wBImax2, wMTappend, wMTpop, wMTclear, wMTjoin, wMTsplit, isRcvA, isRcvP, isRcvC, isRcvJ, isRcvSp, ex_lst, ex_lst0, b_tree_at_0, t3]
    refine ⟨p, sSplit, 32 :: (num k ++ 32 :: 91 :: (l.txt ++ 32 :: 124 :: 32 :: (w.txt ++ [93]))) ++ r, by simpa [Tr.txt] using hl, ?_, .inr ⟨32, _, rfl, .inl rfl⟩, by simp [Tr.txt], ?_⟩
    · intro c hc hd
      rcases hd with rfl | rfl <;> revert hc <;> decide
    try simp only [wSs_nil, wSs_cons, wAnd_one, wAnd_cons, wOr_one, wOr_cons, Tgs.len, eq_self, if_true, if_false, rsvN, rsvB, rsvI, rsvS, rsvT, rsvLs, rsvSc, rsvE, rsvH, isNonN, isNonB, isNonI, isNonS, isNonT, isNonL, isNonO, lenS, lenL, lenT, lenSc, seqL, seqT, kdN, kdB, kdI, kdS, kdT, kdL, Kd.isOf, br_t, br_f, itOk, VS.cellOf, wipeE, List.map_cons, List.map_nil, List.replicate_zero, List.replicate_succ, List.cons_append, List.nil_append, Nat.sub_self, Nat.reduceSub, Nat.reduceAdd, List.getElem?_cons_zero, List.getElem?_cons_succ, List.set_cons_zero, List.set_cons_succ, List.length_cons, List.length_nil, Option.some.injEq, exists_eq_left', exists_eq_left, exists_eq', exists_eq, D.int.injEq, D.bl.injEq, D.str.injEq, D.tup.injEq, D.lst.injEq, D.loc.injEq, List.cons.injEq, and_true, true_and, hup_same, ↓reduceIte, Nat.reduceLT, Nat.reduceEqDiff, reduceCtorEq, hup_hup, exists_and_left, Cell.lst.injEq, Nat.reduceLeDiff, Nat.zero_add, Bool.false_eq_true, ixN_ofNat, atI_ofNat, plnN, plnB, plnI, plnS, plnT, plnL, plns0, plnsC, depN, depB, depI, depS, depT, depL, deps0, depsC, eqbI, eqbS, eqbT, eqbL, eqbB, eqbs0, eqbsC, Nat.zero_le, br_not, Nat.max_zero, Nat.zero_max, Nat.max_self, Bool.and_true, Bool.true_and, Bool.not_true, Bool.not_false, beq_self_eq_true, wEq, wInL, wE_var, wE_cst, wE_glob, wE_bop, wE_neg, wE_not, wE_cmp, wE_chn, wE_andv, wE_orv, wE_ite, wE_tup, wE_lst, wE_ix, wE_slc, wE_rev, wE_call, wE_bi, wE_lrng1, wE_lrng2, wE_isi, wE_isx, wE_fld, wE_mt, wE_comp, wE_frz, wE_dnew, wEs_nil, wEs_cons, wO_none, wO_some, wC_val, wC_cmp, wC_chn, wC_not, wC_and, wC_or, wAndC_nil, wAndC_cons, wOrC_nil, wOrC_cons, wI_seq, wI_sgn, wI_rng1, wI_rng2, wI_enm, wI_zip2, wI_zip3, wS_asg, wS_par, wS_asgIx, wS_aug, wS_ex, wS_ret, wS_ret0, wS_ife, wS_whl, wS_fr, wS_rs, wS_never, wAdd_d, wMul_d, addKI, addKS, addKL, addKT, mulKI, mulKL, wSubI, wFdivI, wModI, wPowI, mkLt, mkLf, asgT_nm, asgT_tp, asgTs_nil, asgTs_cons, put_fn, put_glob, put_kc, frzKL, wCeq, wCne, wClt, wCle, wCleS, wCgt, wCge, wCis, wCisn, wCin, wCnin, wIn_d, inKS, inKL, inKTI, inKTS, inKD, wIx_d, ixKL, ixKT, ixKSc, ixKS, ixKD, wSlc_d, slcKL, slcKT, slcKS, wSet_h, wBIlen, wBIabs, wBIintI, wBIintB, wBIintS, wBIstrI, wBIstrS, wBIlist, wBItuple, wBIall, wBIany, wBImax1, wBImin1, wBIsum, wBIsorted, wBImin2, wBImax2, wMTappend, wMTpop, wMTclear, wMTjoin, wMTsplit, isRcvA, isRcvP, isRcvC, isRcvJ, isRcvSp, ex_lst, ex_lst0, b_tree_at_1]
    refine br_no (by decide) ?_
    try simp only [wSs_nil, wSs_cons, wAnd_one, wAnd_cons, wOr_one, wOr_cons, Tgs.len, eq_self, if_true, if_false, rsvN, rsvB, rsvI, rsvS, rsvT, rsvLs, rsvSc, rsvE, rsvH, isNonN, isNonB, isNonI, isNonS, isNonT, isNonL, isNonO, lenS, lenL, lenT, lenSc, seqL, seqT, kdN, kdB, kdI, kdS, kdT, kdL, Kd.isOf, br_t, br_f, itOk, VS.cellOf, wipeE, List.map_cons, List.map_nil, List.replicate_zero, List.replicate_succ, List.cons_append, List.nil_append, Nat.sub_self, Nat.reduceSub, Nat.reduceAdd, List.getElem?_cons_zero, List.getElem?_cons_succ, List.set_cons_zero, List.set_cons_succ, List.length_cons, List.length_nil, Option.some.injEq, exists_eq_left', exists_eq_left, exists_eq', exists_eq, D.int.injEq, D.bl.injEq, D.str.injEq, D.tup.injEq, D.lst.injEq, D.loc.injEq, List.cons.injEq, and_true, true_and, hup_same, ↓reduceIte, Nat.reduceLT, Nat.reduceEqDiff, reduceCtorEq, hup_hup, exists_and_left, Cell.lst.injEq, Nat.reduceLeDiff, Nat.zero_add, Bool.false_eq_true, ixN_ofNat, atI_ofNat, plnN, plnB, plnI, plnS, plnT, plnL, plns0, plnsC, depN, depB, depI, depS, depT, depL, deps0, depsC, eqbI, eqbS, eqbT, eqbL, eqbB, eqbs0, eqbsC, Nat.zero_le, br_not, Nat.max_zero, Nat.zero_max, Nat.max_self, Bool.and_true, Bool.true_and, Bool.not_true, Bool.not_false, beq_self_eq_true, wEq, wInL, wE_var, wE_cst, wE_glob, wE_bop, wE_neg, wE_not, wE_cmp, wE_chn, wE_andv, wE_orv, wE_ite, wE_tup, wE_lst, wE_ix, wE_slc, wE_rev, wE_call, wE_bi, wE_lrng1, wE_lrng2, wE_isi, wE_isx, wE_fld, wE_mt, wE_comp, wE_frz, wE_dnew, wEs_nil, wEs_cons, wO_none, wO_some, wC_val, wC_cmp, wC_chn, wC_not, wC_and, wC_or, wAndC_nil, wAndC_cons, wOrC_nil, wOrC_cons, wI_seq, wI_sgn, wI_rng1, wI_rng2, wI_enm, wI_zip2, wI_zip3, wS_asg, wS_par, wS_asgIx, wS_aug, wS_ex, wS_ret, wS_ret0, wS_ife, wS_whl, wS_fr, wS_rs, wS_never, wAdd_d, wMul_d, addKI, addKS, addKL, addKT, mulKI, mulKL, wSubI, wFdivI, wModI, wPowI, mkLt, mkLf, asgT_nm, asgT_tp, asgTs_nil, asgTs_cons, put_fn, put_glob, put_kc, frzKL, wCeq, wCne, wClt, wCle, wCleS, wCgt, wCge, wCis, wCisn, wCin, wCnin, wIn_d, inKS, inKL, inKTI, inKTS, inKD, wIx_d, ixKL, ixKT, ixKSc, ixKS, ixKD, wSlc_d, slcKL, slcKT, slcKS, wSet_h, wBIlen, wBIabs, wBIintI, wBIintB, wBIintS, wBIstrI, wBIstrS, wBIlist, wBItuple, wBIall, wBIany, wBImax1, wBImin1, wBIsum, wBIsorted, wBImin2, wBImax2, wMTappend, wMTpop, wMTclear, wMTjoin, wMTsplit, isRcvA, isRcvP, isRcvC, isRcvJ, isRcvSp, ex_lst, ex_lst0, b_tree_at_2]
    refine br_no (by decide) ?_
    try simp only [wSs_nil, wSs_cons, wAnd_one, wAnd_cons, wOr_one, wOr_cons, Tgs.len, eq_self, if_true, if_false, rsvN, rsvB, rsvI, rsvS, rsvT, rsvLs, rsvSc, rsvE, rsvH, isNonN, isNonB, isNonI, isNonS, isNonT, isNonL, isNonO, lenS, lenL, lenT, lenSc, seqL, seqT, kdN, kdB, kdI, kdS, kdT, kdL, Kd.isOf, br_t, br_f, itOk, VS.cellOf, wipeE, List.map_cons, List.map_nil, List.replicate_zero, List.replicate_succ, List.cons_append, List.nil_append, Nat.sub_self, Nat.reduceSub, Nat.reduceAdd, List.getElem?_cons_zero, List.getElem?_cons_succ, List.set_cons_zero, List.set_cons_succ, List.length_cons, List.length_nil, Option.some.injEq, exists_eq_left', exists_eq_left, exists_eq', exists_eq, D.int.injEq, D.bl.injEq, D.str.injEq, D.tup.injEq, D.lst.injEq, D.loc.injEq, List.cons.injEq, and_true, true_and, hup_same, ↓reduceIte, Nat.reduceLT, Nat.reduceEqDiff, reduceCtorEq, hup_hup, exists_and_left, Cell.lst.injEq, Nat.reduceLeDiff, Nat.zero_add, Bool.false_eq_true, ixN_ofNat, atI_ofNat, plnN, plnB, plnI, plnS, plnT, plnL, plns0, plnsC, depN, depB, depI, depS, depT, depL, deps0, depsC, eqbI, eqbS, eqbT, eqbL, eqbB, eqbs0, eqbsC, Nat.zero_le, br_not, Nat.max_zero, Nat.zero_max, Nat.max_self, Bool.and_true, Bool.true_and, Bool.not_true, Bool.not_false, beq_self_eq_true, wEq, wInL, wE_var, wE_cst, wE_glob, wE_bop, wE_neg, wE_not, wE_cmp, wE_chn, wE_andv, wE_orv, wE_ite, wE_tup, wE_lst, wE_ix, wE_slc, wE_rev, wE_call, wE_bi, wE_lrng1, wE_lrng2, wE_isi, wE_isx, wE_fld, wE_mt, wE_comp, wE_frz, wE_dnew, wEs_nil, wEs_cons, wO_none, wO_some, wC_val, wC_cmp, wC_chn, wC_not, wC_and, wC_or, wAndC_nil, wAndC_cons, wOrC_nil, wOrC_cons, wI_seq, wI_sgn, wI_rng1, wI_rng2, wI_enm, wI_zip2, wI_zip3, wS_asg, wS_par, wS_asgIx, wS_aug, wS_ex, wS_ret, wS_ret0, wS_ife, wS_whl, wS_fr, wS_rs, wS_never, wAdd_d, wMul_d, addKI, addKS, addKL, addKT, mulKI, mulKL, wSubI, wFdivI, wModI, wPowI, mkLt, mkLf, asgT_nm, asgT_tp, asgTs_nil, asgTs_cons, put_fn, put_glob, put_kc, frzKL, wCeq, wCne, wClt, wCle, wCleS, wCgt, wCge, wCis, wCisn, wCin, wCnin, wIn_d, inKS, inKL, inKTI, inKTS, inKD, wIx_d, ixKL, ixKT, ixKSc, ixKS, ixKD, wSlc_d, slcKL, slcKT, slcKS, wSet_h, wBIlen, wBIabs, wBIintI, wBIintB, wBIintS, wBIstrI, wBIstrS, wBIlist, wBItuple, wBIall, wBIany, wBImax1, wBImin1, wBIsum, wBIsorted, wBImin2, wBImax2, wMTappend, wMTpop, wMTclear, wMTjoin, wMTsplit, isRcvA, isRcvP, isRcvC, isRcvJ, isRcvSp, ex_lst, ex_lst0, b_tree_at_3, g4]
    refine br_no (decide_eq_false (by omega)) ?_
    try simp only [wSs_nil, wSs_cons, wAnd_one, wAnd_cons, wOr_one, wOr_cons, Tgs.len, eq_self, if_true, if_false, rsvN, rsvB, rsvI, rsvS, rsvT, rsvLs, rsvSc, rsvE, rsvH, isNonN, isNonB, isNonI, isNonS, isNonT, isNonL, isNonO, lenS, lenL, lenT, lenSc, seqL, seqT, kdN, kdB, kdI, kdS, kdT, kdL, Kd.isOf, br_t, br_f, itOk, VS.cellOf, wipeE, List.map_cons, List.map_nil, List.replicate_zero, List.replicate_succ, List.cons_append, List.nil_append, Nat.sub_self, Nat.reduceSub, Nat.reduceAdd, List.getElem?_cons_zero, List.getElem?_cons_succ, List.set_cons_zero, List.set_cons_succ, List.length_cons, List.length_nil, Option.some.injEq, exists_eq_left', exists_eq_left, exists_eq', exists_eq, D.int.injEq, D.bl.injEq, D.str.injEq, D.tup.injEq, D.lst.injEq, D.loc.injEq, List.cons.injEq, and_true, true_and, hup_same, ↓reduceIte, Nat.reduceLT, Nat.reduceEqDiff, reduceCtorEq, hup_hup, exists_and_left, Cell.lst.injEq, Nat.reduceLeDiff, Nat.zero_add, Bool.false_eq_true, ixN_ofNat, atI_ofNat, plnN, plnB, plnI, plnS, plnT, plnL, plns0, plnsC, depN, depB, depI, depS, depT, depL, deps0, depsC, eqbI, eqbS, eqbT, eqbL, eqbB, eqbs0, eqbsC, Nat.zero_le, br_not, Nat.max_zero, Nat.zero_max, Nat.max_self, Bool.and_true, Bool.true_and, Bool.not_true, Bool.not_false, beq_self_eq_true, wEq, wInL, wE_var, wE_cst, wE_glob, wE_bop, wE_neg, wE_not, wE_cmp, wE_chn, wE_andv, wE_orv, wE_ite, wE_tup, wE_lst, wE_ix, wE_slc, wE_rev, wE_call, wE_bi, wE_lrng1, wE_lrng2, wE_isi, wE_isx, wE_fld, wE_mt, wE_comp, wE_frz, wE_dnew, wEs_nil, wEs_cons, wO_none, wO_some, wC_val, wC_cmp, wC_chn, wC_not, wC_and, wC_or, wAndC_nil, wAndC_cons, wOrC_nil, wOrC_cons, wI_seq, wI_sgn, wI_rng1, wI_rng2, wI_enm, wI_zip2, wI_zip3, wS_asg, wS_par, wS_asgIx, wS_aug, wS_ex, wS_ret, wS_ret0, wS_ife, wS_whl, wS_fr, wS_rs, wS_never, wAdd_d, wMul_d, addKI, addKS, addKL, addKT, mulKI, mulKL, wSubI, wFdivI, wModI, wPowI, mkLt, mkLf, asgT_nm, asgT_tp, asgTs_nil, asgTs_cons, put_fn, put_glob, put_kc, frzKL, wCeq, wCne, wClt, wCle, wCleS, wCgt, wCge, wCis, wCisn, wCin, wCnin, wIn_d, inKS, inKL, inKTI, inKTS, inKD, wIx_d, ixKL, ixKT, ixKSc, ixKS, ixKD, wSlc_d, slcKL, slcKT, slcKS, wSet_h, wBIlen, wBIabs, wBIintI, wBIintB, wBIintS, wBIstrI, wBIstrS, wBIlist, wBItuple, wBIall, wBIany, wBImax1, wBImin1, wBIsum, wBIsorted, wBImin2, wBImax2, wMTappend, wMTpop, wMTclear, wMTjoin, wMTsplit, isRcvA, isRcvP, isRcvC, isRcvJ, isRcvSp, ex_lst, ex_lst0, b_tree_at_4, t4]
    refine ⟨p, [115, 112, 108, 105, 116, 32], num k ++ 32 :: 91 :: (l.txt ++ 32 :: 124 :: 32 :: (w.txt ++ [93])) ++ r, by simpa [Tr.txt, sSplit] using hl, by simp [Tr.txt, sSplit], ?_⟩
    try simp only [wSs_nil, wSs_cons, wAnd_one, wAnd_cons, wOr_one, wOr_cons, Tgs.len, eq_self, if_true, if_false, rsvN, rsvB, rsvI, rsvS, rsvT, rsvLs, rsvSc, rsvE, rsvH, isNonN, isNonB, isNonI, isNonS, isNonT, isNonL, isNonO, lenS, lenL, lenT, lenSc, seqL, seqT, kdN, kdB, kdI, kdS, kdT, kdL, Kd.isOf, br_t, br_f, itOk, VS.cellOf, wipeE, List.map_cons, List.map_nil, List.replicate_zero, List.replicate_succ, List.cons_append, List.nil_append, Nat.sub_self, Nat.reduceSub, Nat.reduceAdd, List.getElem?_cons_zero, List.getElem?_cons_succ, List.set_cons_zero, List.set_cons_succ, List.length_cons, List.length_nil, Option.some.injEq, exists_eq_left', exists_eq_left, exists_eq', exists_eq, D.int.injEq, D.bl.injEq, D.str.injEq, D.tup.injEq, D.lst.injEq, D.loc.injEq, List.cons.injEq, and_true, true_and, hup_same, ↓reduceIte, Nat.reduceLT, Nat.reduceEqDiff, reduceCtorEq, hup_hup, exists_and_left, Cell.lst.injEq, Nat.reduceLeDiff, Nat.zero_add, Bool.false_eq_true, ixN_ofNat, atI_ofNat, plnN, plnB, plnI, plnS, plnT, plnL, plns0, plnsC, depN, depB, depI, depS, depT, depL, deps0, depsC, eqbI, eqbS, eqbT, eqbL, eqbB, eqbs0, eqbsC, Nat.zero_le, br_not, Nat.max_zero, Nat.zero_max, Nat.max_self, Bool.and_true, Bool.true_and, Bool.not_true, Bool.not_false, beq_self_eq_true, wEq, wInL, wE_var, wE_cst, wE_glob, wE_bop, wE_neg, wE_not, wE_cmp, wE_chn, wE_andv, wE_orv, wE_ite, wE_tup, wE_lst, wE_ix, wE_slc, wE_rev, wE_call, wE_bi, wE_lrng1, wE_lrng2, wE_isi, wE_isx, wE_fld, wE_mt, wE_comp, wE_frz, wE_dnew, wEs_nil, wEs_cons, wO_none, wO_some, wC_val, wC_cmp, wC_chn, wC_not, wC_and, wC_or, wAndC_nil, wAndC_cons, wOrC_nil, wOrC_cons, wI_seq, wI_sgn, wI_rng1, wI_rng2, wI_enm, wI_zip2, wI_zip3, wS_asg, wS_par, wS_asgIx, wS_aug, wS_ex, wS_ret, wS_ret0, wS_ife, wS_whl, wS_fr, wS_rs, wS_never, wAdd_d, wMul_d, addKI, addKS, addKL, addKT, mulKI, mulKL, wSubI, wFdivI, wModI, wPowI, mkLt, mkLf, asgT_nm, asgT_tp, asgTs_nil, asgTs_cons, put_fn, put_glob, put_kc, frzKL, wCeq, wCne, wClt, wCle, wCleS, wCgt, wCge, wCis, wCisn, wCin, wCnin, wIn_d, inKS, inKL, inKTI, inKTS, inKD, wIx_d, ixKL, ixKT, ixKSc, ixKS, ixKD, wSlc_d, slcKL, slcKT, slcKS, wSet_h, wBIlen, wBIabs, wBIintI, wBIintB, wBIintS, wBIstrI, wBIstrS, wBIlist, wBItuple, wBIall, wBIany, wBImax1, wBImin1, wBIsum, wBIsorted, wBImin2, wBImax2, wMTappend, wMTpop, wMTclear, wMTjoin, wMTsplit, isRcvA, isRcvP, isRcvC, isRcvJ, isRcvSp, ex_lst, ex_lst0, g2, t5]
    refine ⟨p ++ [115, 112, 108, 105, 116, 32], 32 :: 91 :: (l.txt ++ 32 :: 124 :: 32 :: (w.txt ++ [93])) ++ r, k, 20, by simpa [Tr.txt, sSplit] using hl, .inr ⟨32, _, rfl, .inl rfl⟩, by omega, hk, by simp [Tr.txt, sSplit], ?_⟩
    try simp only [wSs_nil, wSs_cons, wAnd_one, wAnd_cons, wOr_one, wOr_cons, Tgs.len, eq_self, if_true, if_false, rsvN, rsvB, rsvI, rsvS, rsvT, rsvLs, rsvSc, rsvE, rsvH, isNonN, isNonB, isNonI, isNonS, isNonT, isNonL, isNonO, lenS, lenL, lenT, lenSc, seqL, seqT, kdN, kdB, kdI, kdS, kdT, kdL, Kd.isOf, br_t, br_f, itOk, VS.cellOf, wipeE, List.map_cons, List.map_nil, List.replicate_zero, List.replicate_succ, List.cons_append, List.nil_append, Nat.sub_self, Nat.reduceSub, Nat.reduceAdd, List.getElem?_cons_zero, List.getElem?_cons_succ, List.set_cons_zero, List.set_cons_succ, List.length_cons, List.length_nil, Option.some.injEq, exists_eq_left', exists_eq_left, exists_eq', exists_eq, D.int.injEq, D.bl.injEq, D.str.injEq, D.tup.injEq, D.lst.injEq, D.loc.injEq, List.cons.injEq, and_true, true_and, hup_same, ↓reduceIte, Nat.reduceLT, Nat.reduceEqDiff, reduceCtorEq, hup_hup, exists_and_left, Cell.lst.injEq, Nat.reduceLeDiff, Nat.zero_add, Bool.false_eq_true, ixN_ofNat, atI_ofNat, plnN, plnB, plnI, plnS, plnT, plnL, plns0, plnsC, depN, depB, depI, depS, depT, depL, deps0, depsC, eqbI, eqbS, eqbT, eqbL, eqbB, eqbs0, eqbsC, Nat.zero_le, br_not, Nat.max_zero, Nat.zero_max, Nat.max_self, Bool.and_true, Bool.true_and, Bool.not_true, Bool.not_false, beq_self_eq_true, wEq, wInL, wE_var, wE_cst, wE_glob, wE_bop, wE_neg, wE_not, wE_cmp, wE_chn, wE_andv, wE_orv, wE_ite, wE_tup, wE_lst, wE_ix, wE_slc, wE_rev, wE_call, wE_bi, wE_lrng1, wE_lrng2, wE_isi, wE_isx, wE_fld, wE_mt, wE_comp, wE_frz, wE_dnew, wEs_nil, wEs_cons, wO_none, wO_some, wC_val, wC_cmp, wC_chn, wC_not, wC_and, wC_or, wAndC_nil, wAndC_cons, wOrC_nil, wOrC_cons, wI_seq, wI_sgn, wI_rng1, wI_rng2, wI_enm, wI_zip2, wI_zip3, wS_asg, wS_par, wS_asgIx, wS_aug, wS_ex, wS_ret, wS_ret0, wS_ife, wS_whl, wS_fr, wS_rs, wS_never, wAdd_d, wMul_d, addKI, addKS, addKL, addKT, mulKI, mulKL, wSubI, wFdivI, wModI, wPowI, mkLt, mkLf, asgT_nm, asgT_tp, asgTs_nil, asgTs_cons, put_fn, put_glob, put_kc, frzKL, wCeq, wCne, wClt, wCle, wCleS, wCgt, wCge, wCis, wCisn, wCin, wCnin, wIn_d, inKS, inKL, inKTI, inKTS, inKD, wIx_d, ixKL, ixKT, ixKSc, ixKS, ixKD, wSlc_d, slcKL, slcKT, slcKS, wSet_h, wBIlen, wBIabs, wBIintI, wBIintB, wBIintS, wBIstrI, wBIstrS, wBIlist, wBItuple, wBIall, wBIany, wBImax1, wBImin1, wBIsum, wBIsorted, wBImin2, wBImax2, wMTappend, wMTpop, wMTclear, wMTjoin, wMTsplit, isRcvA, isRcvP, isRcvC, isRcvJ, isRcvSp, ex_lst, ex_lst0]
        try simp only [wSs_nil, wSs_cons, wAnd_one, wAnd_cons, wOr_one, wOr_cons, Tgs.len, eq_self, if_true, if_false, rsvN, rsvB, rsvI, rsvS, rsvT, rsvLs, rsvSc, rsvE, rsvH, isNonN, isNonB, isNonI, isNonS, isNonT, isNonL, isNonO, lenS, lenL, lenT, lenSc, seqL, seqT, kdN, kdB, kdI, kdS, kdT, kdL, Kd.isOf, br_t, br_f, itOk, VS.cellOf, wipeE, List.map_cons, List.map_nil, List.replicate_zero, List.replicate_succ, List.cons_append, List.nil_append, Nat.sub_self, Nat.reduceSub, Nat.reduceAdd, List.getElem?_cons_zero, List.getElem?_cons_succ, List.set_cons_zero, List.set_cons_succ, List.length_cons, List.length_nil, Option.some.injEq, exists_eq_left', exists_eq_left, exists_eq', exists_eq, D.int.injEq, D.bl.injEq, D.str.injEq, D.tup.injEq, D.lst.injEq, D.loc.injEq, List.cons.injEq, and_true, true_and, hup_same, ↓reduceIte, Nat.reduceLT, Nat.reduceEqDiff, reduceCtorEq, hup_hup, exists_and_left, Cell.lst.injEq, Nat.reduceLeDiff, Nat.zero_add, Bool.false_eq_true, ixN_ofNat, atI_ofNat, plnN, plnB, plnI, plnS, plnT, plnL, plns0, plnsC, depN, depB, depI, depS, depT, depL, deps0, depsC, eqbI, eqbS, eqbT, eqbL, eqbB, eqbs0, eqbsC, Nat.zero_le, br_not, Nat.max_zero, Nat.zero_max, Nat.max_self, Bool.and_true, Bool.true_and, Bool.not_true, Bool.not_false, beq_self_eq_true, wEq, wInL, wE_var, wE_cst, wE_glob, wE_bop, wE_neg, wE_not, wE_cmp, wE_chn, wE_andv, wE_orv, wE_ite, wE_tup, wE_lst, wE_ix, wE_slc, wE_rev, wE_call, wE_bi, wE_lrng1, wE_lrng2, wE_isi, wE_isx, wE_fld, wE_mt, wE_comp, wE_frz, wE_dnew, wEs_nil, wEs_cons, wO_none, wO_some, wC_val, wC_cmp, wC_chn, wC_not, wC_and, wC_or, wAndC_nil, wAndC_cons, wOrC_nil, wOrC_cons, wI_seq, wI_sgn, wI_rng1, wI_rng2, wI_enm, wI_zip2, wI_zip3, wS_asg, wS_par, wS_asgIx, wS_aug, wS_ex, wS_ret, wS_ret0, wS_ife, wS_whl, wS_fr, wS_rs, wS_never, wAdd_d, wMul_d, addKI, addKS, addKL, addKT, mulKI, mulKL, wSubI, wFdivI, wModI, wPowI, mkLt, mkLf, asgT_nm, asgT_tp, asgTs_nil, asgTs_cons, put_fn, put_glob, put_kc, frzKL, wCeq, wCne, wClt, wCle, wCleS, wCgt, wCge, wCis, wCisn, wCin, wCnin, wIn_d, inKS, inKL, inKTI, inKTS, inKD, wIx_d, ixKL, ixKT, ixKSc, ixKS, ixKD, wSlc_d, slcKL, slcKT, slcKS, wSet_h, wBIlen, wBIabs, wBIintI, wBIintB, wBIintS, wBIstrI, wBIstrS, wBIlist, wBItuple, wBIall, wBIany, wBImax1, wBImin1, wBIsum, wBIsorted, wBImin2, wBImax2, wMTappend, wMTpop, wMTclear, wMTjoin, wMTsplit, isRcvA, isRcvP, isRcvC, isRcvJ, isRcvSp, ex_lst, ex_lst0, b_tree_at_5, t4]
    refine ⟨p ++ [115, 112, 108, 105, 116, 32] ++ num k, [32, 91], l.txt ++ 32 :: 124 :: 32 :: (w.txt ++ [93]) ++ r, by simpa [Tr.txt, sSplit] using hl, by simp [Tr.txt, sSplit], ?_⟩
    try simp only [wSs_nil, wSs_cons, wAnd_one, wAnd_cons, wOr_one, wOr_cons, Tgs.len, eq_self, if_true, if_false, rsvN, rsvB, rsvI, rsvS, rsvT, rsvLs, rsvSc, rsvE, rsvH, isNonN, isNonB, isNonI, isNonS, isNonT, isNonL, isNonO, lenS, lenL, lenT, lenSc, seqL, seqT, kdN, kdB, kdI, kdS, kdT, kdL, Kd.isOf, br_t, br_f, itOk, VS.cellOf, wipeE, List.map_cons, List.map_nil, List.replicate_zero, List.replicate_succ, List.cons_append, List.nil_append, Nat.sub_self, Nat.reduceSub, Nat.reduceAdd, List.getElem?_cons_zero, List.getElem?_cons_succ, List.set_cons_zero, List.set_cons_succ, List.length_cons, List.length_nil, Option.some.injEq, exists_eq_left', exists_eq_left, exists_eq', exists_eq, D.int.injEq, D.bl.injEq, D.str.injEq, D.tup.injEq, D.lst.injEq, D.loc.injEq, List.cons.injEq, and_true, true_and, hup_same, ↓reduceIte, Nat.reduceLT, Nat.reduceEqDiff, reduceCtorEq, hup_hup, exists_and_left, Cell.lst.injEq, Nat.reduceLeDiff, Nat.zero_add, Bool.false_eq_true, ixN_ofNat, atI_ofNat, plnN, plnB, plnI, plnS, plnT, plnL, plns0, plnsC, depN, depB, depI, depS, depT, depL, deps0, depsC, eqbI, eqbS, eqbT, eqbL, eqbB, eqbs0, eqbsC, Nat.zero_le, br_not, Nat.max_zero, Nat.zero_max, Nat.max_self, Bool.and_true, Bool.true_and, Bool.not_true, Bool.not_false, beq_self_eq_true, wEq, wInL, wE_var, wE_cst, wE_glob, wE_bop, wE_neg, wE_not, wE_cmp, wE_chn, wE_andv, wE_orv, wE_ite, wE_tup, wE_lst, wE_ix, wE_slc, wE_rev, wE_call, wE_bi, wE_lrng1, wE_lrng2, wE_isi, wE_isx, wE_fld, wE_mt, wE_comp, wE_frz, wE_dnew, wEs_nil, wEs_cons, wO_none, wO_some, wC_val, wC_cmp, wC_chn, wC_not, wC_and, wC_or, wAndC_nil, wAndC_cons, wOrC_nil, wOrC_cons, wI_seq, wI_sgn, wI_rng1, wI_rng2, wI_enm, wI_zip2, wI_zip3, wS_asg, wS_par, wS_asgIx, wS_aug, wS_ex, wS_ret, wS_ret0, wS_ife, wS_whl, wS_fr, wS_rs, wS_never, wAdd_d, wMul_d, addKI, addKS, addKL, addKT, mulKI, mulKL, wSubI, wFdivI, wModI, wPowI, mkLt, mkLf, asgT_nm, asgT_tp, asgTs_nil, asgTs_cons, put_fn, put_glob, put_kc, frzKL, wCeq, wCne, wClt, wCle, wCleS, wCgt, wCge, wCis, wCisn, wCin, wCnin, wIn_d, inKS, inKL, inKTI, inKTS, inKD, wIx_d, ixKL, ixKT, ixKSc, ixKS, ixKD, wSlc_d, slcKL, slcKT, slcKS, wSet_h, wBIlen, wBIabs, wBIintI, wBIintB, wBIintS, wBIstrI, wBIstrS, wBIlist, wBItuple, wBIall, wBIany, wBImax1, wBImin1, wBIsum, wBIsorted, wBImin2, wBImax2, wMTappend, wMTpop, wMTclear, wMTjoin, wMTsplit, isRcvA, isRcvP, isRcvC, isRcvJ, isRcvSp, ex_lst, ex_lst0]
    refine ⟨p ++ [115, 112, 108, 105, 116, 32] ++ num k ++ [32, 91], 32 :: 124 :: 32 :: (w.txt ++ [93]) ++ r, l, e + 1, by simpa [Tr.txt, sSplit] using hl, .inr ⟨32, _, rfl, .inl rfl⟩, ok.2.1, by omega, by omega, by simp [Tr.txt, sSplit], ?_⟩
    try simp only [wSs_nil, wSs_cons, wAnd_one, wAnd_cons, wOr_one, wOr_cons, Tgs.len, eq_self, if_true, if_false, rsvN, rsvB, rsvI, rsvS, rsvT, rsvLs, rsvSc, rsvE, rsvH, isNonN, isNonB, isNonI, isNonS, isNonT, isNonL, isNonO, lenS, lenL, lenT, lenSc, seqL, seqT, kdN, kdB, kdI, kdS, kdT, kdL, Kd.isOf, br_t, br_f, itOk, VS.cellOf, wipeE, List.map_cons, List.map_nil, List.replicate_zero, List.replicate_succ, List.cons_append, List.nil_append, Nat.sub_self, Nat.reduceSub, Nat.reduceAdd, List.getElem?_cons_zero, List.getElem?_cons_succ, List.set_cons_zero, List.set_cons_succ, List.length_cons, List.length_nil, Option.some.injEq, exists_eq_left', exists_eq_left, exists_eq', exists_eq, D.int.injEq, D.bl.injEq, D.str.injEq, D.tup.injEq, D.lst.injEq, D.loc.injEq, List.cons.injEq, and_true, true_and, hup_same, ↓reduceIte, Nat.reduceLT, Nat.reduceEqDiff, reduceCtorEq, hup_hup, exists_and_left, Cell.lst.injEq, Nat.reduceLeDiff, Nat.zero_add, Bool.false_eq_true, ixN_ofNat, atI_ofNat, plnN, plnB, plnI, plnS, plnT, plnL, plns0, plnsC, depN, depB, depI, depS, depT, depL, deps0, depsC, eqbI, eqbS, eqbT, eqbL, eqbB, eqbs0, eqbsC, Nat.zero_le, br_not, Nat.max_zero, Nat.zero_max, Nat.max_self, Bool.and_true, Bool.true_and, Bool.not_true, Bool.not_false, beq_self_eq_true, wEq, wInL, wE_var, wE_cst, wE_glob, wE_bop, wE_neg, wE_not, wE_cmp, wE_chn, wE_andv, wE_orv, wE_ite, wE_tup, wE_lst, wE_ix, wE_slc, wE_rev, wE_call, wE_bi, wE_lrng1, wE_lrng2, wE_isi, wE_isx, wE_fld, wE_mt, wE_comp, wE_frz, wE_dnew, wEs_nil, wEs_cons, wO_none, wO_some, wC_val, wC_cmp, wC_chn, wC_not, wC_and, wC_or, wAndC_nil, wAndC_cons, wOrC_nil, wOrC_cons, wI_seq, wI_sgn, wI_rng1, wI_rng2, wI_enm, wI_zip2, wI_zip3, wS_asg, wS_par, wS_asgIx, wS_aug, wS_ex, wS_ret, wS_ret0, wS_ife, wS_whl, wS_fr, wS_rs, wS_never, wAdd_d, wMul_d, addKI, addKS, addKL, addKT, mulKI, mulKL, wSubI, wFdivI, wModI, wPowI, mkLt, mkLf, asgT_nm, asgT_tp, asgTs_nil, asgTs_cons, put_fn, put_glob, put_kc, frzKL, wCeq, wCne, wClt, wCle, wCleS, wCgt, wCge, wCis, wCisn, wCin, wCnin, wIn_d, inKS, inKL, inKTI, inKTS, inKD, wIx_d, ixKL, ixKT, ixKSc, ixKS, ixKD, wSlc_d, slcKL, slcKT, slcKS, wSet_h, wBIlen, wBIabs, wBIintI, wBIintB, wBIintS, wBIstrI, wBIstrS, wBIlist, wBItuple, wBIall, wBIany, wBImax1, wBImin1, wBIsum, wBIsorted, wBImin2, wBImax2, wMTappend, wMTpop, wMTclear, wMTjoin, wMTsplit, isRcvA, isRcvP, isRcvC, isRcvJ, isRcvSp, ex_lst, ex_lst0]
        try simp only [wSs_nil, wSs_cons, wAnd_one, wAnd_cons, wOr_one, wOr_cons, Tgs.len, eq_self, if_true, if_false, rsvN, rsvB, rsvI, rsvS, rsvT, rsvLs, rsvSc, rsvE, rsvH, isNonN, isNonB, isNonI, isNonS, isNonT, isNonL, isNonO, lenS, lenL, lenT, lenSc, seqL, seqT, kdN, kdB, kdI, kdS, kdT, kdL, Kd.isOf, br_t, br_f, itOk, VS.cellOf, wipeE, List.map_cons, List.map_nil, List.replicate_zero, List.replicate_succ, List.cons_append, List.nil_append, Nat.sub_self, Nat.reduceSub, Nat.reduceAdd, List.getElem?_cons_zero, List.getElem?_cons_succ, List.set_cons_zero, List.set_cons_succ, List.length_cons, List.length_nil, Option.some.injEq, exists_eq_left', exists_eq_left, exists_eq', exists_eq, D.int.injEq, D.bl.injEq, D.str.injEq, D.tup.injEq, D.lst.injEq, D.loc.injEq, List.cons.injEq, and_true, true_and, hup_same, ↓reduceIte, Nat.reduceLT, Nat.reduceEqDiff, reduceCtorEq, hup_hup, exists_and_left, Cell.lst.injEq, Nat.reduceLeDiff, Nat.zero_add, Bool.false_eq_true, ixN_ofNat, atI_ofNat, plnN, plnB, plnI, plnS, plnT, plnL, plns0, plnsC, depN, depB, depI, depS, depT, depL, deps0, depsC, eqbI, eqbS, eqbT, eqbL, eqbB, eqbs0, eqbsC, Nat.zero_le, br_not, Nat.max_zero, Nat.zero_max, Nat.max_self, Bool.and_true, Bool.true_and, Bool.not_true, Bool.not_false, beq_self_eq_true, wEq, wInL, wE_var, wE_cst, wE_glob, wE_bop, wE_neg, wE_not, wE_cmp, wE_chn, wE_andv, wE_orv, wE_ite, wE_tup, wE_lst, wE_ix, wE_slc, wE_rev, wE_call, wE_bi, wE_lrng1, wE_lrng2, wE_isi, wE_isx, wE_fld, wE_mt, wE_comp, wE_frz, wE_dnew, wEs_nil, wEs_cons, wO_none, wO_some, wC_val, wC_cmp, wC_chn, wC_not, wC_and, wC_or, wAndC_nil, wAndC_cons, wOrC_nil, wOrC_cons, wI_seq, wI_sgn, wI_rng1, wI_rng2, wI_enm, wI_zip2, wI_zip3, wS_asg, wS_par, wS_asgIx, wS_aug, wS_ex, wS_ret, wS_ret0, wS_ife, wS_whl, wS_fr, wS_rs, wS_never, wAdd_d, wMul_d, addKI, addKS, addKL, addKT, mulKI, mulKL, wSubI, wFdivI, wModI, wPowI, mkLt, mkLf, asgT_nm, asgT_tp, asgTs_nil, asgTs_cons, put_fn, put_glob, put_kc, frzKL, wCeq, wCne, wClt, wCle, wCleS, wCgt, wCge, wCis, wCisn, wCin, wCnin, wIn_d, inKS, inKL, inKTI, inKTS, inKD, wIx_d, ixKL, ixKT, ixKSc, ixKS, ixKD, wSlc_d, slcKL, slcKT, slcKS, wSet_h, wBIlen, wBIabs, wBIintI, wBIintB, wBIintS, wBIstrI, wBIstrS, wBIlist, wBItuple, wBIall, wBIany, wBImax1, wBImin1, wBIsum, wBIsorted, wBImin2, wBImax2, wMTappend, wMTpop, wMTclear, wMTjoin, wMTsplit, isRcvA, isRcvP, isRcvC, isRcvJ, isRcvSp, ex_lst, ex_lst0, b_tree_at_6, t4]
    refine ⟨p ++ [115, 112, 108, 105, 116, 32] ++ num k ++ [32, 91] ++ l.txt, [32, 124, 32], w.txt ++ [93] ++ r, by simpa [Tr.txt, sSplit] using hl, by simp [Tr.txt, sSplit], ?_⟩
    try simp only [wSs_nil, wSs_cons, wAnd_one, wAnd_cons, wOr_one, wOr_cons, Tgs.len, eq_self, if_true, if_false, rsvN, rsvB, rsvI, rsvS, rsvT, rsvLs, rsvSc, rsvE, rsvH, isNonN, isNonB, isNonI, isNonS, isNonT, isNonL, isNonO, lenS, lenL, lenT, lenSc, seqL, seqT, kdN, kdB, kdI, kdS, kdT, kdL, Kd.isOf, br_t, br_f, itOk, VS.cellOf, wipeE, List.map_cons, List.map_nil, List.replicate_zero, List.replicate_succ, List.cons_append, List.nil_append, Nat.sub_self, Nat.reduceSub, Nat.reduceAdd, List.getElem?_cons_zero, List.getElem?_cons_succ, List.set_cons_zero, List.set_cons_succ, List.length_cons, List.length_nil, Option.some.injEq, exists_eq_left', exists_eq_left, exists_eq', exists_eq, D.int.injEq, D.bl.injEq, D.str.injEq, D.tup.injEq, D.lst.injEq, D.loc.injEq, List.cons.injEq, and_true, true_and, hup_same, ↓reduceIte, Nat.reduceLT, Nat.reduceEqDiff, reduceCtorEq, hup_hup, exists_and_left, Cell.lst.injEq, Nat.reduceLeDiff, Nat.zero_add, Bool.false_eq_true, ixN_ofNat, atI_ofNat, plnN, plnB, plnI, plnS, plnT, plnL, plns0, plnsC, depN, depB, depI, depS, depT, depL, deps0, depsC, eqbI, eqbS, eqbT, eqbL, eqbB, eqbs0, eqbsC, Nat.zero_le, br_not, Nat.max_zero, Nat.zero_max, Nat.max_self, Bool.and_true, Bool.true_and, Bool.not_true, Bool.not_false, beq_self_eq_true, wEq, wInL, wE_var, wE_cst, wE_glob, wE_bop, wE_neg, wE_not, wE_cmp, wE_chn, wE_andv, wE_orv, wE_ite, wE_tup, wE_lst, wE_ix, wE_slc, wE_rev, wE_call, wE_bi, wE_lrng1, wE_lrng2, wE_isi, wE_isx, wE_fld, wE_mt, wE_comp, wE_frz, wE_dnew, wEs_nil, wEs_cons, wO_none, wO_some, wC_val, wC_cmp, wC_chn, wC_not, wC_and, wC_or, wAndC_nil, wAndC_cons, wOrC_nil, wOrC_cons, wI_seq, wI_sgn, wI_rng1, wI_rng2, wI_enm, wI_zip2, wI_zip3, wS_asg, wS_par, wS_asgIx, wS_aug, wS_ex, wS_ret, wS_ret0, wS_ife, wS_whl, wS_fr, wS_rs, wS_never, wAdd_d, wMul_d, addKI, addKS, addKL, addKT, mulKI, mulKL, wSubI, wFdivI, wModI, wPowI, mkLt, mkLf, asgT_nm, asgT_tp, asgTs_nil, asgTs_cons, put_fn, put_glob, put_kc, frzKL, wCeq, wCne, wClt, wCle, wCleS, wCgt, wCge, wCis, wCisn, wCin, wCnin, wIn_d, inKS, inKL, inKTI, inKTS, inKD, wIx_d, ixKL, ixKT, ixKSc, ixKS, ixKD, wSlc_d, slcKL, slcKT, slcKS, wSet_h, wBIlen, wBIabs, wBIintI, wBIintB, wBIintS, wBIstrI, wBIstrS, wBIlist, wBItuple, wBIall, wBIany, wBImax1, wBImin1, wBIsum, wBIsorted, wBImin2, wBImax2, wMTappend, wMTpop, wMTclear, wMTjoin, wMTsplit, isRcvA, isRcvP, isRcvC, isRcvJ, isRcvSp, ex_lst, ex_lst0]
    refine ⟨p ++ [115, 112, 108, 105, 116, 32] ++ num k ++ [32, 91] ++ l.txt ++ [32, 124, 32], [93] ++ r, w, e + 1, by simpa [Tr.txt, sSplit] using hl, .inr ⟨93, _, rfl, .inr rfl⟩, ok.2.2, by omega, by omega, by simp [Tr.txt, sSplit], ?_⟩
    try simp only [wSs_nil, wSs_cons, wAnd_one, wAnd_cons, wOr_one, wOr_cons, Tgs.len, eq_self, if_true, if_false, rsvN, rsvB, rsvI, rsvS, rsvT, rsvLs, rsvSc, rsvE, rsvH, isNonN, isNonB, isNonI, isNonS, isNonT, isNonL, isNonO, lenS, lenL, lenT, lenSc, seqL, seqT, kdN, kdB, kdI, kdS, kdT, kdL, Kd.isOf, br_t, br_f, itOk, VS.cellOf, wipeE, List.map_cons, List.map_nil, List.replicate_zero, List.replicate_succ, List.cons_append, List.nil_append, Nat.sub_self, Nat.reduceSub, Nat.reduceAdd, List.getElem?_cons_zero, List.getElem?_cons_succ, List.set_cons_zero, List.set_cons_succ, List.length_cons, List.length_nil, Option.some.injEq, exists_eq_left', exists_eq_left, exists_eq', exists_eq, D.int.injEq, D.bl.injEq, D.str.injEq, D.tup.injEq, D.lst.injEq, D.loc.injEq, List.cons.injEq, and_true, true_and, hup_same, ↓reduceIte, Nat.reduceLT, Nat.reduceEqDiff, reduceCtorEq, hup_hup, exists_and_left, Cell.lst.injEq, Nat.reduceLeDiff, Nat.zero_add, Bool.false_eq_true, ixN_ofNat, atI_ofNat, plnN, plnB, plnI, plnS, plnT, plnL, plns0, plnsC, depN, depB, depI, depS, depT, depL, deps0, depsC, eqbI, eqbS, eqbT, eqbL, eqbB, eqbs0, eqbsC, Nat.zero_le, br_not, Nat.max_zero, Nat.zero_max, Nat.max_self, Bool.and_true, Bool.true_and, Bool.not_true, Bool.not_false, beq_self_eq_true, wEq, wInL, wE_var, wE_cst, wE_glob, wE_bop, wE_neg, wE_not, wE_cmp, wE_chn, wE_andv, wE_orv, wE_ite, wE_tup, wE_lst, wE_ix, wE_slc, wE_rev, wE_call, wE_bi, wE_lrng1, wE_lrng2, wE_isi, wE_isx, wE_fld, wE_mt, wE_comp, wE_frz, wE_dnew, wEs_nil, wEs_cons, wO_none, wO_some, wC_val, wC_cmp, wC_chn, wC_not, wC_and, wC_or, wAndC_nil, wAndC_cons, wOrC_nil, wOrC_cons, wI_seq, wI_sgn, wI_rng1, wI_rng2, wI_enm, wI_zip2, wI_zip3, wS_asg, wS_par, wS_asgIx, wS_aug, wS_ex, wS_ret, wS_ret0, wS_ife, wS_whl, wS_fr, wS_rs, wS_never, wAdd_d, wMul_d, addKI, addKS, addKL, addKT, mulKI, mulKL, wSubI, wFdivI, wModI, wPowI, mkLt, mkLf, asgT_nm, asgT_tp, asgTs_nil, asgTs_cons, put_fn, put_glob, put_kc, frzKL, wCeq, wCne, wClt, wCle, wCleS, wCgt, wCge, wCis, wCisn, wCin, wCnin, wIn_d, inKS, inKL, inKTI, inKTS, inKD, wIx_d, ixKL, ixKT, ixKSc, ixKS, ixKD, wSlc_d, slcKL, slcKT, slcKS, wSet_h, wBIlen, wBIabs, wBIintI, wBIintB, wBIintS, wBIstrI, wBIstrS, wBIlist, wBItuple, wBIall, wBIany, wBImax1, wBImin1, wBIsum, wBIsorted, wBImin2, wBImax2, wMTappend, wMTpop, wMTclear, wMTjoin, wMTsplit, isRcvA, isRcvP, isRcvC, isRcvJ, isRcvSp, ex_lst, ex_lst0]
        try simp only [wSs_nil, wSs_cons, wAnd_one, wAnd_cons, wOr_one, wOr_cons, Tgs.len, eq_self, if_true, if_false, rsvN, rsvB, rsvI, rsvS, rsvT, rsvLs, rsvSc, rsvE, rsvH, isNonN, isNonB, isNonI, isNonS, isNonT, isNonL, isNonO, lenS, lenL, lenT, lenSc, seqL, seqT, kdN, kdB, kdI, kdS, kdT, kdL, Kd.isOf, br_t, br_f, itOk, VS.cellOf, wipeE, List.map_cons, List.map_nil, List.replicate_zero, List.replicate_succ, List.cons_append, List.nil_append, Nat.sub_self, Nat.reduceSub, Nat.reduceAdd, List.getElem?_cons_zero, List.getElem?_cons_succ, List.set_cons_zero, List.set_cons_succ, List.length_cons, List.length_nil, Option.some.injEq, exists_eq_left', exists_eq_left, exists_eq', exists_eq, D.int.injEq, D.bl.injEq, D.str.injEq, D.tup.injEq, D.lst.injEq, D.loc.injEq, List.cons.injEq, and_true, true_and, hup_same, ↓reduceIte, Nat.reduceLT, Nat.reduceEqDiff, reduceCtorEq, hup_hup, exists_and_left, Cell.lst.injEq, Nat.reduceLeDiff, Nat.zero_add, Bool.false_eq_true, ixN_ofNat, atI_ofNat, plnN, plnB, plnI, plnS, plnT, plnL, plns0, plnsC, depN, depB, depI, depS, depT, depL, deps0, depsC, eqbI, eqbS, eqbT, eqbL, eqbB, eqbs0, eqbsC, Nat.zero_le, br_not, Nat.max_zero, Nat.zero_max, Nat.max_self, Bool.and_true, Bool.true_and, Bool.not_true, Bool.not_false, beq_self_eq_true, wEq, wInL, wE_var, wE_cst, wE_glob, wE_bop, wE_neg, wE_not, wE_cmp, wE_chn, wE_andv, wE_orv, wE_ite, wE_tup, wE_lst, wE_ix, wE_slc, wE_rev, wE_call, wE_bi, wE_lrng1, wE_lrng2, wE_isi, wE_isx, wE_fld, wE_mt, wE_comp, wE_frz, wE_dnew, wEs_nil, wEs_cons, wO_none, wO_some, wC_val, wC_cmp, wC_chn, wC_not, wC_and, wC_or, wAndC_nil, wAndC_cons, wOrC_nil, wOrC_cons, wI_seq, wI_sgn, wI_rng1, wI_rng2, wI_enm, wI_zip2, wI_zip3, wS_asg, wS_par, wS_asgIx, wS_aug, wS_ex, wS_ret, wS_ret0, wS_ife, wS_whl, wS_fr, wS_rs, wS_never, wAdd_d, wMul_d, addKI, addKS, addKL, addKT, mulKI, mulKL, wSubI, wFdivI, wModI, wPowI, mkLt, mkLf, asgT_nm, asgT_tp, asgTs_nil, asgTs_cons, put_fn, put_glob, put_kc, frzKL, wCeq, wCne, wClt, wCle, wCleS, wCgt, wCge, wCis, wCisn, wCin, wCnin, wIn_d, inKS, inKL, inKTI, inKTS, inKD, wIx_d, ixKL, ixKT, ixKSc, ixKS, ixKD, wSlc_d, slcKL, slcKT, slcKS, wSet_h, wBIlen, wBIabs, wBIintI, wBIintB, wBIintS, wBIstrI, wBIstrS, wBIlist, wBItuple, wBIall, wBIany, wBImax1, wBImin1, wBIsum, wBIsorted, wBImin2, wBImax2, wMTappend, wMTpop, wMTclear, wMTjoin, wMTsplit, isRcvA, isRcvP, isRcvC, isRcvJ, isRcvSp, ex_lst, ex_lst0, b_tree_at_7, t4]
    refine ⟨by decide, p ++ [115, 112, 108, 105, 116, 32] ++ num k ++ [32, 91] ++ l.txt ++ [32, 124, 32] ++ w.txt, [93], r, by simpa [Tr.txt, sSplit] using hl, by simp [Tr.txt, sSplit], ?_⟩
    try simp only [wSs_nil, wSs_cons, wAnd_one, wAnd_cons, wOr_one, wOr_cons, Tgs.len, eq_self, if_true, if_false, rsvN, rsvB, rsvI, rsvS, rsvT, rsvLs, rsvSc, rsvE, rsvH, isNonN, isNonB, isNonI, isNonS, isNonT, isNonL, isNonO, lenS, lenL, lenT, lenSc, seqL, seqT, kdN, kdB, kdI, kdS, kdT, kdL, Kd.isOf, br_t, br_f, itOk, VS.cellOf, wipeE, List.map_cons, List.map_nil, List.replicate_zero, List.replicate_succ, List.cons_append, List.nil_append, Nat.sub_self, Nat.reduceSub, Nat.reduceAdd, List.getElem?_cons_zero, List.getElem?_cons_succ, List.set_cons_zero, List.set_cons_succ, List.length_cons, List.length_nil, Option.some.injEq, exists_eq_left', exists_eq_left, exists_eq', exists_eq, D.int.injEq, D.bl.injEq, D.str.injEq, D.tup.injEq, D.lst.injEq, D.loc.injEq, List.cons.injEq, and_true, true_and, hup_same, ↓reduceIte, Nat.reduceLT, Nat.reduceEqDiff, reduceCtorEq, hup_hup, exists_and_left, Cell.lst.injEq, Nat.reduceLeDiff, Nat.zero_add, Bool.false_eq_true, ixN_ofNat, atI_ofNat, plnN, plnB, plnI, plnS, plnT, plnL, plns0, plnsC, depN, depB, depI, depS, depT, depL, deps0, depsC, eqbI, eqbS, eqbT, eqbL, eqbB, eqbs0, eqbsC, Nat.zero_le, br_not, Nat.max_zero, Nat.zero_max, Nat.max_self, Bool.and_true, Bool.true_and, Bool.not_true, Bool.not_false, beq_self_eq_true, wEq, wInL, wE_var, wE_cst, wE_glob, wE_bop, wE_neg, wE_not, wE_cmp, wE_chn, wE_andv, wE_orv, wE_ite, wE_tup, wE_lst, wE_ix, wE_slc, wE_rev, wE_call, wE_bi, wE_lrng1, wE_lrng2, wE_isi, wE_isx, wE_fld, wE_mt, wE_comp, wE_frz, wE_dnew, wEs_nil, wEs_cons, wO_none, wO_some, wC_val, wC_cmp, wC_chn, wC_not, wC_and, wC_or, wAndC_nil, wAndC_cons, wOrC_nil, wOrC_cons, wI_seq, wI_sgn, wI_rng1, wI_rng2, wI_enm, wI_zip2, wI_zip3, wS_asg, wS_par, wS_asgIx, wS_aug, wS_ex, wS_ret, wS_ret0, wS_ife, wS_whl, wS_fr, wS_rs, wS_never, wAdd_d, wMul_d, addKI, addKS, addKL, addKT, mulKI, mulKL, wSubI, wFdivI, wModI, wPowI, mkLt, mkLf, asgT_nm, asgT_tp, asgTs_nil, asgTs_cons, put_fn, put_glob, put_kc, frzKL, wCeq, wCne, wClt, wCle, wCleS, wCgt, wCge, wCis, wCisn, wCin, wCnin, wIn_d, inKS, inKL, inKTI, inKTS, inKD, wIx_d, ixKL, ixKT, ixKSc, ixKS, ixKD, wSlc_d, slcKL, slcKT, slcKS, wSet_h, wBIlen, wBIabs, wBIintI, wBIintB, wBIintS, wBIstrI, wBIstrS, wBIlist, wBItuple, wBIall, wBIany, wBImax1, wBImin1, wBIsum, wBIsorted, wBImin2, wBImax2, wMTappend, wMTpop, wMTclear, wMTjoin, wMTsplit, isRcvA, isRcvP, isRcvC, isRcvJ, isRcvSp, ex_lst, ex_lst0]
    refine ⟨by decide, h, hsub_refl _, ?_⟩
    simpa [Tr.txt, Tr.d, sSplit] using q
def sp_read : VSp := fun ds h Q _ => ∃ t : Tr, t.ok ∧ t.dep ≤ 20 ∧ t.txt.length ≤ 10000 ∧ ds = [.str t.txt] ∧ Q t.d h
theorem l_read (T : Tab) (t6 : T.fn 6 = sp_treeat 21) : ∀ ds h Q X, sp_read ds h Q X → wSs T d_read_tree.body (ds.map some ++ List.replicate (d_read_tree.N.length - ds.length) none) h ⟨fun _ h1 => Q .non h1, Q, fun c fs _ h1 => X c fs h1⟩ := by
  rintro ds h Q X ⟨t, ok, hd, hl, rfl, q⟩
  show wSs T b_read_tree_0 [some (.str t.txt), none, none] h _
  have hlim : lim = 16777216 := rfl
  try simp only [wSs_nil, wSs_cons, wAnd_one, wAnd_cons, wOr_one, wOr_cons, Tgs.len, eq_self, if_true, if_false, rsvN, rsvB, rsvI, rsvS, rsvT, rsvLs, rsvSc, rsvE, rsvH, isNonN, isNonB, isNonI, isNonS, isNonT, isNonL, isNonO, lenS, lenL, lenT, lenSc, seqL, seqT, kdN, kdB, kdI, kdS, kdT, kdL, Kd.isOf, br_t, br_f, itOk, VS.cellOf, wipeE, List.map_cons, List.map_nil, List.replicate_zero, List.replicate_succ, List.cons_append, List.nil_append, Nat.sub_self, Nat.reduceSub, Nat.reduceAdd, List.getElem?_cons_zero, List.getElem?_cons_succ, List.set_cons_zero, List.set_cons_succ, List.length_cons, List.length_nil, Option.some.injEq, exists_eq_left', exists_eq_left, exists_eq', exists_eq, D.int.injEq, D.bl.injEq, D.str.injEq, D.tup.injEq, D.lst.injEq, D.loc.injEq, List.cons.injEq, and_true, true_and, hup_same, ↓reduceIte, Nat.reduceLT, Nat.reduceEqDiff, reduceCtorEq, hup_hup, exists_and_left, Cell.lst.injEq, Nat.reduceLeDiff, Nat.zero_add, Bool.false_eq_true, ixN_ofNat, atI_ofNat, plnN, plnB, plnI, plnS, plnT, plnL, plns0, plnsC, depN, depB, depI, depS, depT, depL, deps0, depsC, eqbI, eqbS, eqbT, eqbL, eqbB, eqbs0, eqbsC, Nat.zero_le, br_not, Nat.max_zero, Nat.zero_max, Nat.max_self, Bool.and_true, Bool.true_and, Bool.not_true, Bool.not_false, beq_self_eq_true, wEq, wInL, wE_var, wE_cst, wE_glob, wE_bop, wE_neg, wE_not, wE_cmp, wE_chn, wE_andv, wE_orv, wE_ite, wE_tup, wE_lst, wE_ix, wE_slc, wE_rev, wE_call, wE_bi, wE_lrng1, wE_lrng2, wE_isi, wE_isx, wE_fld, wE_mt, wE_comp, wE_frz, wE_dnew, wEs_nil, wEs_cons, wO_none, wO_some, wC_val, wC_cmp, wC_chn, wC_not, wC_and, wC_or, wAndC_nil, wAndC_cons, wOrC_nil, wOrC_cons, wI_seq, wI_sgn, wI_rng1, wI_rng2, wI_enm, wI_zip2, wI_zip3, wS_asg, wS_par, wS_asgIx, wS_aug, wS_ex, wS_ret, wS_ret0, wS_ife, wS_whl, wS_fr, wS_rs, wS_never, wAdd_d, wMul_d, addKI, addKS, addKL, addKT, mulKI, mulKL, wSubI, wFdivI, wModI, wPowI, mkLt, mkLf, asgT_nm, asgT_tp, asgTs_nil, asgTs_cons, put_fn, put_glob, put_kc, frzKL, wCeq, wCne, wClt, wCle, wCleS, wCgt, wCge, wCis, wCisn, wCin, wCnin, wIn_d, inKS, inKL, inKTI, inKTS, inKD, wIx_d, ixKL, ixKT, ixKSc, ixKS, ixKD, wSlc_d, slcKL, slcKT, slcKS, wSet_h, wBIlen, wBIabs, wBIintI, wBIintB, wBIintS, wBIstrI, wBIstrS, wBIlist, wBItuple, wBIall, wBIany, wBImax1, wBImin1, wBIsum, wBIsorted, wBImin2, wBImax2, wMTappend, wMTpop, wMTclear, wMTjoin, wMTsplit, isRcvA, isRcvP, isRcvC, isRcvJ, isRcvSp, ex_lst, ex_lst0, b_read_tree_0]
  refine br_yes (by decide) ?_
  try simp only [wSs_nil, wSs_cons, wAnd_one, wAnd_cons, wOr_one, wOr_cons, Tgs.len, eq_self, if_true, if_false, rsvN, rsvB, rsvI, rsvS, rsvT, rsvLs, rsvSc, rsvE, rsvH, isNonN, isNonB, isNonI, isNonS, isNonT, isNonL, isNonO, lenS, lenL, lenT, lenSc, seqL, seqT, kdN, kdB, kdI, kdS, kdT, kdL, Kd.isOf, br_t, br_f, itOk, VS.cellOf, wipeE, List.map_cons, List.map_nil, List.replicate_zero, List.replicate_succ, List.cons_append, List.nil_append, Nat.sub_self, Nat.reduceSub, Nat.reduceAdd, List.getElem?_cons_zero, List.getElem?_cons_succ, List.set_cons_zero, List.set_cons_succ, List.length_cons, List.length_nil, Option.some.injEq, exists_eq_left', exists_eq_left, exists_eq', exists_eq, D.int.injEq, D.bl.injEq, D.str.injEq, D.tup.injEq, D.lst.injEq, D.loc.injEq, List.cons.injEq, and_true, true_and, hup_same, ↓reduceIte, Nat.reduceLT, Nat.reduceEqDiff, reduceCtorEq, hup_hup, exists_and_left, Cell.lst.injEq, Nat.reduceLeDiff, Nat.zero_add, Bool.false_eq_true, ixN_ofNat, atI_ofNat, plnN, plnB, plnI, plnS, plnT, plnL, plns0, plnsC, depN, depB, depI, depS, depT, depL, deps0, depsC, eqbI, eqbS, eqbT, eqbL, eqbB, eqbs0, eqbsC, Nat.zero_le, br_not, Nat.max_zero, Nat.zero_max, Nat.max_self, Bool.and_true, Bool.true_and, Bool.not_true, Bool.not_false, beq_self_eq_true, wEq, wInL, wE_var, wE_cst, wE_glob, wE_bop, wE_neg, wE_not, wE_cmp, wE_chn, wE_andv, wE_orv, wE_ite, wE_tup, wE_lst, wE_ix, wE_slc, wE_rev, wE_call, wE_bi, wE_lrng1, wE_lrng2, wE_isi, wE_isx, wE_fld, wE_mt, wE_comp, wE_frz, wE_dnew, wEs_nil, wEs_cons, wO_none, wO_some, wC_val, wC_cmp, wC_chn, wC_not, wC_and, wC_or, wAndC_nil, wAndC_cons, wOrC_nil, wOrC_cons, wI_seq, wI_sgn, wI_rng1, wI_rng2, wI_enm, wI_zip2, wI_zip3, wS_asg, wS_par, wS_asgIx, wS_aug, wS_ex, wS_ret, wS_ret0, wS_ife, wS_whl, wS_fr, wS_rs, wS_never, wAdd_d, wMul_d, addKI, addKS, addKL, addKT, mulKI, mulKL, wSubI, wFdivI, wModI, wPowI, mkLt, mkLf, asgT_nm, asgT_tp, asgTs_nil, asgTs_cons, put_fn, put_glob, put_kc, frzKL, wCeq, wCne, wClt, wCle, wCleS, wCgt, wCge, wCis, wCisn, wCin, wCnin, wIn_d, inKS, inKL, inKTI, inKTS, inKD, wIx_d, ixKL, ixKT, ixKSc, ixKS, ixKD, wSlc_d, slcKL, slcKT, slcKS, wSet_h, wBIlen, wBIabs, wBIintI, wBIintB, wBIintS, wBIstrI, wBIstrS, wBIlist, wBItuple, wBIall, wBIany, wBImax1, wBImin1, wBIsum, wBIsorted, wBImin2, wBImax2, wMTappend, wMTpop, wMTclear, wMTjoin, wMTsplit, isRcvA, isRcvP, isRcvC, isRcvJ, isRcvSp, ex_lst, ex_lst0, b_read_tree_1, t6]
  refine ⟨[], [], t, 0, by simp; omega, .inl rfl, ok, by omega, by omega, by simp, ?_⟩
  try simp only [wSs_nil, wSs_cons, wAnd_one, wAnd_cons, wOr_one, wOr_cons, Tgs.len, eq_self, if_true, if_false, rsvN, rsvB, rsvI, rsvS, rsvT, rsvLs, rsvSc, rsvE, rsvH, isNonN, isNonB, isNonI, isNonS, isNonT, isNonL, isNonO, lenS, lenL, lenT, lenSc, seqL, seqT, kdN, kdB, kdI, kdS, kdT, kdL, Kd.isOf, br_t, br_f, itOk, VS.cellOf, wipeE, List.map_cons, List.map_nil, List.replicate_zero, List.replicate_succ, List.cons_append, List.nil_append, Nat.sub_self, Nat.reduceSub, Nat.reduceAdd, List.getElem?_cons_zero, List.getElem?_cons_succ, List.set_cons_zero, List.set_cons_succ, List.length_cons, List.length_nil, Option.some.injEq, exists_eq_left', exists_eq_left, exists_eq', exists_eq, D.int.injEq, D.bl.injEq, D.str.injEq, D.tup.injEq, D.lst.injEq, D.loc.injEq, List.cons.injEq, and_true, true_and, hup_same, ↓reduceIte, Nat.reduceLT, Nat.reduceEqDiff, reduceCtorEq, hup_hup, exists_and_left, Cell.lst.injEq, Nat.reduceLeDiff, Nat.zero_add, Bool.false_eq_true, ixN_ofNat, atI_ofNat, plnN, plnB, plnI, plnS, plnT, plnL, plns0, plnsC, depN, depB, depI, depS, depT, depL, deps0, depsC, eqbI, eqbS, eqbT, eqbL, eqbB, eqbs0, eqbsC, Nat.zero_le, br_not, Nat.max_zero, Nat.zero_max, Nat.max_self, Bool.and_true, Bool.true_and, Bool.not_true, Bool.not_false, beq_self_eq_true, wEq, wInL, wE_var, wE_cst, wE_glob, wE_bop, wE_neg, wE_not, wE_cmp, wE_chn, wE_andv, wE_orv, wE_ite, wE_tup, wE_lst, wE_ix, wE_slc, wE_rev, wE_call, wE_bi, wE_lrng1, wE_lrng2, wE_isi, wE_isx, wE_fld, wE_mt, wE_comp, wE_frz, wE_dnew, wEs_nil, wEs_cons, wO_none, wO_some, wC_val, wC_cmp, wC_chn, wC_not, wC_and, wC_or, wAndC_nil, wAndC_cons, wOrC_nil, wOrC_cons, wI_seq, wI_sgn, wI_rng1, wI_rng2, wI_enm, wI_zip2, wI_zip3, wS_asg, wS_par, wS_asgIx, wS_aug, wS_ex, wS_ret, wS_ret0, wS_ife, wS_whl, wS_fr, wS_rs, wS_never, wAdd_d, wMul_d, addKI, addKS, addKL, addKT, mulKI, mulKL, wSubI, wFdivI, wModI, wPowI, mkLt, mkLf, asgT_nm, asgT_tp, asgTs_nil, asgTs_cons, put_fn, put_glob, put_kc, frzKL, wCeq, wCne, wClt, wCle, wCleS, wCgt, wCge, wCis, wCisn, wCin, wCnin, wIn_d, inKS, inKL, inKTI, inKTS, inKD, wIx_d, ixKL, ixKT, ixKSc, ixKS, ixKD, wSlc_d, slcKL, slcKT, slcKS, wSet_h, wBIlen, wBIabs, wBIintI, wBIintB, wBIintS, wBIstrI, wBIstrS, wBIlist, wBItuple, wBIall, wBIany, wBImax1, wBImin1, wBIsum, wBIsorted, wBImin2, wBImax2, wMTappend, wMTpop, wMTclear, wMTjoin, wMTsplit, isRcvA, isRcvP, isRcvC, isRcvJ, isRcvSp, ex_lst, ex_lst0]
  try simp only [wSs_nil, wSs_cons, wAnd_one, wAnd_cons, wOr_one, wOr_cons, Tgs.len, eq_self, if_true, if_false, rsvN, rsvB, rsvI, rsvS, rsvT, rsvLs, rsvSc, rsvE, rsvH, isNonN, isNonB, isNonI, isNonS, isNonT, isNonL, isNonO, lenS, lenL, lenT, lenSc, seqL, seqT, kdN, kdB, kdI, kdS, kdT, kdL, Kd.isOf, br_t, br_f, itOk, VS.cellOf, wipeE, List.map_cons, List.map_nil, List.replicate_zero, List.replicate_succ, List.cons_append, List.nil_append, Nat.sub_self, Nat.reduceSub, Nat.reduceAdd, List.getElem?_cons_zero, List.getElem?_cons_succ, List.set_cons_zero, List.set_cons_succ, List.length_cons, List.length_nil, Option.some.injEq, exists_eq_left', exists_eq_left, exists_eq', exists_eq, D.int.injEq, D.bl.injEq, D.str.injEq, D.tup.injEq, D.lst.injEq, D.loc.injEq, List.cons.injEq, and_true, true_and, hup_same, ↓reduceIte, Nat.reduceLT, Nat.reduceEqDiff, reduceCtorEq, hup_hup, exists_and_left, Cell.lst.injEq, Nat.reduceLeDiff, Nat.zero_add, Bool.false_eq_true, ixN_ofNat, atI_ofNat, plnN, plnB, plnI, plnS, plnT, plnL, plns0, plnsC, depN, depB, depI, depS, depT, depL, deps0, depsC, eqbI, eqbS, eqbT, eqbL, eqbB, eqbs0, eqbsC, Nat.zero_le, br_not, Nat.max_zero, Nat.zero_max, Nat.max_self, Bool.and_true, Bool.true_and, Bool.not_true, Bool.not_false, beq_self_eq_true, wEq, wInL, wE_var, wE_cst, wE_glob, wE_bop, wE_neg, wE_not, wE_cmp, wE_chn, wE_andv, wE_orv, wE_ite, wE_tup, wE_lst, wE_ix, wE_slc, wE_rev, wE_call, wE_bi, wE_lrng1, wE_lrng2, wE_isi, wE_isx, wE_fld, wE_mt, wE_comp, wE_frz, wE_dnew, wEs_nil, wEs_cons, wO_none, wO_some, wC_val, wC_cmp, wC_chn, wC_not, wC_and, wC_or, wAndC_nil, wAndC_cons, wOrC_nil, wOrC_cons, wI_seq, wI_sgn, wI_rng1, wI_rng2, wI_enm, wI_zip2, wI_zip3, wS_asg, wS_par, wS_asgIx, wS_aug, wS_ex, wS_ret, wS_ret0, wS_ife, wS_whl, wS_fr, wS_rs, wS_never, wAdd_d, wMul_d, addKI, addKS, addKL, addKT, mulKI, mulKL, wSubI, wFdivI, wModI, wPowI, mkLt, mkLf, asgT_nm, asgT_tp, asgTs_nil, asgTs_cons, put_fn, put_glob, put_kc, frzKL, wCeq, wCne, wClt, wCle, wCleS, wCgt, wCge, wCis, wCisn, wCin, wCnin, wIn_d, inKS, inKL, inKTI, inKTS, inKD, wIx_d, ixKL, ixKT, ixKSc, ixKS, ixKD, wSlc_d, slcKL, slcKT, slcKS, wSet_h, wBIlen, wBIabs, wBIintI, wBIintB, wBIintS, wBIstrI, wBIstrS, wBIlist, wBItuple, wBIall, wBIany, wBImax1, wBImin1, wBIsum, wBIsorted, wBImin2, wBImax2, wMTappend, wMTpop, wMTclear, wMTjoin, wMTsplit, isRcvA, isRcvP, isRcvC, isRcvJ, isRcvSp, ex_lst, ex_lst0, b_read_tree_2]
  refine ⟨by omega, ?_⟩
  try simp only [wSs_nil, wSs_cons, wAnd_one, wAnd_cons, wOr_one, wOr_cons, Tgs.len, eq_self, if_true, if_false, rsvN, rsvB, rsvI, rsvS, rsvT, rsvLs, rsvSc, rsvE, rsvH, isNonN, isNonB, isNonI, isNonS, isNonT, isNonL, isNonO, lenS, lenL, lenT, lenSc, seqL, seqT, kdN, kdB, kdI, kdS, kdT, kdL, Kd.isOf, br_t, br_f, itOk, VS.cellOf, wipeE, List.map_cons, List.map_nil, List.replicate_zero, List.replicate_succ, List.cons_append, List.nil_append, Nat.sub_self, Nat.reduceSub, Nat.reduceAdd, List.getElem?_cons_zero, List.getElem?_cons_succ, List.set_cons_zero, List.set_cons_succ, List.length_cons, List.length_nil, Option.some.injEq, exists_eq_left', exists_eq_left, exists_eq', exists_eq, D.int.injEq, D.bl.injEq, D.str.injEq, D.tup.injEq, D.lst.injEq, D.loc.injEq, List.cons.injEq, and_true, true_and, hup_same, ↓reduceIte, Nat.reduceLT, Nat.reduceEqDiff, reduceCtorEq, hup_hup, exists_and_left, Cell.lst.injEq, Nat.reduceLeDiff, Nat.zero_add, Bool.false_eq_true, ixN_ofNat, atI_ofNat, plnN, plnB, plnI, plnS, plnT, plnL, plns0, plnsC, depN, depB, depI, depS, depT, depL, deps0, depsC, eqbI, eqbS, eqbT, eqbL, eqbB, eqbs0, eqbsC, Nat.zero_le, br_not, Nat.max_zero, Nat.zero_max, Nat.max_self, Bool.and_true, Bool.true_and, Bool.not_true, Bool.not_false, beq_self_eq_true, wEq, wInL, wE_var, wE_cst, wE_glob, wE_bop, wE_neg, wE_not, wE_cmp, wE_chn, wE_andv, wE_orv, wE_ite, wE_tup, wE_lst, wE_ix, wE_slc, wE_rev, wE_call, wE_bi, wE_lrng1, wE_lrng2, wE_isi, wE_isx, wE_fld, wE_mt, wE_comp, wE_frz, wE_dnew, wEs_nil, wEs_cons, wO_none, wO_some, wC_val, wC_cmp, wC_chn, wC_not, wC_and, wC_or, wAndC_nil, wAndC_cons, wOrC_nil, wOrC_cons, wI_seq, wI_sgn, wI_rng1, wI_rng2, wI_enm, wI_zip2, wI_zip3, wS_asg, wS_par, wS_asgIx, wS_aug, wS_ex, wS_ret, wS_ret0, wS_ife, wS_whl, wS_fr, wS_rs, wS_never, wAdd_d, wMul_d, addKI, addKS, addKL, addKT, mulKI, mulKL, wSubI, wFdivI, wModI, wPowI, mkLt, mkLf, asgT_nm, asgT_tp, asgTs_nil, asgTs_cons, put_fn, put_glob, put_kc, frzKL, wCeq, wCne, wClt, wCle, wCleS, wCgt, wCge, wCis, wCisn, wCin, wCnin, wIn_d, inKS, inKL, inKTI, inKTS, inKD, wIx_d, ixKL, ixKT, ixKSc, ixKS, ixKD, wSlc_d, slcKL, slcKT, slcKS, wSet_h, wBIlen, wBIabs, wBIintI, wBIintB, wBIintS, wBIstrI, wBIstrS, wBIlist, wBItuple, wBIall, wBIany, wBImax1, wBImin1, wBIsum, wBIsorted, wBImin2, wBImax2, wMTappend, wMTpop, wMTclear, wMTjoin, wMTsplit, isRcvA, isRcvP, isRcvC, isRcvJ, isRcvSp, ex_lst, ex_lst0, b_read_tree_3]
  exact ⟨h, hsub_refl _, q⟩
end K78

set_option Elab.async false
set_option linter.all false
set_option maxRecDepth 100000
set_option maxHeartbeats 4000000
namespace K78
open PySem PySem.Spec PyProof.Rows L2 VS
theorem br_both {a : Bool} {A B : Prop} (hB : B) (hA : a = true → A) : br a A B := ⟨hA, fun _ => hB⟩
theorem div3 {m : Int} (h : 0 < m) (h2 : m < 1000000) : divOk m := divOk_of (a := 20) h (by omega) (by omega) (by omega)
def sp_leaf : VSp := fun ds h Q _ => ∃ (a : Addr) (c x : Int) (b : Bool), h a = some (stD c x b) ∧ XOk x ∧ ds = [.loc a] ∧ ∀ (t : Tr) c' x' b', t.ok → t.dep = 0 → t.lv = 1 → XOk x' → Q t.d (hup h a (stD c' x' b'))
theorem l_leaf (T : Tab) (t9 : T.fn 9 = sp_take) : ∀ ds h Q X, sp_leaf ds h Q X → wSs T d_law_leaf.body (ds.map some ++ List.replicate (d_law_leaf.N.length - ds.length) none) h ⟨fun _ h1 => Q .non h1, Q, fun c fs _ h1 => X c fs h1⟩ := by
  rintro ds h Q X ⟨a, c, x, b, e, hx, rfl, q⟩
  show wSs T b_law_leaf_0 [some (.loc a)] h _
  try simp only [wSs_nil, wSs_cons, wAnd_one, wAnd_cons, wOr_one, wOr_cons, Tgs.len, eq_self, if_true, if_false, rsvN, rsvB, rsvI, rsvS, rsvT, rsvLs, rsvSc, rsvE, rsvH, isNonN, isNonB, isNonI, isNonS, isNonT, isNonL, isNonO, lenS, lenL, lenT, lenSc, seqL, seqT, kdN, kdB, kdI, kdS, kdT, kdL, Kd.isOf, br_t, br_f, itOk, VS.cellOf, wipeE, List.map_cons, List.map_nil, List.replicate_zero, List.replicate_succ, List.cons_append, List.nil_append, Nat.sub_self, Nat.reduceSub, Nat.reduceAdd, List.getElem?_cons_zero, List.getElem?_cons_succ, List.set_cons_zero, List.set_cons_succ, List.length_cons, List.length_nil, Option.some.injEq, exists_eq_left', exists_eq_left, exists_eq', exists_eq, D.int.injEq, D.bl.injEq, D.str.injEq, D.tup.injEq, D.lst.injEq, D.loc.injEq, List.cons.injEq, and_true, true_and, hup_same, ↓reduceIte, Nat.reduceLT, Nat.reduceEqDiff, reduceCtorEq, hup_hup, exists_and_left, Cell.lst.injEq, Nat.reduceLeDiff, Nat.zero_add, Bool.false_eq_true, ixN_ofNat, atI_ofNat, plnN, plnB, plnI, plnS, plnT, plnL, plns0, plnsC, depN, depB, depI, depS, depT, depL, deps0, depsC, eqbI, eqbS, eqbT, eqbL, eqbB, eqbs0, eqbsC, Nat.zero_le, br_not, Nat.max_zero, Nat.zero_max, Nat.max_self, Bool.and_true, Bool.true_and, Bool.not_true, Bool.not_false, beq_self_eq_true, wEq, wInL, wE_var, wE_cst, wE_glob, wE_bop, wE_neg, wE_not, wE_cmp, wE_chn, wE_andv, wE_orv, wE_ite, wE_tup, wE_lst, wE_ix, wE_slc, wE_rev, wE_call, wE_bi, wE_lrng1, wE_lrng2, wE_isi, wE_isx, wE_fld, wE_mt, wE_comp, wE_frz, wE_dnew, wEs_nil, wEs_cons, wO_none, wO_some, wC_val, wC_cmp, wC_chn, wC_not, wC_and, wC_or, wAndC_nil, wAndC_cons, wOrC_nil, wOrC_cons, wI_seq, wI_sgn, wI_rng1, wI_rng2, wI_enm, wI_zip2, wI_zip3, wS_asg, wS_par, wS_asgIx, wS_aug, wS_ex, wS_ret, wS_ret0, wS_ife, wS_whl, wS_fr, wS_rs, wS_never, wAdd_d, wMul_d, addKI, addKS, addKL, addKT, mulKI, mulKL, wSubI, wFdivI, wModI, wPowI, mkLt, mkLf, asgT_nm, asgT_tp, asgTs_nil, asgTs_cons, put_fn, put_glob, put_kc, frzKL, wCeq, wCne, wClt, wCle, wCleS, wCgt, wCge, wCis, wCisn, wCin, wCnin, wIn_d, inKS, inKL, inKTI, inKTS, inKD, wIx_d, ixKL, ixKT, ixKSc, ixKS, ixKD, wSlc_d, slcKL, slcKT, slcKS, wSet_h, wBIlen, wBIabs, wBIintI, wBIintB, wBIintS, wBIstrI, wBIstrS, wBIlist, wBItuple, wBIall, wBIany, wBImax1, wBImin1, wBIsum, wBIsorted, wBImin2, wBImax2, wMTappend, wMTpop, wMTclear, wMTjoin, wMTsplit, isRcvA, isRcvP, isRcvC, isRcvJ, isRcvSp, ex_lst, ex_lst0, b_law_leaf_0, t9]
  refine ⟨a, 3, c, x, b, div3 (by omega) (by omega), e, hx, rfl, fun d c1 x1 b1 h0 h1 hx1 => ?_⟩
  try simp only [wSs_nil, wSs_cons, wAnd_one, wAnd_cons, wOr_one, wOr_cons, Tgs.len, eq_self, if_true, if_false, rsvN, rsvB, rsvI, rsvS, rsvT, rsvLs, rsvSc, rsvE, rsvH, isNonN, isNonB, isNonI, isNonS, isNonT, isNonL, isNonO, lenS, lenL, lenT, lenSc, seqL, seqT, kdN, kdB, kdI, kdS, kdT, kdL, Kd.isOf, br_t, br_f, itOk, VS.cellOf, wipeE, List.map_cons, List.map_nil, List.replicate_zero, List.replicate_succ, List.cons_append, List.nil_append, Nat.sub_self, Nat.reduceSub, Nat.reduceAdd, List.getElem?_cons_zero, List.getElem?_cons_succ, List.set_cons_zero, List.set_cons_succ, List.length_cons, List.length_nil, Option.some.injEq, exists_eq_left', exists_eq_left, exists_eq', exists_eq, D.int.injEq, D.bl.injEq, D.str.injEq, D.tup.injEq, D.lst.injEq, D.loc.injEq, List.cons.injEq, and_true, true_and, hup_same, ↓reduceIte, Nat.reduceLT, Nat.reduceEqDiff, reduceCtorEq, hup_hup, exists_and_left, Cell.lst.injEq, Nat.reduceLeDiff, Nat.zero_add, Bool.false_eq_true, ixN_ofNat, atI_ofNat, plnN, plnB, plnI, plnS, plnT, plnL, plns0, plnsC, depN, depB, depI, depS, depT, depL, deps0, depsC, eqbI, eqbS, eqbT, eqbL, eqbB, eqbs0, eqbsC, Nat.zero_le, br_not, Nat.max_zero, Nat.zero_max, Nat.max_self, Bool.and_true, Bool.true_and, Bool.not_true, Bool.not_false, beq_self_eq_true, wEq, wInL, wE_var, wE_cst, wE_glob, wE_bop, wE_neg, wE_not, wE_cmp, wE_chn, wE_andv, wE_orv, wE_ite, wE_tup, wE_lst, wE_ix, wE_slc, wE_rev, wE_call, wE_bi, wE_lrng1, wE_lrng2, wE_isi, wE_isx, wE_fld, wE_mt, wE_comp, wE_frz, wE_dnew, wEs_nil, wEs_cons, wO_none, wO_some, wC_val, wC_cmp, wC_chn, wC_not, wC_and, wC_or, wAndC_nil, wAndC_cons, wOrC_nil, wOrC_cons, wI_seq, wI_sgn, wI_rng1, wI_rng2, wI_enm, wI_zip2, wI_zip3, wS_asg, wS_par, wS_asgIx, wS_aug, wS_ex, wS_ret, wS_ret0, wS_ife, wS_whl, wS_fr, wS_rs, wS_never, wAdd_d, wMul_d, addKI, addKS, addKL, addKT, mulKI, mulKL, wSubI, wFdivI, wModI, wPowI, mkLt, mkLf, asgT_nm, asgT_tp, asgTs_nil, asgTs_cons, put_fn, put_glob, put_kc, frzKL, wCeq, wCne, wClt, wCle, wCleS, wCgt, wCge, wCis, wCisn, wCin, wCnin, wIn_d, inKS, inKL, inKTI, inKTS, inKD, wIx_d, ixKL, ixKT, ixKSc, ixKS, ixKD, wSlc_d, slcKL, slcKT, slcKS, wSet_h, wBIlen, wBIabs, wBIintI, wBIintB, wBIintS, wBIstrI, wBIstrS, wBIlist, wBItuple, wBIall, wBIany, wBImax1, wBImin1, wBIsum, wBIsorted, wBImin2, wBImax2, wMTappend, wMTpop, wMTclear, wMTjoin, wMTsplit, isRcvA, isRcvP, isRcvC, isRcvJ, isRcvSp, ex_lst, ex_lst0]
  refine br_of (fun _ => ?_) fun _ => ?_
  · try simp only [wSs_nil, wSs_cons, wAnd_one, wAnd_cons, wOr_one, wOr_cons, Tgs.len, eq_self, if_true, if_false, rsvN, rsvB, rsvI, rsvS, rsvT, rsvLs, rsvSc, rsvE, rsvH, isNonN, isNonB, isNonI, isNonS, isNonT, isNonL, isNonO, lenS, lenL, lenT, lenSc, seqL, seqT, kdN, kdB, kdI, kdS, kdT, kdL, Kd.isOf, br_t, br_f, itOk, VS.cellOf, wipeE, List.map_cons, List.map_nil, List.replicate_zero, List.replicate_succ, List.cons_append, List.nil_append, Nat.sub_self, Nat.reduceSub, Nat.reduceAdd, List.getElem?_cons_zero, List.getElem?_cons_succ, List.set_cons_zero, List.set_cons_succ, List.length_cons, List.length_nil, Option.some.injEq, exists_eq_left', exists_eq_left, exists_eq', exists_eq, D.int.injEq, D.bl.injEq, D.str.injEq, D.tup.injEq, D.lst.injEq, D.loc.injEq, List.cons.injEq, and_true, true_and, hup_same, ↓reduceIte, Nat.reduceLT, Nat.reduceEqDiff, reduceCtorEq, hup_hup, exists_and_left, Cell.lst.injEq, Nat.reduceLeDiff, Nat.zero_add, Bool.false_eq_true, ixN_ofNat, atI_ofNat, plnN, plnB, plnI, plnS, plnT, plnL, plns0, plnsC, depN, depB, depI, depS, depT, depL, deps0, depsC, eqbI, eqbS, eqbT, eqbL, eqbB, eqbs0, eqbsC, Nat.zero_le, br_not, Nat.max_zero, Nat.zero_max, Nat.max_self, Bool.and_true, Bool.true_and, Bool.not_true, Bool.not_false, beq_self_eq_true, wEq, wInL, wE_var, wE_cst, wE_glob, wE_bop, wE_neg, wE_not, wE_cmp, wE_chn, wE_andv, wE_orv, wE_ite, wE_tup, wE_lst, wE_ix, wE_slc, wE_rev, wE_call, wE_bi, wE_lrng1, wE_lrng2, wE_isi, wE_isx, wE_fld, wE_mt, wE_comp, wE_frz, wE_dnew, wEs_nil, wEs_cons, wO_none, wO_some, wC_val, wC_cmp, wC_chn, wC_not, wC_and, wC_or, wAndC_nil, wAndC_cons, wOrC_nil, wOrC_cons, wI_seq, wI_sgn, wI_rng1, wI_rng2, wI_enm, wI_zip2, wI_zip3, wS_asg, wS_par, wS_asgIx, wS_aug, wS_ex, wS_ret, wS_ret0, wS_ife, wS_whl, wS_fr, wS_rs, wS_never, wAdd_d, wMul_d, addKI, addKS, addKL, addKT, mulKI, mulKL, wSubI, wFdivI, wModI, wPowI, mkLt, mkLf, asgT_nm, asgT_tp, asgTs_nil, asgTs_cons, put_fn, put_glob, put_kc, frzKL, wCeq, wCne, wClt, wCle, wCleS, wCgt, wCge, wCis, wCisn, wCin, wCnin, wIn_d, inKS, inKL, inKTI, inKTS, inKD, wIx_d, ixKL, ixKT, ixKSc, ixKS, ixKD, wSlc_d, slcKL, slcKT, slcKS, wSet_h, wBIlen, wBIabs, wBIintI, wBIintB, wBIintS, wBIstrI, wBIstrS, wBIlist, wBItuple, wBIall, wBIany, wBImax1, wBImin1, wBIsum, wBIsorted, wBImin2, wBImax2, wMTappend, wMTpop, wMTclear, wMTjoin, wMTsplit, isRcvA, isRcvP, isRcvC, isRcvJ, isRcvSp, ex_lst, ex_lst0, b_law_leaf_0a_0]
    exact ⟨by decide, _, hsub_refl _, q .turned _ _ _ trivial rfl rfl hx1⟩
  · try simp only [wSs_nil, wSs_cons, wAnd_one, wAnd_cons, wOr_one, wOr_cons, Tgs.len, eq_self, if_true, if_false, rsvN, rsvB, rsvI, rsvS, rsvT, rsvLs, rsvSc, rsvE, rsvH, isNonN, isNonB, isNonI, isNonS, isNonT, isNonL, isNonO, lenS, lenL, lenT, lenSc, seqL, seqT, kdN, kdB, kdI, kdS, kdT, kdL, Kd.isOf, br_t, br_f, itOk, VS.cellOf, wipeE, List.map_cons, List.map_nil, List.replicate_zero, List.replicate_succ, List.cons_append, List.nil_append, Nat.sub_self, Nat.reduceSub, Nat.reduceAdd, List.getElem?_cons_zero, List.getElem?_cons_succ, List.set_cons_zero, List.set_cons_succ, List.length_cons, List.length_nil, Option.some.injEq, exists_eq_left', exists_eq_left, exists_eq', exists_eq, D.int.injEq, D.bl.injEq, D.str.injEq, D.tup.injEq, D.lst.injEq, D.loc.injEq, List.cons.injEq, and_true, true_and, hup_same, ↓reduceIte, Nat.reduceLT, Nat.reduceEqDiff, reduceCtorEq, hup_hup, exists_and_left, Cell.lst.injEq, Nat.reduceLeDiff, Nat.zero_add, Bool.false_eq_true, ixN_ofNat, atI_ofNat, plnN, plnB, plnI, plnS, plnT, plnL, plns0, plnsC, depN, depB, depI, depS, depT, depL, deps0, depsC, eqbI, eqbS, eqbT, eqbL, eqbB, eqbs0, eqbsC, Nat.zero_le, br_not, Nat.max_zero, Nat.zero_max, Nat.max_self, Bool.and_true, Bool.true_and, Bool.not_true, Bool.not_false, beq_self_eq_true, wEq, wInL, wE_var, wE_cst, wE_glob, wE_bop, wE_neg, wE_not, wE_cmp, wE_chn, wE_andv, wE_orv, wE_ite, wE_tup, wE_lst, wE_ix, wE_slc, wE_rev, wE_call, wE_bi, wE_lrng1, wE_lrng2, wE_isi, wE_isx, wE_fld, wE_mt, wE_comp, wE_frz, wE_dnew, wEs_nil, wEs_cons, wO_none, wO_some, wC_val, wC_cmp, wC_chn, wC_not, wC_and, wC_or, wAndC_nil, wAndC_cons, wOrC_nil, wOrC_cons, wI_seq, wI_sgn, wI_rng1, wI_rng2, wI_enm, wI_zip2, wI_zip3, wS_asg, wS_par, wS_asgIx, wS_aug, wS_ex, wS_ret, wS_ret0, wS_ife, wS_whl, wS_fr, wS_rs, wS_never, wAdd_d, wMul_d, addKI, addKS, addKL, addKT, mulKI, mulKL, wSubI, wFdivI, wModI, wPowI, mkLt, mkLf, asgT_nm, asgT_tp, asgTs_nil, asgTs_cons, put_fn, put_glob, put_kc, frzKL, wCeq, wCne, wClt, wCle, wCleS, wCgt, wCge, wCis, wCisn, wCin, wCnin, wIn_d, inKS, inKL, inKTI, inKTS, inKD, wIx_d, ixKL, ixKT, ixKSc, ixKS, ixKD, wSlc_d, slcKL, slcKT, slcKS, wSet_h, wBIlen, wBIabs, wBIintI, wBIintB, wBIintS, wBIstrI, wBIstrS, wBIlist, wBItuple, wBIall, wBIany, wBImax1, wBImin1, wBIsum, wBIsorted, wBImin2, wBImax2, wMTappend, wMTpop, wMTclear, wMTjoin, wMTsplit, isRcvA, isRcvP, isRcvC, isRcvJ, isRcvSp, ex_lst, ex_lst0, b_law_leaf_1, t9]
    refine ⟨a, 12, c1, x1, b1, div3 (by omega) (by omega), hup_same, hx1, rfl, fun d2 c2 x2 b2 h02 h12 hx2 => ?_⟩
    refine ⟨a, 12, c2, x2, b2, div3 (by omega) (by omega), hup_same, hx2, rfl, fun d3 c3 x3 b3 h03 h13 hx3 => ?_⟩
    try simp only [wSs_nil, wSs_cons, wAnd_one, wAnd_cons, wOr_one, wOr_cons, Tgs.len, eq_self, if_true, if_false, rsvN, rsvB, rsvI, rsvS, rsvT, rsvLs, rsvSc, rsvE, rsvH, isNonN, isNonB, isNonI, isNonS, isNonT, isNonL, isNonO, lenS, lenL, lenT, lenSc, seqL, seqT, kdN, kdB, kdI, kdS, kdT, kdL, Kd.isOf, br_t, br_f, itOk, VS.cellOf, wipeE, List.map_cons, List.map_nil, List.replicate_zero, List.replicate_succ, List.cons_append, List.nil_append, Nat.sub_self, Nat.reduceSub, Nat.reduceAdd, List.getElem?_cons_zero, List.getElem?_cons_succ, List.set_cons_zero, List.set_cons_succ, List.length_cons, List.length_nil, Option.some.injEq, exists_eq_left', exists_eq_left, exists_eq', exists_eq, D.int.injEq, D.bl.injEq, D.str.injEq, D.tup.injEq, D.lst.injEq, D.loc.injEq, List.cons.injEq, and_true, true_and, hup_same, ↓reduceIte, Nat.reduceLT, Nat.reduceEqDiff, reduceCtorEq, hup_hup, exists_and_left, Cell.lst.injEq, Nat.reduceLeDiff, Nat.zero_add, Bool.false_eq_true, ixN_ofNat, atI_ofNat, plnN, plnB, plnI, plnS, plnT, plnL, plns0, plnsC, depN, depB, depI, depS, depT, depL, deps0, depsC, eqbI, eqbS, eqbT, eqbL, eqbB, eqbs0, eqbsC, Nat.zero_le, br_not, Nat.max_zero, Nat.zero_max, Nat.max_self, Bool.and_true, Bool.true_and, Bool.not_true, Bool.not_false, beq_self_eq_true, wEq, wInL, wE_var, wE_cst, wE_glob, wE_bop, wE_neg, wE_not, wE_cmp, wE_chn, wE_andv, wE_orv, wE_ite, wE_tup, wE_lst, wE_ix, wE_slc, wE_rev, wE_call, wE_bi, wE_lrng1, wE_lrng2, wE_isi, wE_isx, wE_fld, wE_mt, wE_comp, wE_frz, wE_dnew, wEs_nil, wEs_cons, wO_none, wO_some, wC_val, wC_cmp, wC_chn, wC_not, wC_and, wC_or, wAndC_nil, wAndC_cons, wOrC_nil, wOrC_cons, wI_seq, wI_sgn, wI_rng1, wI_rng2, wI_enm, wI_zip2, wI_zip3, wS_asg, wS_par, wS_asgIx, wS_aug, wS_ex, wS_ret, wS_ret0, wS_ife, wS_whl, wS_fr, wS_rs, wS_never, wAdd_d, wMul_d, addKI, addKS, addKL, addKT, mulKI, mulKL, wSubI, wFdivI, wModI, wPowI, mkLt, mkLf, asgT_nm, asgT_tp, asgTs_nil, asgTs_cons, put_fn, put_glob, put_kc, frzKL, wCeq, wCne, wClt, wCle, wCleS, wCgt, wCge, wCis, wCisn, wCin, wCnin, wIn_d, inKS, inKL, inKTI, inKTS, inKD, wIx_d, ixKL, ixKT, ixKSc, ixKS, ixKD, wSlc_d, slcKL, slcKT, slcKS, wSet_h, wBIlen, wBIabs, wBIintI, wBIintB, wBIintS, wBIstrI, wBIstrS, wBIlist, wBItuple, wBIall, wBIany, wBImax1, wBImin1, wBIsum, wBIsorted, wBImin2, wBImax2, wMTappend, wMTpop, wMTclear, wMTjoin, wMTsplit, isRcvA, isRcvP, isRcvC, isRcvJ, isRcvSp, ex_lst, ex_lst0]
    refine ⟨by decide, _, hsub_refl _, ?_⟩
    have z := q (.cut d2.toNat d3.toNat) c3 x3 b3 ⟨by omega, by omega⟩ rfl rfl hx3
    have e2 : ((d2.toNat : Nat) : Int) = d2 := by omega
    have e3 : ((d3.toNat : Nat) : Int) = d3 := by omega
    simp only [Tr.d, e2, e3] at z
    exact z
def good (ts : List Tr) : Prop := ∀ t ∈ ts, t.ok ∧ t.dep ≤ 20
def lvs (ts : List Tr) : Nat := (ts.map Tr.lv).sum
def dI (t : Tr) : D := .int (t.dep : Nat)
theorem last2 {α : Type} : ∀ {xs : List α}, 1 < xs.length → ∃ us a b, xs = us ++ [a, b]
  | [], h => by simp at h
  | [_], h => by simp at h
  | [a, b], _ => ⟨[], a, b, rfl⟩
  | x :: y :: z :: r, _ => by
    obtain ⟨us, a, b, e⟩ := last2 (xs := y :: z :: r) (by simp)
    exact ⟨x :: us, a, b, by rw [e]; rfl⟩
theorem last1 {α : Type} {xs : List α} (h : xs ≠ []) : ∃ us a, xs = us ++ [a] := ⟨xs.dropLast, xs.getLast h, (List.dropLast_concat_getLast h).symm⟩
theorem cl2 {α : Type} {us : List α} {a b : α} : VS.cutL (us ++ [a, b]) (some (-2)) none = [a, b] := cutL_last (n := 2) rfl (by omega)
theorem cf2 {α : Type} {us : List α} {a b : α} : VS.cutL (us ++ [a, b]) none (some (-2)) = us := cutL_front (n := 2) rfl (by omega)
theorem len_le {α : Type} {us : List α} {n : Nat} (h : us.length ≤ n) (hn : n ≤ 1000) : us.length ≤ lim := by rw [lim_is]; omega
def sp_tree : VSp := fun ds h Q _ => ∃ (ns : List Int), ns.length ≤ 63 ∧ ds = [.scr ns, .int 20] ∧ ∀ t : Tr, t.ok → t.dep ≤ 20 → t.lv ≤ 63 → Q t.d h
theorem lvs_app {us vs : List Tr} : lvs (us ++ vs) = lvs us + lvs vs := by simp [lvs]
theorem lvs_len : ∀ us : List Tr, us.length ≤ lvs us
  | [] => Nat.le_refl _
  | t :: us => by have := lvs_len us; have := t.lv_pos; simp [lvs] at *; omega
theorem maxcase {l r : Tr} {P : Int → Prop} (h : ∀ m : Nat, (m = max l.dep r.dep) → P m) : ∃ ns, allInt [dI l, dI r] = some ns ∧ 0 < ns.length ∧ ∀ m, m ∈ ns → (∀ y, y ∈ ns → y ≤ m) → P m := by
  refine ⟨[l.dep, r.dep], rfl, by simp, fun m hm hy => ?_⟩
  have h1 := hy l.dep (by simp)
  have h2 := hy r.dep (by simp)
  have h3 : m = l.dep ∨ m = r.dep := by simpa using hm
  rcases h3 with rfl | rfl
  · exact h l.dep (by omega)
  · exact h r.dep (by omega)
theorem l_tree (T : Tab) (t8 : T.fn 8 = sp_begun) (t9 : T.fn 9 = sp_take) (t10 : T.fn 10 = sp_leaf) : ∀ ds h Q X, sp_tree ds h Q X → wSs T d_law_tree.body (ds.map some ++ List.replicate (d_law_tree.N.length - ds.length) none) h ⟨fun _ h1 => Q .non h1, Q, fun c fs _ h1 => X c fs h1⟩ := by
  rintro ds h Q X ⟨ns, hns, rfl, q⟩
  show wSs T b_law_tree_0 [some (.scr ns), some (.int 20), none, none, none, none, none] h _
  try simp only [wSs_nil, wSs_cons, wAnd_one, wAnd_cons, wOr_one, wOr_cons, Tgs.len, eq_self, if_true, if_false, rsvN, rsvB, rsvI, rsvS, rsvT, rsvLs, rsvSc, rsvE, rsvH, isNonN, isNonB, isNonI, isNonS, isNonT, isNonL, isNonO, lenS, lenL, lenT, lenSc, seqL, seqT, kdN, kdB, kdI, kdS, kdT, kdL, Kd.isOf, br_t, br_f, itOk, VS.cellOf, wipeE, List.map_cons, List.map_nil, List.replicate_zero, List.replicate_succ, List.cons_append, List.nil_append, Nat.sub_self, Nat.reduceSub, Nat.reduceAdd, List.getElem?_cons_zero, List.getElem?_cons_succ, List.set_cons_zero, List.set_cons_succ, List.length_cons, List.length_nil, Option.some.injEq, exists_eq_left', exists_eq_left, exists_eq', exists_eq, D.int.injEq, D.bl.injEq, D.str.injEq, D.tup.injEq, D.lst.injEq, D.loc.injEq, List.cons.injEq, and_true, true_and, hup_same, ↓reduceIte, Nat.reduceLT, Nat.reduceEqDiff, reduceCtorEq, hup_hup, exists_and_left, Cell.lst.injEq, Nat.reduceLeDiff, Nat.zero_add, Bool.false_eq_true, ixN_ofNat, atI_ofNat, plnN, plnB, plnI, plnS, plnT, plnL, plns0, plnsC, depN, depB, depI, depS, depT, depL, deps0, depsC, eqbI, eqbS, eqbT, eqbL, eqbB, eqbs0, eqbsC, Nat.zero_le, br_not, Nat.max_zero, Nat.zero_max, Nat.max_self, Bool.and_true, Bool.true_and, Bool.not_true, Bool.not_false, beq_self_eq_true, wEq, wInL, wE_var, wE_cst, wE_glob, wE_bop, wE_neg, wE_not, wE_cmp, wE_chn, wE_andv, wE_orv, wE_ite, wE_tup, wE_lst, wE_ix, wE_slc, wE_rev, wE_call, wE_bi, wE_lrng1, wE_lrng2, wE_isi, wE_isx, wE_fld, wE_mt, wE_comp, wE_frz, wE_dnew, wEs_nil, wEs_cons, wO_none, wO_some, wC_val, wC_cmp, wC_chn, wC_not, wC_and, wC_or, wAndC_nil, wAndC_cons, wOrC_nil, wOrC_cons, wI_seq, wI_sgn, wI_rng1, wI_rng2, wI_enm, wI_zip2, wI_zip3, wS_asg, wS_par, wS_asgIx, wS_aug, wS_ex, wS_ret, wS_ret0, wS_ife, wS_whl, wS_fr, wS_rs, wS_never, wAdd_d, wMul_d, addKI, addKS, addKL, addKT, mulKI, mulKL, wSubI, wFdivI, wModI, wPowI, mkLt, mkLf, asgT_nm, asgT_tp, asgTs_nil, asgTs_cons, put_fn, put_glob, put_kc, frzKL, wCeq, wCne, wClt, wCle, wCleS, wCgt, wCge, wCis, wCisn, wCin, wCnin, wIn_d, inKS, inKL, inKTI, inKTS, inKD, wIx_d, ixKL, ixKT, ixKSc, ixKS, ixKD, wSlc_d, slcKL, slcKT, slcKS, wSet_h, wBIlen, wBIabs, wBIintI, wBIintB, wBIintS, wBIstrI, wBIstrS, wBIlist, wBItuple, wBIall, wBIany, wBImax1, wBImin1, wBIsum, wBIsorted, wBImin2, wBImax2, wMTappend, wMTpop, wMTclear, wMTjoin, wMTsplit, isRcvA, isRcvP, isRcvC, isRcvJ, isRcvSp, ex_lst, ex_lst0, b_law_tree_0]
  refine fun a1 ha1 => ?_
  try simp only [wSs_nil, wSs_cons, wAnd_one, wAnd_cons, wOr_one, wOr_cons, Tgs.len, eq_self, if_true, if_false, rsvN, rsvB, rsvI, rsvS, rsvT, rsvLs, rsvSc, rsvE, rsvH, isNonN, isNonB, isNonI, isNonS, isNonT, isNonL, isNonO, lenS, lenL, lenT, lenSc, seqL, seqT, kdN, kdB, kdI, kdS, kdT, kdL, Kd.isOf, br_t, br_f, itOk, VS.cellOf, wipeE, List.map_cons, List.map_nil, List.replicate_zero, List.replicate_succ, List.cons_append, List.nil_append, Nat.sub_self, Nat.reduceSub, Nat.reduceAdd, List.getElem?_cons_zero, List.getElem?_cons_succ, List.set_cons_zero, List.set_cons_succ, List.length_cons, List.length_nil, Option.some.injEq, exists_eq_left', exists_eq_left, exists_eq', exists_eq, D.int.injEq, D.bl.injEq, D.str.injEq, D.tup.injEq, D.lst.injEq, D.loc.injEq, List.cons.injEq, and_true, true_and, hup_same, ↓reduceIte, Nat.reduceLT, Nat.reduceEqDiff, reduceCtorEq, hup_hup, exists_and_left, Cell.lst.injEq, Nat.reduceLeDiff, Nat.zero_add, Bool.false_eq_true, ixN_ofNat, atI_ofNat, plnN, plnB, plnI, plnS, plnT, plnL, plns0, plnsC, depN, depB, depI, depS, depT, depL, deps0, depsC, eqbI, eqbS, eqbT, eqbL, eqbB, eqbs0, eqbsC, Nat.zero_le, br_not, Nat.max_zero, Nat.zero_max, Nat.max_self, Bool.and_true, Bool.true_and, Bool.not_true, Bool.not_false, beq_self_eq_true, wEq, wInL, wE_var, wE_cst, wE_glob, wE_bop, wE_neg, wE_not, wE_cmp, wE_chn, wE_andv, wE_orv, wE_ite, wE_tup, wE_lst, wE_ix, wE_slc, wE_rev, wE_call, wE_bi, wE_lrng1, wE_lrng2, wE_isi, wE_isx, wE_fld, wE_mt, wE_comp, wE_frz, wE_dnew, wEs_nil, wEs_cons, wO_none, wO_some, wC_val, wC_cmp, wC_chn, wC_not, wC_and, wC_or, wAndC_nil, wAndC_cons, wOrC_nil, wOrC_cons, wI_seq, wI_sgn, wI_rng1, wI_rng2, wI_enm, wI_zip2, wI_zip3, wS_asg, wS_par, wS_asgIx, wS_aug, wS_ex, wS_ret, wS_ret0, wS_ife, wS_whl, wS_fr, wS_rs, wS_never, wAdd_d, wMul_d, addKI, addKS, addKL, addKT, mulKI, mulKL, wSubI, wFdivI, wModI, wPowI, mkLt, mkLf, asgT_nm, asgT_tp, asgTs_nil, asgTs_cons, put_fn, put_glob, put_kc, frzKL, wCeq, wCne, wClt, wCle, wCleS, wCgt, wCge, wCis, wCisn, wCin, wCnin, wIn_d, inKS, inKL, inKTI, inKTS, inKD, wIx_d, ixKL, ixKT, ixKSc, ixKS, ixKD, wSlc_d, slcKL, slcKT, slcKS, wSet_h, wBIlen, wBIabs, wBIintI, wBIintB, wBIintS, wBIstrI, wBIstrS, wBIlist, wBItuple, wBIall, wBIany, wBImax1, wBImin1, wBIsum, wBIsorted, wBImin2, wBImax2, wMTappend, wMTpop, wMTclear, wMTjoin, wMTsplit, isRcvA, isRcvP, isRcvC, isRcvJ, isRcvSp, ex_lst, ex_lst0, b_law_tree_1]
  refine fun a2 ha2 => ?_
  have hne : a2 ≠ a1 := ne_of_hup ha2
  have ha2' := none_of_hup ha2
  try simp only [wSs_nil, wSs_cons, wAnd_one, wAnd_cons, wOr_one, wOr_cons, Tgs.len, eq_self, if_true, if_false, rsvN, rsvB, rsvI, rsvS, rsvT, rsvLs, rsvSc, rsvE, rsvH, isNonN, isNonB, isNonI, isNonS, isNonT, isNonL, isNonO, lenS, lenL, lenT, lenSc, seqL, seqT, kdN, kdB, kdI, kdS, kdT, kdL, Kd.isOf, br_t, br_f, itOk, VS.cellOf, wipeE, List.map_cons, List.map_nil, List.replicate_zero, List.replicate_succ, List.cons_append, List.nil_append, Nat.sub_self, Nat.reduceSub, Nat.reduceAdd, List.getElem?_cons_zero, List.getElem?_cons_succ, List.set_cons_zero, List.set_cons_succ, List.length_cons, List.length_nil, Option.some.injEq, exists_eq_left', exists_eq_left, exists_eq', exists_eq, D.int.injEq, D.bl.injEq, D.str.injEq, D.tup.injEq, D.lst.injEq, D.loc.injEq, List.cons.injEq, and_true, true_and, hup_same, ↓reduceIte, Nat.reduceLT, Nat.reduceEqDiff, reduceCtorEq, hup_hup, exists_and_left, Cell.lst.injEq, Nat.reduceLeDiff, Nat.zero_add, Bool.false_eq_true, ixN_ofNat, atI_ofNat, plnN, plnB, plnI, plnS, plnT, plnL, plns0, plnsC, depN, depB, depI, depS, depT, depL, deps0, depsC, eqbI, eqbS, eqbT, eqbL, eqbB, eqbs0, eqbsC, Nat.zero_le, br_not, Nat.max_zero, Nat.zero_max, Nat.max_self, Bool.and_true, Bool.true_and, Bool.not_true, Bool.not_false, beq_self_eq_true, wEq, wInL, wE_var, wE_cst, wE_glob, wE_bop, wE_neg, wE_not, wE_cmp, wE_chn, wE_andv, wE_orv, wE_ite, wE_tup, wE_lst, wE_ix, wE_slc, wE_rev, wE_call, wE_bi, wE_lrng1, wE_lrng2, wE_isi, wE_isx, wE_fld, wE_mt, wE_comp, wE_frz, wE_dnew, wEs_nil, wEs_cons, wO_none, wO_some, wC_val, wC_cmp, wC_chn, wC_not, wC_and, wC_or, wAndC_nil, wAndC_cons, wOrC_nil, wOrC_cons, wI_seq, wI_sgn, wI_rng1, wI_rng2, wI_enm, wI_zip2, wI_zip3, wS_asg, wS_par, wS_asgIx, wS_aug, wS_ex, wS_ret, wS_ret0, wS_ife, wS_whl, wS_fr, wS_rs, wS_never, wAdd_d, wMul_d, addKI, addKS, addKL, addKT, mulKI, mulKL, wSubI, wFdivI, wModI, wPowI, mkLt, mkLf, asgT_nm, asgT_tp, asgTs_nil, asgTs_cons, put_fn, put_glob, put_kc, frzKL, wCeq, wCne, wClt, wCle, wCleS, wCgt, wCge, wCis, wCisn, wCin, wCnin, wIn_d, inKS, inKL, inKTI, inKTS, inKD, wIx_d, ixKL, ixKT, ixKSc, ixKS, ixKD, wSlc_d, slcKL, slcKT, slcKS, wSet_h, wBIlen, wBIabs, wBIintI, wBIintB, wBIintS, wBIstrI, wBIstrS, wBIlist, wBItuple, wBIall, wBIany, wBImax1, wBImin1, wBIsum, wBIsorted, wBImin2, wBImax2, wMTappend, wMTpop, wMTclear, wMTjoin, wMTsplit, isRcvA, isRcvP, isRcvC, isRcvJ, isRcvSp, ex_lst, ex_lst0, b_law_tree_2]
  refine ⟨len_le hns (by omega), ?_⟩
  have hn : ∃ n : Nat, n ≤ 63 ∧ 1 ≤ n ∧ (if (if (63 : Int) < (ns.length : Int) then (63 : Int) else (ns.length : Int)) > 1 then (if (63 : Int) < (ns.length : Int) then (63 : Int) else (ns.length : Int)) else 1) = (n : Int) := by
    refine ⟨max 1 (min ns.length 63), by omega, by omega, ?_⟩
    split <;> split <;> omega
  obtain ⟨n, hn1, hn2, hn3⟩ := hn
  rw [hn3]
  refine ⟨by unfold rngOk; rw [lim_is]; omega, ?_⟩
  -- the second loop
  have fin : ∀ ts (a1 a2 : Addr) (o4 o5 o6 : Option D) h', h a1 = none → h a2 = none → ts ≠ [] → good ts → lvs ts ≤ 63 → hsub h h' → h' a1 = some (.lst (ts.map Tr.d)) → h' a2 = some (.lst (ts.map dI)) →
      wSs T b_law_tree_3 [some (.scr ns), some (.int 20), some (.loc a1), some (.loc a2), o4, o5, o6] h' ⟨fun _ h1 => Q .non h1, Q, fun c fs _ h1 => X c fs h1⟩ := by
    intro ts a1 a2 o4 o5 o6 h' ha1 ha2' hts hg hlv hs e1 e2
    try simp only [wSs_nil, wSs_cons, wAnd_one, wAnd_cons, wOr_one, wOr_cons, Tgs.len, eq_self, if_true, if_false, rsvN, rsvB, rsvI, rsvS, rsvT, rsvLs, rsvSc, rsvE, rsvH, isNonN, isNonB, isNonI, isNonS, isNonT, isNonL, isNonO, lenS, lenL, lenT, lenSc, seqL, seqT, kdN, kdB, kdI, kdS, kdT, kdL, Kd.isOf, br_t, br_f, itOk, VS.cellOf, wipeE, List.map_cons, List.map_nil, List.replicate_zero, List.replicate_succ, List.cons_append, List.nil_append, Nat.sub_self, Nat.reduceSub, Nat.reduceAdd, List.getElem?_cons_zero, List.getElem?_cons_succ, List.set_cons_zero, List.set_cons_succ, List.length_cons, List.length_nil, Option.some.injEq, exists_eq_left', exists_eq_left, exists_eq', exists_eq, D.int.injEq, D.bl.injEq, D.str.injEq, D.tup.injEq, D.lst.injEq, D.loc.injEq, List.cons.injEq, and_true, true_and, hup_same, ↓reduceIte, Nat.reduceLT, Nat.reduceEqDiff, reduceCtorEq, hup_hup, exists_and_left, Cell.lst.injEq, Nat.reduceLeDiff, Nat.zero_add, Bool.false_eq_true, ixN_ofNat, atI_ofNat, plnN, plnB, plnI, plnS, plnT, plnL, plns0, plnsC, depN, depB, depI, depS, depT, depL, deps0, depsC, eqbI, eqbS, eqbT, eqbL, eqbB, eqbs0, eqbsC, Nat.zero_le, br_not, Nat.max_zero, Nat.zero_max, Nat.max_self, Bool.and_true, Bool.true_and, Bool.not_true, Bool.not_false, beq_self_eq_true, wEq, wInL, wE_var, wE_cst, wE_glob, wE_bop, wE_neg, wE_not, wE_cmp, wE_chn, wE_andv, wE_orv, wE_ite, wE_tup, wE_lst, wE_ix, wE_slc, wE_rev, wE_call, wE_bi, wE_lrng1, wE_lrng2, wE_isi, wE_isx, wE_fld, wE_mt, wE_comp, wE_frz, wE_dnew, wEs_nil, wEs_cons, wO_none, wO_some, wC_val, wC_cmp, wC_chn, wC_not, wC_and, wC_or, wAndC_nil, wAndC_cons, wOrC_nil, wOrC_cons, wI_seq, wI_sgn, wI_rng1, wI_rng2, wI_enm, wI_zip2, wI_zip3, wS_asg, wS_par, wS_asgIx, wS_aug, wS_ex, wS_ret, wS_ret0, wS_ife, wS_whl, wS_fr, wS_rs, wS_never, wAdd_d, wMul_d, addKI, addKS, addKL, addKT, mulKI, mulKL, wSubI, wFdivI, wModI, wPowI, mkLt, mkLf, asgT_nm, asgT_tp, asgTs_nil, asgTs_cons, put_fn, put_glob, put_kc, frzKL, wCeq, wCne, wClt, wCle, wCleS, wCgt, wCge, wCis, wCisn, wCin, wCnin, wIn_d, inKS, inKL, inKTI, inKTS, inKD, wIx_d, ixKL, ixKT, ixKSc, ixKS, ixKD, wSlc_d, slcKL, slcKT, slcKS, wSet_h, wBIlen, wBIabs, wBIintI, wBIintB, wBIintS, wBIstrI, wBIstrS, wBIlist, wBItuple, wBIall, wBIany, wBImax1, wBImin1, wBIsum, wBIsorted, wBImin2, wBImax2, wMTappend, wMTpop, wMTclear, wMTjoin, wMTsplit, isRcvA, isRcvP, isRcvC, isRcvJ, isRcvSp, ex_lst, ex_lst0, b_law_tree_3]
    refine wWhl_ind (fun k r h' => ∃ (ts : List Tr) (b1 b2 : Addr), k = ts.length ∧ r = [some (.scr ns), some (.int 20), some (.loc b1), some (.loc b2), o4, o5, o6] ∧ ts ≠ [] ∧ good ts ∧ lvs ts ≤ 63 ∧ hsub h h' ∧ h b1 = none ∧ h b2 = none ∧ h' b1 = some (.lst (ts.map Tr.d)) ∧ h' b2 = some (.lst (ts.map dI))) ?_ (n := ts.length) ⟨ts, a1, a2, rfl, rfl, hts, hg, hlv, hs, ha1, ha2', e1, e2⟩
    rintro k r h' N ⟨ts, b1, b2, rfl, rfl, hts, hg, hlv, hs, hb1, hb2, e1, e2⟩ hN
    have hlen := lvs_len ts
    try simp only [wSs_nil, wSs_cons, wAnd_one, wAnd_cons, wOr_one, wOr_cons, Tgs.len, eq_self, if_true, if_false, rsvN, rsvB, rsvI, rsvS, rsvT, rsvLs, rsvSc, rsvE, rsvH, isNonN, isNonB, isNonI, isNonS, isNonT, isNonL, isNonO, lenS, lenL, lenT, lenSc, seqL, seqT, kdN, kdB, kdI, kdS, kdT, kdL, Kd.isOf, br_t, br_f, itOk, VS.cellOf, wipeE, List.map_cons, List.map_nil, List.replicate_zero, List.replicate_succ, List.cons_append, List.nil_append, Nat.sub_self, Nat.reduceSub, Nat.reduceAdd, List.getElem?_cons_zero, List.getElem?_cons_succ, List.set_cons_zero, List.set_cons_succ, List.length_cons, List.length_nil, Option.some.injEq, exists_eq_left', exists_eq_left, exists_eq', exists_eq, D.int.injEq, D.bl.injEq, D.str.injEq, D.tup.injEq, D.lst.injEq, D.loc.injEq, List.cons.injEq, and_true, true_and, hup_same, ↓reduceIte, Nat.reduceLT, Nat.reduceEqDiff, reduceCtorEq, hup_hup, exists_and_left, Cell.lst.injEq, Nat.reduceLeDiff, Nat.zero_add, Bool.false_eq_true, ixN_ofNat, atI_ofNat, plnN, plnB, plnI, plnS, plnT, plnL, plns0, plnsC, depN, depB, depI, depS, depT, depL, deps0, depsC, eqbI, eqbS, eqbT, eqbL, eqbB, eqbs0, eqbsC, Nat.zero_le, br_not, Nat.max_zero, Nat.zero_max, Nat.max_self, Bool.and_true, Bool.true_and, Bool.not_true, Bool.not_false, beq_self_eq_true, wEq, wInL, wE_var, wE_cst, wE_glob, wE_bop, wE_neg, wE_not, wE_cmp, wE_chn, wE_andv, wE_orv, wE_ite, wE_tup, wE_lst, wE_ix, wE_slc, wE_rev, wE_call, wE_bi, wE_lrng1, wE_lrng2, wE_isi, wE_isx, wE_fld, wE_mt, wE_comp, wE_frz, wE_dnew, wEs_nil, wEs_cons, wO_none, wO_some, wC_val, wC_cmp, wC_chn, wC_not, wC_and, wC_or, wAndC_nil, wAndC_cons, wOrC_nil, wOrC_cons, wI_seq, wI_sgn, wI_rng1, wI_rng2, wI_enm, wI_zip2, wI_zip3, wS_asg, wS_par, wS_asgIx, wS_aug, wS_ex, wS_ret, wS_ret0, wS_ife, wS_whl, wS_fr, wS_rs, wS_never, wAdd_d, wMul_d, addKI, addKS, addKL, addKT, mulKI, mulKL, wSubI, wFdivI, wModI, wPowI, mkLt, mkLf, asgT_nm, asgT_tp, asgTs_nil, asgTs_cons, put_fn, put_glob, put_kc, frzKL, wCeq, wCne, wClt, wCle, wCleS, wCgt, wCge, wCis, wCisn, wCin, wCnin, wIn_d, inKS, inKL, inKTI, inKTS, inKD, wIx_d, ixKL, ixKT, ixKSc, ixKS, ixKD, wSlc_d, slcKL, slcKT, slcKS, wSet_h, wBIlen, wBIabs, wBIintI, wBIintB, wBIintS, wBIstrI, wBIstrS, wBIlist, wBItuple, wBIall, wBIany, wBImax1, wBImin1, wBIsum, wBIsorted, wBImin2, wBImax2, wMTappend, wMTpop, wMTclear, wMTjoin, wMTsplit, isRcvA, isRcvP, isRcvC, isRcvJ, isRcvSp, ex_lst, ex_lst0, rsvL e1, rsvL e2]
    refine ⟨by rw [lim_is, List.length_map]; omega, ?_⟩
    rw [List.length_map]
    refine br_of (fun hlt => ?_) fun hge => ?_
    · have hlt : (1 : Int) < ts.length := of_decide_eq_true hlt
      obtain ⟨us, l, r, rfl⟩ := last2 (xs := ts) (by omega)
      have gl := hg l (by simp)
      have gr := hg r (by simp)
      have hlv2 : lvs us + (l.lv + r.lv) ≤ 63 := by rw [lvs_app] at hlv; simpa [lvs] using hlv
      have gu : good us := fun t ht => hg t (by simp [ht])
      rw [List.map_append] at e1 e2
      have e1 : h' b1 = some (.lst (us.map Tr.d ++ [l.d, r.d])) := e1
      have e2 : h' b2 = some (.lst (us.map dI ++ [dI l, dI r])) := e2
      have hlu := lvs_len us
      try simp only [wSs_nil, wSs_cons, wAnd_one, wAnd_cons, wOr_one, wOr_cons, Tgs.len, eq_self, if_true, if_false, rsvN, rsvB, rsvI, rsvS, rsvT, rsvLs, rsvSc, rsvE, rsvH, isNonN, isNonB, isNonI, isNonS, isNonT, isNonL, isNonO, lenS, lenL, lenT, lenSc, seqL, seqT, kdN, kdB, kdI, kdS, kdT, kdL, Kd.isOf, br_t, br_f, itOk, VS.cellOf, wipeE, List.map_cons, List.map_nil, List.replicate_zero, List.replicate_succ, List.cons_append, List.nil_append, Nat.sub_self, Nat.reduceSub, Nat.reduceAdd, List.getElem?_cons_zero, List.getElem?_cons_succ, List.set_cons_zero, List.set_cons_succ, List.length_cons, List.length_nil, Option.some.injEq, exists_eq_left', exists_eq_left, exists_eq', exists_eq, D.int.injEq, D.bl.injEq, D.str.injEq, D.tup.injEq, D.lst.injEq, D.loc.injEq, List.cons.injEq, and_true, true_and, hup_same, ↓reduceIte, Nat.reduceLT, Nat.reduceEqDiff, reduceCtorEq, hup_hup, exists_and_left, Cell.lst.injEq, Nat.reduceLeDiff, Nat.zero_add, Bool.false_eq_true, ixN_ofNat, atI_ofNat, plnN, plnB, plnI, plnS, plnT, plnL, plns0, plnsC, depN, depB, depI, depS, depT, depL, deps0, depsC, eqbI, eqbS, eqbT, eqbL, eqbB, eqbs0, eqbsC, Nat.zero_le, br_not, Nat.max_zero, Nat.zero_max, Nat.max_self, Bool.and_true, Bool.true_and, Bool.not_true, Bool.not_false, beq_self_eq_true, wEq, wInL, wE_var, wE_cst, wE_glob, wE_bop, wE_neg, wE_not, wE_cmp, wE_chn, wE_andv, wE_orv, wE_ite, wE_tup, wE_lst, wE_ix, wE_slc, wE_rev, wE_call, wE_bi, wE_lrng1, wE_lrng2, wE_isi, wE_isx, wE_fld, wE_mt, wE_comp, wE_frz, wE_dnew, wEs_nil, wEs_cons, wO_none, wO_some, wC_val, wC_cmp, wC_chn, wC_not, wC_and, wC_or, wAndC_nil, wAndC_cons, wOrC_nil, wOrC_cons, wI_seq, wI_sgn, wI_rng1, wI_rng2, wI_enm, wI_zip2, wI_zip3, wS_asg, wS_par, wS_asgIx, wS_aug, wS_ex, wS_ret, wS_ret0, wS_ife, wS_whl, wS_fr, wS_rs, wS_never, wAdd_d, wMul_d, addKI, addKS, addKL, addKT, mulKI, mulKL, wSubI, wFdivI, wModI, wPowI, mkLt, mkLf, asgT_nm, asgT_tp, asgTs_nil, asgTs_cons, put_fn, put_glob, put_kc, frzKL, wCeq, wCne, wClt, wCle, wCleS, wCgt, wCge, wCis, wCisn, wCin, wCnin, wIn_d, inKS, inKL, inKTI, inKTS, inKD, wIx_d, ixKL, ixKT, ixKSc, ixKS, ixKD, wSlc_d, slcKL, slcKT, slcKS, wSet_h, wBIlen, wBIabs, wBIintI, wBIintB, wBIintS, wBIstrI, wBIstrS, wBIlist, wBItuple, wBIall, wBIany, wBImax1, wBImin1, wBIsum, wBIsorted, wBImin2, wBImax2, wMTappend, wMTpop, wMTclear, wMTjoin, wMTsplit, isRcvA, isRcvP, isRcvC, isRcvJ, isRcvSp, ex_lst, ex_lst0, b_law_tree_3a_0, rsvL e1, rsvL e2, cl2, wBImax1, ex_lst]
      refine maxcase fun m hm => ?_
      refine br_of (fun hlt => ?_) fun hge => ?_
      · have hlt : (m : Int) < 20 := of_decide_eq_true hlt
        try simp only [wSs_nil, wSs_cons, wAnd_one, wAnd_cons, wOr_one, wOr_cons, Tgs.len, eq_self, if_true, if_false, rsvN, rsvB, rsvI, rsvS, rsvT, rsvLs, rsvSc, rsvE, rsvH, isNonN, isNonB, isNonI, isNonS, isNonT, isNonL, isNonO, lenS, lenL, lenT, lenSc, seqL, seqT, kdN, kdB, kdI, kdS, kdT, kdL, Kd.isOf, br_t, br_f, itOk, VS.cellOf, wipeE, List.map_cons, List.map_nil, List.replicate_zero, List.replicate_succ, List.cons_append, List.nil_append, Nat.sub_self, Nat.reduceSub, Nat.reduceAdd, List.getElem?_cons_zero, List.getElem?_cons_succ, List.set_cons_zero, List.set_cons_succ, List.length_cons, List.length_nil, Option.some.injEq, exists_eq_left', exists_eq_left, exists_eq', exists_eq, D.int.injEq, D.bl.injEq, D.str.injEq, D.tup.injEq, D.lst.injEq, D.loc.injEq, List.cons.injEq, and_true, true_and, hup_same, ↓reduceIte, Nat.reduceLT, Nat.reduceEqDiff, reduceCtorEq, hup_hup, exists_and_left, Cell.lst.injEq, Nat.reduceLeDiff, Nat.zero_add, Bool.false_eq_true, ixN_ofNat, atI_ofNat, plnN, plnB, plnI, plnS, plnT, plnL, plns0, plnsC, depN, depB, depI, depS, depT, depL, deps0, depsC, eqbI, eqbS, eqbT, eqbL, eqbB, eqbs0, eqbsC, Nat.zero_le, br_not, Nat.max_zero, Nat.zero_max, Nat.max_self, Bool.and_true, Bool.true_and, Bool.not_true, Bool.not_false, beq_self_eq_true, wEq, wInL, wE_var, wE_cst, wE_glob, wE_bop, wE_neg, wE_not, wE_cmp, wE_chn, wE_andv, wE_orv, wE_ite, wE_tup, wE_lst, wE_ix, wE_slc, wE_rev, wE_call, wE_bi, wE_lrng1, wE_lrng2, wE_isi, wE_isx, wE_fld, wE_mt, wE_comp, wE_frz, wE_dnew, wEs_nil, wEs_cons, wO_none, wO_some, wC_val, wC_cmp, wC_chn, wC_not, wC_and, wC_or, wAndC_nil, wAndC_cons, wOrC_nil, wOrC_cons, wI_seq, wI_sgn, wI_rng1, wI_rng2, wI_enm, wI_zip2, wI_zip3, wS_asg, wS_par, wS_asgIx, wS_aug, wS_ex, wS_ret, wS_ret0, wS_ife, wS_whl, wS_fr, wS_rs, wS_never, wAdd_d, wMul_d, addKI, addKS, addKL, addKT, mulKI, mulKL, wSubI, wFdivI, wModI, wPowI, mkLt, mkLf, asgT_nm, asgT_tp, asgTs_nil, asgTs_cons, put_fn, put_glob, put_kc, frzKL, wCeq, wCne, wClt, wCle, wCleS, wCgt, wCge, wCis, wCisn, wCin, wCnin, wIn_d, inKS, inKL, inKTI, inKTS, inKD, wIx_d, ixKL, ixKT, ixKSc, ixKS, ixKD, wSlc_d, slcKL, slcKT, slcKS, wSet_h, wBIlen, wBIabs, wBIintI, wBIintB, wBIintS, wBIstrI, wBIstrS, wBIlist, wBItuple, wBIall, wBIany, wBImax1, wBImin1, wBIsum, wBIsorted, wBImin2, wBImax2, wMTappend, wMTpop, wMTclear, wMTjoin, wMTsplit, isRcvA, isRcvP, isRcvC, isRcvJ, isRcvSp, ex_lst, ex_lst0, b_law_tree_3a_0a_0, rsvL e1, rsvL e2, cl2, cf2, atI_neg1, atI_neg2, atI_neg21]
        have hlen' : (us.map Tr.d ++ [l.d, r.d]).length = us.length + 2 := by simp
        rw [hlen']
        refine ⟨by rw [lim_is]; omega, by omega, by decide, by decide, by rw [lim_is, List.length_map]; omega, fun b1' hb1' => ?_⟩
        try simp only [wSs_nil, wSs_cons, wAnd_one, wAnd_cons, wOr_one, wOr_cons, Tgs.len, eq_self, if_true, if_false, rsvN, rsvB, rsvI, rsvS, rsvT, rsvLs, rsvSc, rsvE, rsvH, isNonN, isNonB, isNonI, isNonS, isNonT, isNonL, isNonO, lenS, lenL, lenT, lenSc, seqL, seqT, kdN, kdB, kdI, kdS, kdT, kdL, Kd.isOf, br_t, br_f, itOk, VS.cellOf, wipeE, List.map_cons, List.map_nil, List.replicate_zero, List.replicate_succ, List.cons_append, List.nil_append, Nat.sub_self, Nat.reduceSub, Nat.reduceAdd, List.getElem?_cons_zero, List.getElem?_cons_succ, List.set_cons_zero, List.set_cons_succ, List.length_cons, List.length_nil, Option.some.injEq, exists_eq_left', exists_eq_left, exists_eq', exists_eq, D.int.injEq, D.bl.injEq, D.str.injEq, D.tup.injEq, D.lst.injEq, D.loc.injEq, List.cons.injEq, and_true, true_and, hup_same, ↓reduceIte, Nat.reduceLT, Nat.reduceEqDiff, reduceCtorEq, hup_hup, exists_and_left, Cell.lst.injEq, Nat.reduceLeDiff, Nat.zero_add, Bool.false_eq_true, ixN_ofNat, atI_ofNat, plnN, plnB, plnI, plnS, plnT, plnL, plns0, plnsC, depN, depB, depI, depS, depT, depL, deps0, depsC, eqbI, eqbS, eqbT, eqbL, eqbB, eqbs0, eqbsC, Nat.zero_le, br_not, Nat.max_zero, Nat.zero_max, Nat.max_self, Bool.and_true, Bool.true_and, Bool.not_true, Bool.not_false, beq_self_eq_true, wEq, wInL, wE_var, wE_cst, wE_glob, wE_bop, wE_neg, wE_not, wE_cmp, wE_chn, wE_andv, wE_orv, wE_ite, wE_tup, wE_lst, wE_ix, wE_slc, wE_rev, wE_call, wE_bi, wE_lrng1, wE_lrng2, wE_isi, wE_isx, wE_fld, wE_mt, wE_comp, wE_frz, wE_dnew, wEs_nil, wEs_cons, wO_none, wO_some, wC_val, wC_cmp, wC_chn, wC_not, wC_and, wC_or, wAndC_nil, wAndC_cons, wOrC_nil, wOrC_cons, wI_seq, wI_sgn, wI_rng1, wI_rng2, wI_enm, wI_zip2, wI_zip3, wS_asg, wS_par, wS_asgIx, wS_aug, wS_ex, wS_ret, wS_ret0, wS_ife, wS_whl, wS_fr, wS_rs, wS_never, wAdd_d, wMul_d, addKI, addKS, addKL, addKT, mulKI, mulKL, wSubI, wFdivI, wModI, wPowI, mkLt, mkLf, asgT_nm, asgT_tp, asgTs_nil, asgTs_cons, put_fn, put_glob, put_kc, frzKL, wCeq, wCne, wClt, wCle, wCleS, wCgt, wCge, wCis, wCisn, wCin, wCnin, wIn_d, inKS, inKL, inKTI, inKTS, inKD, wIx_d, ixKL, ixKT, ixKSc, ixKS, ixKD, wSlc_d, slcKL, slcKT, slcKS, wSet_h, wBIlen, wBIabs, wBIintI, wBIintB, wBIintS, wBIstrI, wBIstrS, wBIlist, wBItuple, wBIall, wBIany, wBImax1, wBImin1, wBIsum, wBIsorted, wBImin2, wBImax2, wMTappend, wMTpop, wMTclear, wMTjoin, wMTsplit, isRcvA, isRcvP, isRcvC, isRcvJ, isRcvSp, ex_lst, ex_lst0, b_law_tree_3a_0a_1]
        have nb : b2 ≠ b1' := hsub_ne e2 hb1'
        try simp only [wSs_nil, wSs_cons, wAnd_one, wAnd_cons, wOr_one, wOr_cons, Tgs.len, eq_self, if_true, if_false, rsvN, rsvB, rsvI, rsvS, rsvT, rsvLs, rsvSc, rsvE, rsvH, isNonN, isNonB, isNonI, isNonS, isNonT, isNonL, isNonO, lenS, lenL, lenT, lenSc, seqL, seqT, kdN, kdB, kdI, kdS, kdT, kdL, Kd.isOf, br_t, br_f, itOk, VS.cellOf, wipeE, List.map_cons, List.map_nil, List.replicate_zero, List.replicate_succ, List.cons_append, List.nil_append, Nat.sub_self, Nat.reduceSub, Nat.reduceAdd, List.getElem?_cons_zero, List.getElem?_cons_succ, List.set_cons_zero, List.set_cons_succ, List.length_cons, List.length_nil, Option.some.injEq, exists_eq_left', exists_eq_left, exists_eq', exists_eq, D.int.injEq, D.bl.injEq, D.str.injEq, D.tup.injEq, D.lst.injEq, D.loc.injEq, List.cons.injEq, and_true, true_and, hup_same, ↓reduceIte, Nat.reduceLT, Nat.reduceEqDiff, reduceCtorEq, hup_hup, exists_and_left, Cell.lst.injEq, Nat.reduceLeDiff, Nat.zero_add, Bool.false_eq_true, ixN_ofNat, atI_ofNat, plnN, plnB, plnI, plnS, plnT, plnL, plns0, plnsC, depN, depB, depI, depS, depT, depL, deps0, depsC, eqbI, eqbS, eqbT, eqbL, eqbB, eqbs0, eqbsC, Nat.zero_le, br_not, Nat.max_zero, Nat.zero_max, Nat.max_self, Bool.and_true, Bool.true_and, Bool.not_true, Bool.not_false, beq_self_eq_true, wEq, wInL, wE_var, wE_cst, wE_glob, wE_bop, wE_neg, wE_not, wE_cmp, wE_chn, wE_andv, wE_orv, wE_ite, wE_tup, wE_lst, wE_ix, wE_slc, wE_rev, wE_call, wE_bi, wE_lrng1, wE_lrng2, wE_isi, wE_isx, wE_fld, wE_mt, wE_comp, wE_frz, wE_dnew, wEs_nil, wEs_cons, wO_none, wO_some, wC_val, wC_cmp, wC_chn, wC_not, wC_and, wC_or, wAndC_nil, wAndC_cons, wOrC_nil, wOrC_cons, wI_seq, wI_sgn, wI_rng1, wI_rng2, wI_enm, wI_zip2, wI_zip3, wS_asg, wS_par, wS_asgIx, wS_aug, wS_ex, wS_ret, wS_ret0, wS_ife, wS_whl, wS_fr, wS_rs, wS_never, wAdd_d, wMul_d, addKI, addKS, addKL, addKT, mulKI, mulKL, wSubI, wFdivI, wModI, wPowI, mkLt, mkLf, asgT_nm, asgT_tp, asgTs_nil, asgTs_cons, put_fn, put_glob, put_kc, frzKL, wCeq, wCne, wClt, wCle, wCleS, wCgt, wCge, wCis, wCisn, wCin, wCnin, wIn_d, inKS, inKL, inKTI, inKTS, inKD, wIx_d, ixKL, ixKT, ixKSc, ixKS, ixKD, wSlc_d, slcKL, slcKT, slcKS, wSet_h, wBIlen, wBIabs, wBIintI, wBIintB, wBIintS, wBIstrI, wBIstrS, wBIlist, wBItuple, wBIall, wBIany, wBImax1, wBImin1, wBIsum, wBIsorted, wBImin2, wBImax2, wMTappend, wMTpop, wMTclear, wMTjoin, wMTsplit, isRcvA, isRcvP, isRcvC, isRcvJ, isRcvSp, ex_lst, ex_lst0, rsvHN nb, rsvL e2, cl2, cf2, ex_lst]
        refine maxcase fun m' hm' => ?_
        try simp only [wSs_nil, wSs_cons, wAnd_one, wAnd_cons, wOr_one, wOr_cons, Tgs.len, eq_self, if_true, if_false, rsvN, rsvB, rsvI, rsvS, rsvT, rsvLs, rsvSc, rsvE, rsvH, isNonN, isNonB, isNonI, isNonS, isNonT, isNonL, isNonO, lenS, lenL, lenT, lenSc, seqL, seqT, kdN, kdB, kdI, kdS, kdT, kdL, Kd.isOf, br_t, br_f, itOk, VS.cellOf, wipeE, List.map_cons, List.map_nil, List.replicate_zero, List.replicate_succ, List.cons_append, List.nil_append, Nat.sub_self, Nat.reduceSub, Nat.reduceAdd, List.getElem?_cons_zero, List.getElem?_cons_succ, List.set_cons_zero, List.set_cons_succ, List.length_cons, List.length_nil, Option.some.injEq, exists_eq_left', exists_eq_left, exists_eq', exists_eq, D.int.injEq, D.bl.injEq, D.str.injEq, D.tup.injEq, D.lst.injEq, D.loc.injEq, List.cons.injEq, and_true, true_and, hup_same, ↓reduceIte, Nat.reduceLT, Nat.reduceEqDiff, reduceCtorEq, hup_hup, exists_and_left, Cell.lst.injEq, Nat.reduceLeDiff, Nat.zero_add, Bool.false_eq_true, ixN_ofNat, atI_ofNat, plnN, plnB, plnI, plnS, plnT, plnL, plns0, plnsC, depN, depB, depI, depS, depT, depL, deps0, depsC, eqbI, eqbS, eqbT, eqbL, eqbB, eqbs0, eqbsC, Nat.zero_le, br_not, Nat.max_zero, Nat.zero_max, Nat.max_self, Bool.and_true, Bool.true_and, Bool.not_true, Bool.not_false, beq_self_eq_true, wEq, wInL, wE_var, wE_cst, wE_glob, wE_bop, wE_neg, wE_not, wE_cmp, wE_chn, wE_andv, wE_orv, wE_ite, wE_tup, wE_lst, wE_ix, wE_slc, wE_rev, wE_call, wE_bi, wE_lrng1, wE_lrng2, wE_isi, wE_isx, wE_fld, wE_mt, wE_comp, wE_frz, wE_dnew, wEs_nil, wEs_cons, wO_none, wO_some, wC_val, wC_cmp, wC_chn, wC_not, wC_and, wC_or, wAndC_nil, wAndC_cons, wOrC_nil, wOrC_cons, wI_seq, wI_sgn, wI_rng1, wI_rng2, wI_enm, wI_zip2, wI_zip3, wS_asg, wS_par, wS_asgIx, wS_aug, wS_ex, wS_ret, wS_ret0, wS_ife, wS_whl, wS_fr, wS_rs, wS_never, wAdd_d, wMul_d, addKI, addKS, addKL, addKT, mulKI, mulKL, wSubI, wFdivI, wModI, wPowI, mkLt, mkLf, asgT_nm, asgT_tp, asgTs_nil, asgTs_cons, put_fn, put_glob, put_kc, frzKL, wCeq, wCne, wClt, wCle, wCleS, wCgt, wCge, wCis, wCisn, wCin, wCnin, wIn_d, inKS, inKL, inKTI, inKTS, inKD, wIx_d, ixKL, ixKT, ixKSc, ixKS, ixKD, wSlc_d, slcKL, slcKT, slcKS, wSet_h, wBIlen, wBIabs, wBIintI, wBIintB, wBIintS, wBIstrI, wBIstrS, wBIlist, wBItuple, wBIall, wBIany, wBImax1, wBImin1, wBIsum, wBIsorted, wBImin2, wBImax2, wMTappend, wMTpop, wMTclear, wMTjoin, wMTsplit, isRcvA, isRcvP, isRcvC, isRcvJ, isRcvSp, ex_lst, ex_lst0]
        refine ⟨by decide, by rw [lim_is, List.length_map]; omega, fun b2' hb2' => ?_⟩
        have nb2 := ne_of_hup hb2'
        have hb2'' := none_of_hup hb2'
        refine hN (us.length + 1) _ _ (by simp) ⟨us ++ [.split ((us.length + 2) % 20) l r], b1', b2', by simp, rfl, by simp, ?_, ?_, hsub_trans hs (hsub_trans (hsub_hup hb1') (hsub_hup hb2')), hsub_none hs hb1', hsub_none hs hb2'', ?_, ?_⟩
        · intro t ht
          rcases List.mem_append.mp ht with ht | ht
          · exact gu t ht
          · have : t = .split ((us.length + 2) % 20) l r := by simpa using ht
            subst this
            refine ⟨⟨Nat.mod_lt _ (by omega), gl.1, gr.1⟩, ?_⟩
            show max l.dep r.dep + 1 ≤ 20
            omega
        · rw [lvs_app]; simpa [lvs, Tr.lv] using hlv2
        · rw [hup_ne (Ne.symm nb2), hup_same, List.map_append]
          have em : (((us.length + 2 : Nat) : Int) % 20) = (((us.length + 2) % 20 : Nat) : Int) := by omega
          rw [em]
          rfl
        · rw [hup_same, List.map_append]
          have em : (1 + (m' : Int)) = ((max l.dep r.dep + 1 : Nat) : Int) := by omega
          rw [em]
          rfl
      · try simp only [wSs_nil, wSs_cons, wAnd_one, wAnd_cons, wOr_one, wOr_cons, Tgs.len, eq_self, if_true, if_false, rsvN, rsvB, rsvI, rsvS, rsvT, rsvLs, rsvSc, rsvE, rsvH, isNonN, isNonB, isNonI, isNonS, isNonT, isNonL, isNonO, lenS, lenL, lenT, lenSc, seqL, seqT, kdN, kdB, kdI, kdS, kdT, kdL, Kd.isOf, br_t, br_f, itOk, VS.cellOf, wipeE, List.map_cons, List.map_nil, List.replicate_zero, List.replicate_succ, List.cons_append, List.nil_append, Nat.sub_self, Nat.reduceSub, Nat.reduceAdd, List.getElem?_cons_zero, List.getElem?_cons_succ, List.set_cons_zero, List.set_cons_succ, List.length_cons, List.length_nil, Option.some.injEq, exists_eq_left', exists_eq_left, exists_eq', exists_eq, D.int.injEq, D.bl.injEq, D.str.injEq, D.tup.injEq, D.lst.injEq, D.loc.injEq, List.cons.injEq, and_true, true_and, hup_same, ↓reduceIte, Nat.reduceLT, Nat.reduceEqDiff, reduceCtorEq, hup_hup, exists_and_left, Cell.lst.injEq, Nat.reduceLeDiff, Nat.zero_add, Bool.false_eq_true, ixN_ofNat, atI_ofNat, plnN, plnB, plnI, plnS, plnT, plnL, plns0, plnsC, depN, depB, depI, depS, depT, depL, deps0, depsC, eqbI, eqbS, eqbT, eqbL, eqbB, eqbs0, eqbsC, Nat.zero_le, br_not, Nat.max_zero, Nat.zero_max, Nat.max_self, Bool.and_true, Bool.true_and, Bool.not_true, Bool.not_false, beq_self_eq_true, wEq, wInL, wE_var, wE_cst, wE_glob, wE_bop, wE_neg, wE_not, wE_cmp, wE_chn, wE_andv, wE_orv, wE_ite, wE_tup, wE_lst, wE_ix, wE_slc, wE_rev, wE_call, wE_bi, wE_lrng1, wE_lrng2, wE_isi, wE_isx, wE_fld, wE_mt, wE_comp, wE_frz, wE_dnew, wEs_nil, wEs_cons, wO_none, wO_some, wC_val, wC_cmp, wC_chn, wC_not, wC_and, wC_or, wAndC_nil, wAndC_cons, wOrC_nil, wOrC_cons, wI_seq, wI_sgn, wI_rng1, wI_rng2, wI_enm, wI_zip2, wI_zip3, wS_asg, wS_par, wS_asgIx, wS_aug, wS_ex, wS_ret, wS_ret0, wS_ife, wS_whl, wS_fr, wS_rs, wS_never, wAdd_d, wMul_d, addKI, addKS, addKL, addKT, mulKI, mulKL, wSubI, wFdivI, wModI, wPowI, mkLt, mkLf, asgT_nm, asgT_tp, asgTs_nil, asgTs_cons, put_fn, put_glob, put_kc, frzKL, wCeq, wCne, wClt, wCle, wCleS, wCgt, wCge, wCis, wCisn, wCin, wCnin, wIn_d, inKS, inKL, inKTI, inKTS, inKD, wIx_d, ixKL, ixKT, ixKSc, ixKS, ixKD, wSlc_d, slcKL, slcKT, slcKS, wSet_h, wBIlen, wBIabs, wBIintI, wBIintB, wBIintS, wBIstrI, wBIstrS, wBIlist, wBItuple, wBIall, wBIany, wBImax1, wBImin1, wBIsum, wBIsorted, wBImin2, wBImax2, wMTappend, wMTpop, wMTclear, wMTjoin, wMTsplit, isRcvA, isRcvP, isRcvC, isRcvJ, isRcvSp, ex_lst, ex_lst0, b_law_tree_3a_0b_0, rsvL e1]
        refine ⟨us.map Tr.d ++ [l.d], r.d, by simpa using e1, ?_⟩
        have nb : b2 ≠ b1 := by
          rintro rfl
          rw [e1] at e2
          have := congrArg (fun c : Option Cell => match c with | some (.lst xs) => xs.getLast? | _ => none) e2
          simp [dI] at this
          cases r <;> cases this
        have e2' : hup h' b1 (.lst (us.map Tr.d ++ [l.d])) b2 = some (.lst (us.map dI ++ [dI l, dI r])) := by rw [hup_ne nb]; exact e2
        try simp only [wSs_nil, wSs_cons, wAnd_one, wAnd_cons, wOr_one, wOr_cons, Tgs.len, eq_self, if_true, if_false, rsvN, rsvB, rsvI, rsvS, rsvT, rsvLs, rsvSc, rsvE, rsvH, isNonN, isNonB, isNonI, isNonS, isNonT, isNonL, isNonO, lenS, lenL, lenT, lenSc, seqL, seqT, kdN, kdB, kdI, kdS, kdT, kdL, Kd.isOf, br_t, br_f, itOk, VS.cellOf, wipeE, List.map_cons, List.map_nil, List.replicate_zero, List.replicate_succ, List.cons_append, List.nil_append, Nat.sub_self, Nat.reduceSub, Nat.reduceAdd, List.getElem?_cons_zero, List.getElem?_cons_succ, List.set_cons_zero, List.set_cons_succ, List.length_cons, List.length_nil, Option.some.injEq, exists_eq_left', exists_eq_left, exists_eq', exists_eq, D.int.injEq, D.bl.injEq, D.str.injEq, D.tup.injEq, D.lst.injEq, D.loc.injEq, List.cons.injEq, and_true, true_and, hup_same, ↓reduceIte, Nat.reduceLT, Nat.reduceEqDiff, reduceCtorEq, hup_hup, exists_and_left, Cell.lst.injEq, Nat.reduceLeDiff, Nat.zero_add, Bool.false_eq_true, ixN_ofNat, atI_ofNat, plnN, plnB, plnI, plnS, plnT, plnL, plns0, plnsC, depN, depB, depI, depS, depT, depL, deps0, depsC, eqbI, eqbS, eqbT, eqbL, eqbB, eqbs0, eqbsC, Nat.zero_le, br_not, Nat.max_zero, Nat.zero_max, Nat.max_self, Bool.and_true, Bool.true_and, Bool.not_true, Bool.not_false, beq_self_eq_true, wEq, wInL, wE_var, wE_cst, wE_glob, wE_bop, wE_neg, wE_not, wE_cmp, wE_chn, wE_andv, wE_orv, wE_ite, wE_tup, wE_lst, wE_ix, wE_slc, wE_rev, wE_call, wE_bi, wE_lrng1, wE_lrng2, wE_isi, wE_isx, wE_fld, wE_mt, wE_comp, wE_frz, wE_dnew, wEs_nil, wEs_cons, wO_none, wO_some, wC_val, wC_cmp, wC_chn, wC_not, wC_and, wC_or, wAndC_nil, wAndC_cons, wOrC_nil, wOrC_cons, wI_seq, wI_sgn, wI_rng1, wI_rng2, wI_enm, wI_zip2, wI_zip3, wS_asg, wS_par, wS_asgIx, wS_aug, wS_ex, wS_ret, wS_ret0, wS_ife, wS_whl, wS_fr, wS_rs, wS_never, wAdd_d, wMul_d, addKI, addKS, addKL, addKT, mulKI, mulKL, wSubI, wFdivI, wModI, wPowI, mkLt, mkLf, asgT_nm, asgT_tp, asgTs_nil, asgTs_cons, put_fn, put_glob, put_kc, frzKL, wCeq, wCne, wClt, wCle, wCleS, wCgt, wCge, wCis, wCisn, wCin, wCnin, wIn_d, inKS, inKL, inKTI, inKTS, inKD, wIx_d, ixKL, ixKT, ixKSc, ixKS, ixKD, wSlc_d, slcKL, slcKT, slcKS, wSet_h, wBIlen, wBIabs, wBIintI, wBIintB, wBIintS, wBIstrI, wBIstrS, wBIlist, wBItuple, wBIall, wBIany, wBImax1, wBImin1, wBIsum, wBIsorted, wBImin2, wBImax2, wMTappend, wMTpop, wMTclear, wMTjoin, wMTsplit, isRcvA, isRcvP, isRcvC, isRcvJ, isRcvSp, ex_lst, ex_lst0, b_law_tree_3a_0b_1, rsvL e2']
        refine ⟨us.map dI ++ [dI l], dI r, by simpa using e2', ?_⟩
        refine hN (us.length + 1) _ _ (by simp) ⟨us ++ [l], b1, b2, by simp, rfl, by simp, ?_, ?_, hsub_hupN (hsub_hupN hs hb1) hb2, hb1, hb2, ?_, ?_⟩
        · intro t ht
          rcases List.mem_append.mp ht with ht | ht
          · exact gu t ht
          · have : t = l := by simpa using ht
            subst this
            exact gl
        · rw [lvs_app]; have := r.lv_pos; simp [lvs] at *; omega
        · rw [hup_ne (Ne.symm nb), hup_same]; simp
        · rw [hup_same]; simp
    · have hge : ¬ (1 : Int) < ts.length := of_decide_eq_false hge
      obtain ⟨t, rfl⟩ : ∃ t, ts = [t] := by
        cases ts with
        | nil => exact absurd rfl hts
        | cons t ts => cases ts with
          | nil => exact ⟨t, rfl⟩
          | cons _ _ => simp at hge; omega
      have gt := hg t (by simp)
      try simp only [wSs_nil, wSs_cons, wAnd_one, wAnd_cons, wOr_one, wOr_cons, Tgs.len, eq_self, if_true, if_false, rsvN, rsvB, rsvI, rsvS, rsvT, rsvLs, rsvSc, rsvE, rsvH, isNonN, isNonB, isNonI, isNonS, isNonT, isNonL, isNonO, lenS, lenL, lenT, lenSc, seqL, seqT, kdN, kdB, kdI, kdS, kdT, kdL, Kd.isOf, br_t, br_f, itOk, VS.cellOf, wipeE, List.map_cons, List.map_nil, List.replicate_zero, List.replicate_succ, List.cons_append, List.nil_append, Nat.sub_self, Nat.reduceSub, Nat.reduceAdd, List.getElem?_cons_zero, List.getElem?_cons_succ, List.set_cons_zero, List.set_cons_succ, List.length_cons, List.length_nil, Option.some.injEq, exists_eq_left', exists_eq_left, exists_eq', exists_eq, D.int.injEq, D.bl.injEq, D.str.injEq, D.tup.injEq, D.lst.injEq, D.loc.injEq, List.cons.injEq, and_true, true_and, hup_same, ↓reduceIte, Nat.reduceLT, Nat.reduceEqDiff, reduceCtorEq, hup_hup, exists_and_left, Cell.lst.injEq, Nat.reduceLeDiff, Nat.zero_add, Bool.false_eq_true, ixN_ofNat, atI_ofNat, plnN, plnB, plnI, plnS, plnT, plnL, plns0, plnsC, depN, depB, depI, depS, depT, depL, deps0, depsC, eqbI, eqbS, eqbT, eqbL, eqbB, eqbs0, eqbsC, Nat.zero_le, br_not, Nat.max_zero, Nat.zero_max, Nat.max_self, Bool.and_true, Bool.true_and, Bool.not_true, Bool.not_false, beq_self_eq_true, wEq, wInL, wE_var, wE_cst, wE_glob, wE_bop, wE_neg, wE_not, wE_cmp, wE_chn, wE_andv, wE_orv, wE_ite, wE_tup, wE_lst, wE_ix, wE_slc, wE_rev, wE_call, wE_bi, wE_lrng1, wE_lrng2, wE_isi, wE_isx, wE_fld, wE_mt, wE_comp, wE_frz, wE_dnew, wEs_nil, wEs_cons, wO_none, wO_some, wC_val, wC_cmp, wC_chn, wC_not, wC_and, wC_or, wAndC_nil, wAndC_cons, wOrC_nil, wOrC_cons, wI_seq, wI_sgn, wI_rng1, wI_rng2, wI_enm, wI_zip2, wI_zip3, wS_asg, wS_par, wS_asgIx, wS_aug, wS_ex, wS_ret, wS_ret0, wS_ife, wS_whl, wS_fr, wS_rs, wS_never, wAdd_d, wMul_d, addKI, addKS, addKL, addKT, mulKI, mulKL, wSubI, wFdivI, wModI, wPowI, mkLt, mkLf, asgT_nm, asgT_tp, asgTs_nil, asgTs_cons, put_fn, put_glob, put_kc, frzKL, wCeq, wCne, wClt, wCle, wCleS, wCgt, wCge, wCis, wCisn, wCin, wCnin, wIn_d, inKS, inKL, inKTI, inKTS, inKD, wIx_d, ixKL, ixKT, ixKSc, ixKS, ixKD, wSlc_d, slcKL, slcKT, slcKS, wSet_h, wBIlen, wBIabs, wBIintI, wBIintB, wBIintS, wBIstrI, wBIstrS, wBIlist, wBItuple, wBIall, wBIany, wBImax1, wBImin1, wBIsum, wBIsorted, wBImin2, wBImax2, wMTappend, wMTpop, wMTclear, wMTjoin, wMTsplit, isRcvA, isRcvP, isRcvC, isRcvJ, isRcvSp, ex_lst, ex_lst0, b_law_tree_4, rsvL e1]
      exact ⟨h, hs, q t gt.1 gt.2 (by simpa [lvs] using hlv)⟩
  refine wFor_ind (fun xs r h' => ∃ (ts : List Tr) (b1 b2 : Addr) (o4 o5 o6 : Option D), r = [some (.scr ns), some (.int 20), some (.loc b1), some (.loc b2), o4, o5, o6] ∧ b2 ≠ b1 ∧ (xs = [] → ts ≠ []) ∧ good ts ∧ lvs ts + xs.length ≤ 63 ∧ (∀ x ∈ xs, ∃ k : Nat, x = .int k ∧ k ≤ 1000) ∧ hsub h h' ∧ h b1 = none ∧ h b2 = none ∧ h' b1 = some (.lst (ts.map Tr.d)) ∧ h' b2 = some (.lst (ts.map dI))) ?_ ?_
    ⟨[], a1, a2, none, none, none, rfl, hne, ?_, fun t ht => by simp at ht, ?_, ?_, hsub_trans (hsub_hup ha1) (hsub_hup ha2), ha1, ha2', ?_, hup_same⟩
  · rintro y xs r h' N ⟨ts, b1, b2, o4, o5, o6, rfl, nb, hne', hg, hlv, hxs, hs, hb1, hb2, e1, e2⟩ hN
    obtain ⟨k, rfl, hk⟩ := hxs y (by simp)
    have hxs' : ∀ x ∈ xs, ∃ k : Nat, x = .int k ∧ k ≤ 1000 := fun x hx => hxs x (by simp [hx])
    have hlv : lvs ts + (xs.length + 1) ≤ 63 := hlv
    have hlen := lvs_len ts
    refine ⟨trivial, ?_⟩
    try simp only [wSs_nil, wSs_cons, wAnd_one, wAnd_cons, wOr_one, wOr_cons, Tgs.len, eq_self, if_true, if_false, rsvN, rsvB, rsvI, rsvS, rsvT, rsvLs, rsvSc, rsvE, rsvH, isNonN, isNonB, isNonI, isNonS, isNonT, isNonL, isNonO, lenS, lenL, lenT, lenSc, seqL, seqT, kdN, kdB, kdI, kdS, kdT, kdL, Kd.isOf, br_t, br_f, itOk, VS.cellOf, wipeE, List.map_cons, List.map_nil, List.replicate_zero, List.replicate_succ, List.cons_append, List.nil_append, Nat.sub_self, Nat.reduceSub, Nat.reduceAdd, List.getElem?_cons_zero, List.getElem?_cons_succ, List.set_cons_zero, List.set_cons_succ, List.length_cons, List.length_nil, Option.some.injEq, exists_eq_left', exists_eq_left, exists_eq', exists_eq, D.int.injEq, D.bl.injEq, D.str.injEq, D.tup.injEq, D.lst.injEq, D.loc.injEq, List.cons.injEq, and_true, true_and, hup_same, ↓reduceIte, Nat.reduceLT, Nat.reduceEqDiff, reduceCtorEq, hup_hup, exists_and_left, Cell.lst.injEq, Nat.reduceLeDiff, Nat.zero_add, Bool.false_eq_true, ixN_ofNat, atI_ofNat, plnN, plnB, plnI, plnS, plnT, plnL, plns0, plnsC, depN, depB, depI, depS, depT, depL, deps0, depsC, eqbI, eqbS, eqbT, eqbL, eqbB, eqbs0, eqbsC, Nat.zero_le, br_not, Nat.max_zero, Nat.zero_max, Nat.max_self, Bool.and_true, Bool.true_and, Bool.not_true, Bool.not_false, beq_self_eq_true, wEq, wInL, wE_var, wE_cst, wE_glob, wE_bop, wE_neg, wE_not, wE_cmp, wE_chn, wE_andv, wE_orv, wE_ite, wE_tup, wE_lst, wE_ix, wE_slc, wE_rev, wE_call, wE_bi, wE_lrng1, wE_lrng2, wE_isi, wE_isx, wE_fld, wE_mt, wE_comp, wE_frz, wE_dnew, wEs_nil, wEs_cons, wO_none, wO_some, wC_val, wC_cmp, wC_chn, wC_not, wC_and, wC_or, wAndC_nil, wAndC_cons, wOrC_nil, wOrC_cons, wI_seq, wI_sgn, wI_rng1, wI_rng2, wI_enm, wI_zip2, wI_zip3, wS_asg, wS_par, wS_asgIx, wS_aug, wS_ex, wS_ret, wS_ret0, wS_ife, wS_whl, wS_fr, wS_rs, wS_never, wAdd_d, wMul_d, addKI, addKS, addKL, addKT, mulKI, mulKL, wSubI, wFdivI, wModI, wPowI, mkLt, mkLf, asgT_nm, asgT_tp, asgTs_nil, asgTs_cons, put_fn, put_glob, put_kc, frzKL, wCeq, wCne, wClt, wCle, wCleS, wCgt, wCge, wCis, wCisn, wCin, wCnin, wIn_d, inKS, inKL, inKTI, inKTS, inKD, wIx_d, ixKL, ixKT, ixKSc, ixKS, ixKD, wSlc_d, slcKL, slcKT, slcKS, wSet_h, wBIlen, wBIabs, wBIintI, wBIintB, wBIintS, wBIstrI, wBIstrS, wBIlist, wBItuple, wBIall, wBIany, wBImax1, wBImin1, wBIsum, wBIsorted, wBImin2, wBImax2, wMTappend, wMTpop, wMTclear, wMTjoin, wMTsplit, isRcvA, isRcvP, isRcvC, isRcvJ, isRcvSp, ex_lst, ex_lst0, b_law_tree_2a_0, t8]
    refine ⟨ns, k, by rw [lim_is]; omega, hk, rfl, fun a c x b ha hx => ?_⟩
    try simp only [wSs_nil, wSs_cons, wAnd_one, wAnd_cons, wOr_one, wOr_cons, Tgs.len, eq_self, if_true, if_false, rsvN, rsvB, rsvI, rsvS, rsvT, rsvLs, rsvSc, rsvE, rsvH, isNonN, isNonB, isNonI, isNonS, isNonT, isNonL, isNonO, lenS, lenL, lenT, lenSc, seqL, seqT, kdN, kdB, kdI, kdS, kdT, kdL, Kd.isOf, br_t, br_f, itOk, VS.cellOf, wipeE, List.map_cons, List.map_nil, List.replicate_zero, List.replicate_succ, List.cons_append, List.nil_append, Nat.sub_self, Nat.reduceSub, Nat.reduceAdd, List.getElem?_cons_zero, List.getElem?_cons_succ, List.set_cons_zero, List.set_cons_succ, List.length_cons, List.length_nil, Option.some.injEq, exists_eq_left', exists_eq_left, exists_eq', exists_eq, D.int.injEq, D.bl.injEq, D.str.injEq, D.tup.injEq, D.lst.injEq, D.loc.injEq, List.cons.injEq, and_true, true_and, hup_same, ↓reduceIte, Nat.reduceLT, Nat.reduceEqDiff, reduceCtorEq, hup_hup, exists_and_left, Cell.lst.injEq, Nat.reduceLeDiff, Nat.zero_add, Bool.false_eq_true, ixN_ofNat, atI_ofNat, plnN, plnB, plnI, plnS, plnT, plnL, plns0, plnsC, depN, depB, depI, depS, depT, depL, deps0, depsC, eqbI, eqbS, eqbT, eqbL, eqbB, eqbs0, eqbsC, Nat.zero_le, br_not, Nat.max_zero, Nat.zero_max, Nat.max_self, Bool.and_true, Bool.true_and, Bool.not_true, Bool.not_false, beq_self_eq_true, wEq, wInL, wE_var, wE_cst, wE_glob, wE_bop, wE_neg, wE_not, wE_cmp, wE_chn, wE_andv, wE_orv, wE_ite, wE_tup, wE_lst, wE_ix, wE_slc, wE_rev, wE_call, wE_bi, wE_lrng1, wE_lrng2, wE_isi, wE_isx, wE_fld, wE_mt, wE_comp, wE_frz, wE_dnew, wEs_nil, wEs_cons, wO_none, wO_some, wC_val, wC_cmp, wC_chn, wC_not, wC_and, wC_or, wAndC_nil, wAndC_cons, wOrC_nil, wOrC_cons, wI_seq, wI_sgn, wI_rng1, wI_rng2, wI_enm, wI_zip2, wI_zip3, wS_asg, wS_par, wS_asgIx, wS_aug, wS_ex, wS_ret, wS_ret0, wS_ife, wS_whl, wS_fr, wS_rs, wS_never, wAdd_d, wMul_d, addKI, addKS, addKL, addKT, mulKI, mulKL, wSubI, wFdivI, wModI, wPowI, mkLt, mkLf, asgT_nm, asgT_tp, asgTs_nil, asgTs_cons, put_fn, put_glob, put_kc, frzKL, wCeq, wCne, wClt, wCle, wCleS, wCgt, wCge, wCis, wCisn, wCin, wCnin, wIn_d, inKS, inKL, inKTI, inKTS, inKD, wIx_d, ixKL, ixKT, ixKSc, ixKS, ixKD, wSlc_d, slcKL, slcKT, slcKS, wSet_h, wBIlen, wBIabs, wBIintI, wBIintB, wBIintS, wBIstrI, wBIstrS, wBIlist, wBItuple, wBIall, wBIany, wBImax1, wBImin1, wBIsum, wBIsorted, wBImin2, wBImax2, wMTappend, wMTpop, wMTclear, wMTjoin, wMTsplit, isRcvA, isRcvP, isRcvC, isRcvJ, isRcvSp, ex_lst, ex_lst0, b_law_tree_2a_1, t9]
    refine ⟨a, 3, c, x, b, div3 (by omega) (by omega), hup_same, hx, rfl, fun d c1 x1 d1 hd0 hd1 hx1 => ?_⟩
    have n1 : b1 ≠ a := hsub_ne e1 ha
    have n2 : b2 ≠ a := hsub_ne e2 ha
    try simp only [wSs_nil, wSs_cons, wAnd_one, wAnd_cons, wOr_one, wOr_cons, Tgs.len, eq_self, if_true, if_false, rsvN, rsvB, rsvI, rsvS, rsvT, rsvLs, rsvSc, rsvE, rsvH, isNonN, isNonB, isNonI, isNonS, isNonT, isNonL, isNonO, lenS, lenL, lenT, lenSc, seqL, seqT, kdN, kdB, kdI, kdS, kdT, kdL, Kd.isOf, br_t, br_f, itOk, VS.cellOf, wipeE, List.map_cons, List.map_nil, List.replicate_zero, List.replicate_succ, List.cons_append, List.nil_append, Nat.sub_self, Nat.reduceSub, Nat.reduceAdd, List.getElem?_cons_zero, List.getElem?_cons_succ, List.set_cons_zero, List.set_cons_succ, List.length_cons, List.length_nil, Option.some.injEq, exists_eq_left', exists_eq_left, exists_eq', exists_eq, D.int.injEq, D.bl.injEq, D.str.injEq, D.tup.injEq, D.lst.injEq, D.loc.injEq, List.cons.injEq, and_true, true_and, hup_same, ↓reduceIte, Nat.reduceLT, Nat.reduceEqDiff, reduceCtorEq, hup_hup, exists_and_left, Cell.lst.injEq, Nat.reduceLeDiff, Nat.zero_add, Bool.false_eq_true, ixN_ofNat, atI_ofNat, plnN, plnB, plnI, plnS, plnT, plnL, plns0, plnsC, depN, depB, depI, depS, depT, depL, deps0, depsC, eqbI, eqbS, eqbT, eqbL, eqbB, eqbs0, eqbsC, Nat.zero_le, br_not, Nat.max_zero, Nat.zero_max, Nat.max_self, Bool.and_true, Bool.true_and, Bool.not_true, Bool.not_false, beq_self_eq_true, wEq, wInL, wE_var, wE_cst, wE_glob, wE_bop, wE_neg, wE_not, wE_cmp, wE_chn, wE_andv, wE_orv, wE_ite, wE_tup, wE_lst, wE_ix, wE_slc, wE_rev, wE_call, wE_bi, wE_lrng1, wE_lrng2, wE_isi, wE_isx, wE_fld, wE_mt, wE_comp, wE_frz, wE_dnew, wEs_nil, wEs_cons, wO_none, wO_some, wC_val, wC_cmp, wC_chn, wC_not, wC_and, wC_or, wAndC_nil, wAndC_cons, wOrC_nil, wOrC_cons, wI_seq, wI_sgn, wI_rng1, wI_rng2, wI_enm, wI_zip2, wI_zip3, wS_asg, wS_par, wS_asgIx, wS_aug, wS_ex, wS_ret, wS_ret0, wS_ife, wS_whl, wS_fr, wS_rs, wS_never, wAdd_d, wMul_d, addKI, addKS, addKL, addKT, mulKI, mulKL, wSubI, wFdivI, wModI, wPowI, mkLt, mkLf, asgT_nm, asgT_tp, asgTs_nil, asgTs_cons, put_fn, put_glob, put_kc, frzKL, wCeq, wCne, wClt, wCle, wCleS, wCgt, wCge, wCis, wCisn, wCin, wCnin, wIn_d, inKS, inKL, inKTI, inKTS, inKD, wIx_d, ixKL, ixKT, ixKSc, ixKS, ixKD, wSlc_d, slcKL, slcKT, slcKS, wSet_h, wBIlen, wBIabs, wBIintI, wBIintB, wBIintS, wBIstrI, wBIstrS, wBIlist, wBItuple, wBIall, wBIany, wBImax1, wBImin1, wBIsum, wBIsorted, wBImin2, wBImax2, wMTappend, wMTpop, wMTclear, wMTjoin, wMTsplit, isRcvA, isRcvP, isRcvC, isRcvJ, isRcvSp, ex_lst, ex_lst0, b_law_tree_2a_2, rsvHN n1, rsvHN n2, rsvL e1, rsvL e2]
    have hl1 : (ts.map Tr.d).length ≤ lim := by rw [lim_is, List.length_map]; omega
    rw [List.length_map]
    rw [List.length_map] at hl1
    have hB : wSs T b_law_tree_2a_2b_0 [some (.scr ns), some (.int 20), some (.loc b1), some (.loc b2), some (.int k), some (.loc a), some (.int d)] (hup h' a (stD c1 x1 d1)) ⟨N, Q, fun c fs x h1 => X c fs h1⟩ := by
      try simp only [wSs_nil, wSs_cons, wAnd_one, wAnd_cons, wOr_one, wOr_cons, Tgs.len, eq_self, if_true, if_false, rsvN, rsvB, rsvI, rsvS, rsvT, rsvLs, rsvSc, rsvE, rsvH, isNonN, isNonB, isNonI, isNonS, isNonT, isNonL, isNonO, lenS, lenL, lenT, lenSc, seqL, seqT, kdN, kdB, kdI, kdS, kdT, kdL, Kd.isOf, br_t, br_f, itOk, VS.cellOf, wipeE, List.map_cons, List.map_nil, List.replicate_zero, List.replicate_succ, List.cons_append, List.nil_append, Nat.sub_self, Nat.reduceSub, Nat.reduceAdd, List.getElem?_cons_zero, List.getElem?_cons_succ, List.set_cons_zero, List.set_cons_succ, List.length_cons, List.length_nil, Option.some.injEq, exists_eq_left', exists_eq_left, exists_eq', exists_eq, D.int.injEq, D.bl.injEq, D.str.injEq, D.tup.injEq, D.lst.injEq, D.loc.injEq, List.cons.injEq, and_true, true_and, hup_same, ↓reduceIte, Nat.reduceLT, Nat.reduceEqDiff, reduceCtorEq, hup_hup, exists_and_left, Cell.lst.injEq, Nat.reduceLeDiff, Nat.zero_add, Bool.false_eq_true, ixN_ofNat, atI_ofNat, plnN, plnB, plnI, plnS, plnT, plnL, plns0, plnsC, depN, depB, depI, depS, depT, depL, deps0, depsC, eqbI, eqbS, eqbT, eqbL, eqbB, eqbs0, eqbsC, Nat.zero_le, br_not, Nat.max_zero, Nat.zero_max, Nat.max_self, Bool.and_true, Bool.true_and, Bool.not_true, Bool.not_false, beq_self_eq_true, wEq, wInL, wE_var, wE_cst, wE_glob, wE_bop, wE_neg, wE_not, wE_cmp, wE_chn, wE_andv, wE_orv, wE_ite, wE_tup, wE_lst, wE_ix, wE_slc, wE_rev, wE_call, wE_bi, wE_lrng1, wE_lrng2, wE_isi, wE_isx, wE_fld, wE_mt, wE_comp, wE_frz, wE_dnew, wEs_nil, wEs_cons, wO_none, wO_some, wC_val, wC_cmp, wC_chn, wC_not, wC_and, wC_or, wAndC_nil, wAndC_cons, wOrC_nil, wOrC_cons, wI_seq, wI_sgn, wI_rng1, wI_rng2, wI_enm, wI_zip2, wI_zip3, wS_asg, wS_par, wS_asgIx, wS_aug, wS_ex, wS_ret, wS_ret0, wS_ife, wS_whl, wS_fr, wS_rs, wS_never, wAdd_d, wMul_d, addKI, addKS, addKL, addKT, mulKI, mulKL, wSubI, wFdivI, wModI, wPowI, mkLt, mkLf, asgT_nm, asgT_tp, asgTs_nil, asgTs_cons, put_fn, put_glob, put_kc, frzKL, wCeq, wCne, wClt, wCle, wCleS, wCgt, wCge, wCis, wCisn, wCin, wCnin, wIn_d, inKS, inKL, inKTI, inKTS, inKD, wIx_d, ixKL, ixKT, ixKSc, ixKS, ixKD, wSlc_d, slcKL, slcKT, slcKS, wSet_h, wBIlen, wBIabs, wBIintI, wBIintB, wBIintS, wBIstrI, wBIstrS, wBIlist, wBItuple, wBIall, wBIany, wBImax1, wBImin1, wBIsum, wBIsorted, wBImin2, wBImax2, wMTappend, wMTpop, wMTclear, wMTjoin, wMTsplit, isRcvA, isRcvP, isRcvC, isRcvJ, isRcvSp, ex_lst, ex_lst0, b_law_tree_2a_2b_0, rsvHN n1, rsvL e1, t10]
      refine ⟨a, c1, x1, d1, hup_same, hx1, rfl, fun t c2 x2 d2 tok tdep tlv hx2 => ?_⟩
      try simp only [wSs_nil, wSs_cons, wAnd_one, wAnd_cons, wOr_one, wOr_cons, Tgs.len, eq_self, if_true, if_false, rsvN, rsvB, rsvI, rsvS, rsvT, rsvLs, rsvSc, rsvE, rsvH, isNonN, isNonB, isNonI, isNonS, isNonT, isNonL, isNonO, lenS, lenL, lenT, lenSc, seqL, seqT, kdN, kdB, kdI, kdS, kdT, kdL, Kd.isOf, br_t, br_f, itOk, VS.cellOf, wipeE, List.map_cons, List.map_nil, List.replicate_zero, List.replicate_succ, List.cons_append, List.nil_append, Nat.sub_self, Nat.reduceSub, Nat.reduceAdd, List.getElem?_cons_zero, List.getElem?_cons_succ, List.set_cons_zero, List.set_cons_succ, List.length_cons, List.length_nil, Option.some.injEq, exists_eq_left', exists_eq_left, exists_eq', exists_eq, D.int.injEq, D.bl.injEq, D.str.injEq, D.tup.injEq, D.lst.injEq, D.loc.injEq, List.cons.injEq, and_true, true_and, hup_same, ↓reduceIte, Nat.reduceLT, Nat.reduceEqDiff, reduceCtorEq, hup_hup, exists_and_left, Cell.lst.injEq, Nat.reduceLeDiff, Nat.zero_add, Bool.false_eq_true, ixN_ofNat, atI_ofNat, plnN, plnB, plnI, plnS, plnT, plnL, plns0, plnsC, depN, depB, depI, depS, depT, depL, deps0, depsC, eqbI, eqbS, eqbT, eqbL, eqbB, eqbs0, eqbsC, Nat.zero_le, br_not, Nat.max_zero, Nat.zero_max, Nat.max_self, Bool.and_true, Bool.true_and, Bool.not_true, Bool.not_false, beq_self_eq_true, wEq, wInL, wE_var, wE_cst, wE_glob, wE_bop, wE_neg, wE_not, wE_cmp, wE_chn, wE_andv, wE_orv, wE_ite, wE_tup, wE_lst, wE_ix, wE_slc, wE_rev, wE_call, wE_bi, wE_lrng1, wE_lrng2, wE_isi, wE_isx, wE_fld, wE_mt, wE_comp, wE_frz, wE_dnew, wEs_nil, wEs_cons, wO_none, wO_some, wC_val, wC_cmp, wC_chn, wC_not, wC_and, wC_or, wAndC_nil, wAndC_cons, wOrC_nil, wOrC_cons, wI_seq, wI_sgn, wI_rng1, wI_rng2, wI_enm, wI_zip2, wI_zip3, wS_asg, wS_par, wS_asgIx, wS_aug, wS_ex, wS_ret, wS_ret0, wS_ife, wS_whl, wS_fr, wS_rs, wS_never, wAdd_d, wMul_d, addKI, addKS, addKL, addKT, mulKI, mulKL, wSubI, wFdivI, wModI, wPowI, mkLt, mkLf, asgT_nm, asgT_tp, asgTs_nil, asgTs_cons, put_fn, put_glob, put_kc, frzKL, wCeq, wCne, wClt, wCle, wCleS, wCgt, wCge, wCis, wCisn, wCin, wCnin, wIn_d, inKS, inKL, inKTI, inKTS, inKD, wIx_d, ixKL, ixKT, ixKSc, ixKS, ixKD, wSlc_d, slcKL, slcKT, slcKS, wSet_h, wBIlen, wBIabs, wBIintI, wBIintB, wBIintS, wBIstrI, wBIstrS, wBIlist, wBItuple, wBIall, wBIany, wBImax1, wBImin1, wBIsum, wBIsorted, wBImin2, wBImax2, wMTappend, wMTpop, wMTclear, wMTjoin, wMTsplit, isRcvA, isRcvP, isRcvC, isRcvJ, isRcvSp, ex_lst, ex_lst0, hup_ne n1, e1]
      refine ⟨by rw [lim_is, List.length_map]; omega, ?_⟩
      have e2' : hup (hup h' a (stD c2 x2 d2)) b1 (.lst (ts.map Tr.d ++ [t.d])) b2 = some (.lst (ts.map dI)) := by rw [hup_ne nb, hup_ne n2]; exact e2
      try simp only [wSs_nil, wSs_cons, wAnd_one, wAnd_cons, wOr_one, wOr_cons, Tgs.len, eq_self, if_true, if_false, rsvN, rsvB, rsvI, rsvS, rsvT, rsvLs, rsvSc, rsvE, rsvH, isNonN, isNonB, isNonI, isNonS, isNonT, isNonL, isNonO, lenS, lenL, lenT, lenSc, seqL, seqT, kdN, kdB, kdI, kdS, kdT, kdL, Kd.isOf, br_t, br_f, itOk, VS.cellOf, wipeE, List.map_cons, List.map_nil, List.replicate_zero, List.replicate_succ, List.cons_append, List.nil_append, Nat.sub_self, Nat.reduceSub, Nat.reduceAdd, List.getElem?_cons_zero, List.getElem?_cons_succ, List.set_cons_zero, List.set_cons_succ, List.length_cons, List.length_nil, Option.some.injEq, exists_eq_left', exists_eq_left, exists_eq', exists_eq, D.int.injEq, D.bl.injEq, D.str.injEq, D.tup.injEq, D.lst.injEq, D.loc.injEq, List.cons.injEq, and_true, true_and, hup_same, ↓reduceIte, Nat.reduceLT, Nat.reduceEqDiff, reduceCtorEq, hup_hup, exists_and_left, Cell.lst.injEq, Nat.reduceLeDiff, Nat.zero_add, Bool.false_eq_true, ixN_ofNat, atI_ofNat, plnN, plnB, plnI, plnS, plnT, plnL, plns0, plnsC, depN, depB, depI, depS, depT, depL, deps0, depsC, eqbI, eqbS, eqbT, eqbL, eqbB, eqbs0, eqbsC, Nat.zero_le, br_not, Nat.max_zero, Nat.zero_max, Nat.max_self, Bool.and_true, Bool.true_and, Bool.not_true, Bool.not_false, beq_self_eq_true, wEq, wInL, wE_var, wE_cst, wE_glob, wE_bop, wE_neg, wE_not, wE_cmp, wE_chn, wE_andv, wE_orv, wE_ite, wE_tup, wE_lst, wE_ix, wE_slc, wE_rev, wE_call, wE_bi, wE_lrng1, wE_lrng2, wE_isi, wE_isx, wE_fld, wE_mt, wE_comp, wE_frz, wE_dnew, wEs_nil, wEs_cons, wO_none, wO_some, wC_val, wC_cmp, wC_chn, wC_not, wC_and, wC_or, wAndC_nil, wAndC_cons, wOrC_nil, wOrC_cons, wI_seq, wI_sgn, wI_rng1, wI_rng2, wI_enm, wI_zip2, wI_zip3, wS_asg, wS_par, wS_asgIx, wS_aug, wS_ex, wS_ret, wS_ret0, wS_ife, wS_whl, wS_fr, wS_rs, wS_never, wAdd_d, wMul_d, addKI, addKS, addKL, addKT, mulKI, mulKL, wSubI, wFdivI, wModI, wPowI, mkLt, mkLf, asgT_nm, asgT_tp, asgTs_nil, asgTs_cons, put_fn, put_glob, put_kc, frzKL, wCeq, wCne, wClt, wCle, wCleS, wCgt, wCge, wCis, wCisn, wCin, wCnin, wIn_d, inKS, inKL, inKTI, inKTS, inKD, wIx_d, ixKL, ixKT, ixKSc, ixKS, ixKD, wSlc_d, slcKL, slcKT, slcKS, wSet_h, wBIlen, wBIabs, wBIintI, wBIintB, wBIintS, wBIstrI, wBIstrS, wBIlist, wBItuple, wBIall, wBIany, wBImax1, wBImin1, wBIsum, wBIsorted, wBImin2, wBImax2, wMTappend, wMTpop, wMTclear, wMTjoin, wMTsplit, isRcvA, isRcvP, isRcvC, isRcvJ, isRcvSp, ex_lst, ex_lst0, b_law_tree_2a_2b_1, rsvL e2', e2']
      refine ⟨by rw [lim_is, List.length_map]; omega, ?_⟩
      refine hN _ _ ⟨ts ++ [t], b1, b2, _, _, _, rfl, nb, fun _ => by simp, ?_, ?_, hxs', hsub_hupN (hsub_hupN (hsub_hupN hs (hsub_none hs ha)) hb1) hb2, hb1, hb2, ?_, ?_⟩
      · intro u hu
        rcases List.mem_append.mp hu with hu | hu
        · exact hg u hu
        · have : u = t := by simpa using hu
          subst this
          exact ⟨tok, by omega⟩
      · rw [lvs_app]; simp [lvs, tlv] at *; omega
      · rw [hup_ne (Ne.symm nb), hup_same]; simp
      · rw [hup_same]; simp [dI, tdep]
    refine br_both hB fun _ => ⟨hl1, br_both hB fun hlt => ?_⟩
    · have hlt : (1 : Int) < ts.length := of_decide_eq_true hlt
      obtain ⟨us, l, r, rfl⟩ := last2 (xs := ts) (by omega)
      have gl := hg l (by simp)
      have gr := hg r (by simp)
      have gu : good us := fun t ht => hg t (by simp [ht])
      rw [List.map_append] at e1 e2
      have e1 : h' b1 = some (.lst (us.map Tr.d ++ [l.d, r.d])) := e1
      have e2 : h' b2 = some (.lst (us.map dI ++ [dI l, dI r])) := e2
      have hlv2 : lvs us + (l.lv + r.lv) + (xs.length + 1) ≤ 63 := by rw [lvs_app] at hlv; simpa [lvs] using hlv
      have hlu := lvs_len us
      rw [List.map_append]
      show ∃ x, allInt (VS.cutL (us.map dI ++ [dI l, dI r]) (some (-2)) none) = some x ∧ _
      rw [cl2]
      refine maxcase fun m hm => ?_
      refine br_both hB fun hlt => ?_
      have hlt : (m : Int) < 20 := of_decide_eq_true hlt
      try simp only [wSs_nil, wSs_cons, wAnd_one, wAnd_cons, wOr_one, wOr_cons, Tgs.len, eq_self, if_true, if_false, rsvN, rsvB, rsvI, rsvS, rsvT, rsvLs, rsvSc, rsvE, rsvH, isNonN, isNonB, isNonI, isNonS, isNonT, isNonL, isNonO, lenS, lenL, lenT, lenSc, seqL, seqT, kdN, kdB, kdI, kdS, kdT, kdL, Kd.isOf, br_t, br_f, itOk, VS.cellOf, wipeE, List.map_cons, List.map_nil, List.replicate_zero, List.replicate_succ, List.cons_append, List.nil_append, Nat.sub_self, Nat.reduceSub, Nat.reduceAdd, List.getElem?_cons_zero, List.getElem?_cons_succ, List.set_cons_zero, List.set_cons_succ, List.length_cons, List.length_nil, Option.some.injEq, exists_eq_left', exists_eq_left, exists_eq', exists_eq, D.int.injEq, D.bl.injEq, D.str.injEq, D.tup.injEq, D.lst.injEq, D.loc.injEq, List.cons.injEq, and_true, true_and, hup_same, ↓reduceIte, Nat.reduceLT, Nat.reduceEqDiff, reduceCtorEq, hup_hup, exists_and_left, Cell.lst.injEq, Nat.reduceLeDiff, Nat.zero_add, Bool.false_eq_true, ixN_ofNat, atI_ofNat, plnN, plnB, plnI, plnS, plnT, plnL, plns0, plnsC, depN, depB, depI, depS, depT, depL, deps0, depsC, eqbI, eqbS, eqbT, eqbL, eqbB, eqbs0, eqbsC, Nat.zero_le, br_not, Nat.max_zero, Nat.zero_max, Nat.max_self, Bool.and_true, Bool.true_and, Bool.not_true, Bool.not_false, beq_self_eq_true, wEq, wInL, wE_var, wE_cst, wE_glob, wE_bop, wE_neg, wE_not, wE_cmp, wE_chn, wE_andv, wE_orv, wE_ite, wE_tup, wE_lst, wE_ix, wE_slc, wE_rev, wE_call, wE_bi, wE_lrng1, wE_lrng2, wE_isi, wE_isx, wE_fld, wE_mt, wE_comp, wE_frz, wE_dnew, wEs_nil, wEs_cons, wO_none, wO_some, wC_val, wC_cmp, wC_chn, wC_not, wC_and, wC_or, wAndC_nil, wAndC_cons, wOrC_nil, wOrC_cons, wI_seq, wI_sgn, wI_rng1, wI_rng2, wI_enm, wI_zip2, wI_zip3, wS_asg, wS_par, wS_asgIx, wS_aug, wS_ex, wS_ret, wS_ret0, wS_ife, wS_whl, wS_fr, wS_rs, wS_never, wAdd_d, wMul_d, addKI, addKS, addKL, addKT, mulKI, mulKL, wSubI, wFdivI, wModI, wPowI, mkLt, mkLf, asgT_nm, asgT_tp, asgTs_nil, asgTs_cons, put_fn, put_glob, put_kc, frzKL, wCeq, wCne, wClt, wCle, wCleS, wCgt, wCge, wCis, wCisn, wCin, wCnin, wIn_d, inKS, inKL, inKTI, inKTS, inKD, wIx_d, ixKL, ixKT, ixKSc, ixKS, ixKD, wSlc_d, slcKL, slcKT, slcKS, wSet_h, wBIlen, wBIabs, wBIintI, wBIintB, wBIintS, wBIstrI, wBIstrS, wBIlist, wBItuple, wBIall, wBIany, wBImax1, wBImin1, wBIsum, wBIsorted, wBImin2, wBImax2, wMTappend, wMTpop, wMTclear, wMTjoin, wMTsplit, isRcvA, isRcvP, isRcvC, isRcvJ, isRcvSp, ex_lst, ex_lst0, b_law_tree_2a_2a_0, rsvHN n1, rsvL e1, cf2, t9]
      refine ⟨a, 20, c1, x1, d1, div3 (by omega) (by omega), hup_same, hx1, rfl, fun d2 c2 x2 b2' h02 h12 hx2 => ?_⟩
      try simp only [wSs_nil, wSs_cons, wAnd_one, wAnd_cons, wOr_one, wOr_cons, Tgs.len, eq_self, if_true, if_false, rsvN, rsvB, rsvI, rsvS, rsvT, rsvLs, rsvSc, rsvE, rsvH, isNonN, isNonB, isNonI, isNonS, isNonT, isNonL, isNonO, lenS, lenL, lenT, lenSc, seqL, seqT, kdN, kdB, kdI, kdS, kdT, kdL, Kd.isOf, br_t, br_f, itOk, VS.cellOf, wipeE, List.map_cons, List.map_nil, List.replicate_zero, List.replicate_succ, List.cons_append, List.nil_append, Nat.sub_self, Nat.reduceSub, Nat.reduceAdd, List.getElem?_cons_zero, List.getElem?_cons_succ, List.set_cons_zero, List.set_cons_succ, List.length_cons, List.length_nil, Option.some.injEq, exists_eq_left', exists_eq_left, exists_eq', exists_eq, D.int.injEq, D.bl.injEq, D.str.injEq, D.tup.injEq, D.lst.injEq, D.loc.injEq, List.cons.injEq, and_true, true_and, hup_same, ↓reduceIte, Nat.reduceLT, Nat.reduceEqDiff, reduceCtorEq, hup_hup, exists_and_left, Cell.lst.injEq, Nat.reduceLeDiff, Nat.zero_add, Bool.false_eq_true, ixN_ofNat, atI_ofNat, plnN, plnB, plnI, plnS, plnT, plnL, plns0, plnsC, depN, depB, depI, depS, depT, depL, deps0, depsC, eqbI, eqbS, eqbT, eqbL, eqbB, eqbs0, eqbsC, Nat.zero_le, br_not, Nat.max_zero, Nat.zero_max, Nat.max_self, Bool.and_true, Bool.true_and, Bool.not_true, Bool.not_false, beq_self_eq_true, wEq, wInL, wE_var, wE_cst, wE_glob, wE_bop, wE_neg, wE_not, wE_cmp, wE_chn, wE_andv, wE_orv, wE_ite, wE_tup, wE_lst, wE_ix, wE_slc, wE_rev, wE_call, wE_bi, wE_lrng1, wE_lrng2, wE_isi, wE_isx, wE_fld, wE_mt, wE_comp, wE_frz, wE_dnew, wEs_nil, wEs_cons, wO_none, wO_some, wC_val, wC_cmp, wC_chn, wC_not, wC_and, wC_or, wAndC_nil, wAndC_cons, wOrC_nil, wOrC_cons, wI_seq, wI_sgn, wI_rng1, wI_rng2, wI_enm, wI_zip2, wI_zip3, wS_asg, wS_par, wS_asgIx, wS_aug, wS_ex, wS_ret, wS_ret0, wS_ife, wS_whl, wS_fr, wS_rs, wS_never, wAdd_d, wMul_d, addKI, addKS, addKL, addKT, mulKI, mulKL, wSubI, wFdivI, wModI, wPowI, mkLt, mkLf, asgT_nm, asgT_tp, asgTs_nil, asgTs_cons, put_fn, put_glob, put_kc, frzKL, wCeq, wCne, wClt, wCle, wCleS, wCgt, wCge, wCis, wCisn, wCin, wCnin, wIn_d, inKS, inKL, inKTI, inKTS, inKD, wIx_d, ixKL, ixKT, ixKSc, ixKS, ixKD, wSlc_d, slcKL, slcKT, slcKS, wSet_h, wBIlen, wBIabs, wBIintI, wBIintB, wBIintS, wBIstrI, wBIstrS, wBIlist, wBItuple, wBIall, wBIany, wBImax1, wBImin1, wBIsum, wBIsorted, wBImin2, wBImax2, wMTappend, wMTpop, wMTclear, wMTjoin, wMTsplit, isRcvA, isRcvP, isRcvC, isRcvJ, isRcvSp, ex_lst, ex_lst0, rsvHN n1, rsvL e1, atI_neg1, atI_neg2, atI_neg21]
      refine ⟨by decide, by decide, by rw [lim_is, List.length_map]; omega, fun b1' hb1' => ?_⟩
      have nb1 := ne_of_hup hb1'
      have hb1'' := none_of_hup hb1'
      have nb2 : b2 ≠ b1' := hsub_ne e2 hb1''
      try simp only [wSs_nil, wSs_cons, wAnd_one, wAnd_cons, wOr_one, wOr_cons, Tgs.len, eq_self, if_true, if_false, rsvN, rsvB, rsvI, rsvS, rsvT, rsvLs, rsvSc, rsvE, rsvH, isNonN, isNonB, isNonI, isNonS, isNonT, isNonL, isNonO, lenS, lenL, lenT, lenSc, seqL, seqT, kdN, kdB, kdI, kdS, kdT, kdL, Kd.isOf, br_t, br_f, itOk, VS.cellOf, wipeE, List.map_cons, List.map_nil, List.replicate_zero, List.replicate_succ, List.cons_append, List.nil_append, Nat.sub_self, Nat.reduceSub, Nat.reduceAdd, List.getElem?_cons_zero, List.getElem?_cons_succ, List.set_cons_zero, List.set_cons_succ, List.length_cons, List.length_nil, Option.some.injEq, exists_eq_left', exists_eq_left, exists_eq', exists_eq, D.int.injEq, D.bl.injEq, D.str.injEq, D.tup.injEq, D.lst.injEq, D.loc.injEq, List.cons.injEq, and_true, true_and, hup_same, ↓reduceIte, Nat.reduceLT, Nat.reduceEqDiff, reduceCtorEq, hup_hup, exists_and_left, Cell.lst.injEq, Nat.reduceLeDiff, Nat.zero_add, Bool.false_eq_true, ixN_ofNat, atI_ofNat, plnN, plnB, plnI, plnS, plnT, plnL, plns0, plnsC, depN, depB, depI, depS, depT, depL, deps0, depsC, eqbI, eqbS, eqbT, eqbL, eqbB, eqbs0, eqbsC, Nat.zero_le, br_not, Nat.max_zero, Nat.zero_max, Nat.max_self, Bool.and_true, Bool.true_and, Bool.not_true, Bool.not_false, beq_self_eq_true, wEq, wInL, wE_var, wE_cst, wE_glob, wE_bop, wE_neg, wE_not, wE_cmp, wE_chn, wE_andv, wE_orv, wE_ite, wE_tup, wE_lst, wE_ix, wE_slc, wE_rev, wE_call, wE_bi, wE_lrng1, wE_lrng2, wE_isi, wE_isx, wE_fld, wE_mt, wE_comp, wE_frz, wE_dnew, wEs_nil, wEs_cons, wO_none, wO_some, wC_val, wC_cmp, wC_chn, wC_not, wC_and, wC_or, wAndC_nil, wAndC_cons, wOrC_nil, wOrC_cons, wI_seq, wI_sgn, wI_rng1, wI_rng2, wI_enm, wI_zip2, wI_zip3, wS_asg, wS_par, wS_asgIx, wS_aug, wS_ex, wS_ret, wS_ret0, wS_ife, wS_whl, wS_fr, wS_rs, wS_never, wAdd_d, wMul_d, addKI, addKS, addKL, addKT, mulKI, mulKL, wSubI, wFdivI, wModI, wPowI, mkLt, mkLf, asgT_nm, asgT_tp, asgTs_nil, asgTs_cons, put_fn, put_glob, put_kc, frzKL, wCeq, wCne, wClt, wCle, wCleS, wCgt, wCge, wCis, wCisn, wCin, wCnin, wIn_d, inKS, inKL, inKTI, inKTS, inKD, wIx_d, ixKL, ixKT, ixKSc, ixKS, ixKD, wSlc_d, slcKL, slcKT, slcKS, wSet_h, wBIlen, wBIabs, wBIintI, wBIintB, wBIintS, wBIstrI, wBIstrS, wBIlist, wBItuple, wBIall, wBIany, wBImax1, wBImin1, wBIsum, wBIsorted, wBImin2, wBImax2, wMTappend, wMTpop, wMTclear, wMTjoin, wMTsplit, isRcvA, isRcvP, isRcvC, isRcvJ, isRcvSp, ex_lst, ex_lst0, b_law_tree_2a_2a_1, rsvHN nb2, rsvHN n2, rsvL e2, cl2, cf2, ex_lst]
      refine maxcase fun m' hm' => ?_
      try simp only [wSs_nil, wSs_cons, wAnd_one, wAnd_cons, wOr_one, wOr_cons, Tgs.len, eq_self, if_true, if_false, rsvN, rsvB, rsvI, rsvS, rsvT, rsvLs, rsvSc, rsvE, rsvH, isNonN, isNonB, isNonI, isNonS, isNonT, isNonL, isNonO, lenS, lenL, lenT, lenSc, seqL, seqT, kdN, kdB, kdI, kdS, kdT, kdL, Kd.isOf, br_t, br_f, itOk, VS.cellOf, wipeE, List.map_cons, List.map_nil, List.replicate_zero, List.replicate_succ, List.cons_append, List.nil_append, Nat.sub_self, Nat.reduceSub, Nat.reduceAdd, List.getElem?_cons_zero, List.getElem?_cons_succ, List.set_cons_zero, List.set_cons_succ, List.length_cons, List.length_nil, Option.some.injEq, exists_eq_left', exists_eq_left, exists_eq', exists_eq, D.int.injEq, D.bl.injEq, D.str.injEq, D.tup.injEq, D.lst.injEq, D.loc.injEq, List.cons.injEq, and_true, true_and, hup_same, ↓reduceIte, Nat.reduceLT, Nat.reduceEqDiff, reduceCtorEq, hup_hup, exists_and_left, Cell.lst.injEq, Nat.reduceLeDiff, Nat.zero_add, Bool.false_eq_true, ixN_ofNat, atI_ofNat, plnN, plnB, plnI, plnS, plnT, plnL, plns0, plnsC, depN, depB, depI, depS, depT, depL, deps0, depsC, eqbI, eqbS, eqbT, eqbL, eqbB, eqbs0, eqbsC, Nat.zero_le, br_not, Nat.max_zero, Nat.zero_max, Nat.max_self, Bool.and_true, Bool.true_and, Bool.not_true, Bool.not_false, beq_self_eq_true, wEq, wInL, wE_var, wE_cst, wE_glob, wE_bop, wE_neg, wE_not, wE_cmp, wE_chn, wE_andv, wE_orv, wE_ite, wE_tup, wE_lst, wE_ix, wE_slc, wE_rev, wE_call, wE_bi, wE_lrng1, wE_lrng2, wE_isi, wE_isx, wE_fld, wE_mt, wE_comp, wE_frz, wE_dnew, wEs_nil, wEs_cons, wO_none, wO_some, wC_val, wC_cmp, wC_chn, wC_not, wC_and, wC_or, wAndC_nil, wAndC_cons, wOrC_nil, wOrC_cons, wI_seq, wI_sgn, wI_rng1, wI_rng2, wI_enm, wI_zip2, wI_zip3, wS_asg, wS_par, wS_asgIx, wS_aug, wS_ex, wS_ret, wS_ret0, wS_ife, wS_whl, wS_fr, wS_rs, wS_never, wAdd_d, wMul_d, addKI, addKS, addKL, addKT, mulKI, mulKL, wSubI, wFdivI, wModI, wPowI, mkLt, mkLf, asgT_nm, asgT_tp, asgTs_nil, asgTs_cons, put_fn, put_glob, put_kc, frzKL, wCeq, wCne, wClt, wCle, wCleS, wCgt, wCge, wCis, wCisn, wCin, wCnin, wIn_d, inKS, inKL, inKTI, inKTS, inKD, wIx_d, ixKL, ixKT, ixKSc, ixKS, ixKD, wSlc_d, slcKL, slcKT, slcKS, wSet_h, wBIlen, wBIabs, wBIintI, wBIintB, wBIintS, wBIstrI, wBIstrS, wBIlist, wBItuple, wBIall, wBIany, wBImax1, wBImin1, wBIsum, wBIsorted, wBImin2, wBImax2, wMTappend, wMTpop, wMTclear, wMTjoin, wMTsplit, isRcvA, isRcvP, isRcvC, isRcvJ, isRcvSp, ex_lst, ex_lst0]
      refine ⟨by decide, by rw [lim_is, List.length_map]; omega, fun b2' hb2' => ?_⟩
      have nb3 := ne_of_hup hb2'
      have hb2'' := none_of_hup hb2'
      have hb2''' := none_of_hup hb2''
      refine hN _ _ ⟨us ++ [.split d2.toNat l r], b1', b2', _, _, _, rfl, nb3, fun _ => by simp, ?_, ?_, hxs', hsub_hupN (hsub_hupN (hsub_hupN hs (hsub_none hs ha)) (hsub_none hs hb1'')) (hsub_none hs hb2'''), hsub_none hs hb1'', hsub_none hs hb2''', ?_, ?_⟩
      · intro t ht
        rcases List.mem_append.mp ht with ht | ht
        · exact gu t ht
        · have : t = .split d2.toNat l r := by simpa using ht
          subst this
          refine ⟨⟨by omega, gl.1, gr.1⟩, ?_⟩
          show max l.dep r.dep + 1 ≤ 20
          omega
      · rw [lvs_app]; simp [lvs, Tr.lv] at *; omega
      · rw [hup_ne (Ne.symm nb3), hup_same, List.map_append]
        have em : ((d2.toNat : Nat) : Int) = d2 := by omega
        simp [Tr.d, em, sSplit]
      · rw [hup_same, List.map_append]
        have em : (1 + (m' : Int)) = ((max l.dep r.dep + 1 : Nat) : Int) := by omega
        rw [em]
        rfl
  · rintro r h' ⟨ts, b1, b2, o4, o5, o6, rfl, nb, hne', hg, hlv, hxs, hs, hb1, hb2, e1, e2⟩
    refine ⟨trivial, ?_⟩
    exact fin _ _ _ _ _ _ _ hb1 hb2 (hne' rfl) hg (by simpa using hlv) hs e1 e2
  · intro e
    have := congrArg List.length e
    rw [rngL_length] at this
    simp at this; omega
  · rw [rngL_length]; simp [lvs]; omega
  · intro x hx
    obtain ⟨i, hi, rfl⟩ := List.mem_map.mp hx
    have := List.mem_range.mp hi
    exact ⟨i, by simp, by omega⟩
  · rw [hup_ne (Ne.symm hne), hup_same]; rfl
end K78

set_option Elab.async false
set_option linter.all false
set_option maxRecDepth 100000
set_option maxHeartbeats 4000000
namespace K78
open PySem PySem.Spec PyProof.Rows L2 VS
def sp_written (n : Nat) : VSp := fun ds h Q _ => ∃ t : Tr, t.ok ∧ t.dep < n ∧ t.txt.length ≤ 10000 ∧ ds = [t.d] ∧ Q (.str t.txt) h
theorem l_written (n : Nat) (T : Tab) : ∀ ds h Q X, sp_written (n + 1) ds h Q X → wSs (T.put 12 (sp_written n)) d_law_written.body (ds.map some ++ List.replicate (d_law_written.N.length - ds.length) none) h ⟨fun _ h1 => Q .non h1, Q, fun c fs _ h1 => X c fs h1⟩ := by
  rintro ds h Q X ⟨t, ok, hn, hl, rfl, q⟩
  show wSs _ b_law_written_0 [some t.d, none] h _
  have hlim : lim = 16777216 := rfl
  cases t with
  | turned =>
    try simp only [wSs_nil, wSs_cons, wAnd_one, wAnd_cons, wOr_one, wOr_cons, Tgs.len, eq_self, if_true, if_false, rsvN, rsvB, rsvI, rsvS, rsvT, rsvLs, rsvSc, rsvE, rsvH, isNonN, isNonB, isNonI, isNonS, isNonT, isNonL, isNonO, lenS, lenL, lenT, lenSc, seqL, seqT, kdN, kdB, kdI, kdS, kdT, kdL, Kd.isOf, br_t, br_f, itOk, VS.cellOf, wipeE, List.map_cons, List.map_nil, List.replicate_zero, List.replicate_succ, List.cons_append, List.nil_append, Nat.sub_self, Nat.reduceSub, Nat.reduceAdd, List.getElem?_cons_zero, List.getElem?_cons_succ, List.set_cons_zero, List.set_cons_succ, List.length_cons, List.length_nil, Option.some.injEq, exists_eq_left', exists_eq_left, exists_eq', exists_eq, D.int.injEq, D.bl.injEq, D.str.injEq, D.tup.injEq, D.lst.injEq, D.loc.injEq, List.cons.injEq, and_true, true_and, hup_same, ↓reduceIte, Nat.reduceLT, Nat.reduceEqDiff, reduceCtorEq, hup_hup, exists_and_left, Cell.lst.injEq, Nat.reduceLeDiff, Nat.zero_add, Bool.false_eq_true, ixN_ofNat, atI_ofNat, plnN, plnB, plnI, plnS, plnT, plnL, plns0, plnsC, depN, depB, depI, depS, depT, depL, deps0, depsC, eqbI, eqbS, eqbT, eqbL, eqbB, eqbs0, eqbsC, Nat.zero_le, br_not, Nat.max_zero, Nat.zero_max, Nat.max_self, Bool.and_true, Bool.true_and, Bool.not_true, Bool.not_false, beq_self_eq_true, wEq, wInL, wE_var, wE_cst, wE_glob, wE_bop, wE_neg, wE_not, wE_cmp, wE_chn, wE_andv, wE_orv, wE_ite, wE_tup, wE_lst, wE_ix, wE_slc, wE_rev, wE_call, wE_bi, wE_lrng1, wE_lrng2, wE_isi, wE_isx, wE_fld, wE_mt, wE_comp, wE_frz, wE_dnew, wEs_nil, wEs_cons, wO_none, wO_some, wC_val, wC_cmp, wC_chn, wC_not, wC_and, wC_or, wAndC_nil, wAndC_cons, wOrC_nil, wOrC_cons, wI_seq, wI_sgn, wI_rng1, wI_rng2, wI_enm, wI_zip2, wI_zip3, wS_asg, wS_par, wS_asgIx, wS_aug, wS_ex, wS_ret, wS_ret0, wS_ife, wS_whl, wS_fr, wS_rs, wS_never, wAdd_d, wMul_d, addKI, addKS, addKL, addKT, mulKI, mulKL, wSubI, wFdivI, wModI, wPowI, mkLt, mkLf, asgT_nm, asgT_tp, asgTs_nil, asgTs_cons, put_fn, put_glob, put_kc, frzKL, wCeq, wCne, wClt, wCle, wCleS, wCgt, wCge, wCis, wCisn, wCin, wCnin, wIn_d, inKS, inKL, inKTI, inKTS, inKD, wIx_d, ixKL, ixKT, ixKSc, ixKS, ixKD, wSlc_d, slcKL, slcKT, slcKS, wSet_h, wBIlen, wBIabs, wBIintI, wBIintB, wBIintS, wBIstrI, wBIstrS, wBIlist, wBItuple, wBIall, wBIany, wBImax1, wBImin1, wBIsum, wBIsorted, wBImin2, wBImax2, wMTappend, wMTpop, wMTclear, wMTjoin, wMTsplit, isRcvA, isRcvP, isRcvC, isRcvJ, isRcvSp, ex_lst, ex_lst0, b_law_written_0, Tr.d]
    refine br_yes (by decide) ?_
    try simp only [wSs_nil, wSs_cons, wAnd_one, wAnd_cons, wOr_one, wOr_cons, Tgs.len, eq_self, if_true, if_false, rsvN, rsvB, rsvI, rsvS, rsvT, rsvLs, rsvSc, rsvE, rsvH, isNonN, isNonB, isNonI, isNonS, isNonT, isNonL, isNonO, lenS, lenL, lenT, lenSc, seqL, seqT, kdN, kdB, kdI, kdS, kdT, kdL, Kd.isOf, br_t, br_f, itOk, VS.cellOf, wipeE, List.map_cons, List.map_nil, List.replicate_zero, List.replicate_succ, List.cons_append, List.nil_append, Nat.sub_self, Nat.reduceSub, Nat.reduceAdd, List.getElem?_cons_zero, List.getElem?_cons_succ, List.set_cons_zero, List.set_cons_succ, List.length_cons, List.length_nil, Option.some.injEq, exists_eq_left', exists_eq_left, exists_eq', exists_eq, D.int.injEq, D.bl.injEq, D.str.injEq, D.tup.injEq, D.lst.injEq, D.loc.injEq, List.cons.injEq, and_true, true_and, hup_same, ↓reduceIte, Nat.reduceLT, Nat.reduceEqDiff, reduceCtorEq, hup_hup, exists_and_left, Cell.lst.injEq, Nat.reduceLeDiff, Nat.zero_add, Bool.false_eq_true, ixN_ofNat, atI_ofNat, plnN, plnB, plnI, plnS, plnT, plnL, plns0, plnsC, depN, depB, depI, depS, depT, depL, deps0, depsC, eqbI, eqbS, eqbT, eqbL, eqbB, eqbs0, eqbsC, Nat.zero_le, br_not, Nat.max_zero, Nat.zero_max, Nat.max_self, Bool.and_true, Bool.true_and, Bool.not_true, Bool.not_false, beq_self_eq_true, wEq, wInL, wE_var, wE_cst, wE_glob, wE_bop, wE_neg, wE_not, wE_cmp, wE_chn, wE_andv, wE_orv, wE_ite, wE_tup, wE_lst, wE_ix, wE_slc, wE_rev, wE_call, wE_bi, wE_lrng1, wE_lrng2, wE_isi, wE_isx, wE_fld, wE_mt, wE_comp, wE_frz, wE_dnew, wEs_nil, wEs_cons, wO_none, wO_some, wC_val, wC_cmp, wC_chn, wC_not, wC_and, wC_or, wAndC_nil, wAndC_cons, wOrC_nil, wOrC_cons, wI_seq, wI_sgn, wI_rng1, wI_rng2, wI_enm, wI_zip2, wI_zip3, wS_asg, wS_par, wS_asgIx, wS_aug, wS_ex, wS_ret, wS_ret0, wS_ife, wS_whl, wS_fr, wS_rs, wS_never, wAdd_d, wMul_d, addKI, addKS, addKL, addKT, mulKI, mulKL, wSubI, wFdivI, wModI, wPowI, mkLt, mkLf, asgT_nm, asgT_tp, asgTs_nil, asgTs_cons, put_fn, put_glob, put_kc, frzKL, wCeq, wCne, wClt, wCle, wCleS, wCgt, wCge, wCis, wCisn, wCin, wCnin, wIn_d, inKS, inKL, inKTI, inKTS, inKD, wIx_d, ixKL, ixKT, ixKSc, ixKS, ixKD, wSlc_d, slcKL, slcKT, slcKS, wSet_h, wBIlen, wBIabs, wBIintI, wBIintB, wBIintS, wBIstrI, wBIstrS, wBIlist, wBItuple, wBIall, wBIany, wBImax1, wBImin1, wBIsum, wBIsorted, wBImin2, wBImax2, wMTappend, wMTpop, wMTclear, wMTjoin, wMTsplit, isRcvA, isRcvP, isRcvC, isRcvJ, isRcvSp, ex_lst, ex_lst0, b_law_written_0a_0]
    exact ⟨h, hsub_refl _, q⟩
  | cut a b =>
    have ha : a < 20 := by have := ok.1; omega
    have hb : b < 20 := by have := ok.2; omega
    have h1 := num_len ha
    have h2 := num_len hb
    have ea : intD (a : Int) = num a := rfl
    have eb : intD (b : Int) = num b := rfl
    try simp only [wSs_nil, wSs_cons, wAnd_one, wAnd_cons, wOr_one, wOr_cons, Tgs.len, eq_self, if_true, if_false, rsvN, rsvB, rsvI, rsvS, rsvT, rsvLs, rsvSc, rsvE, rsvH, isNonN, isNonB, isNonI, isNonS, isNonT, isNonL, isNonO, lenS, lenL, lenT, lenSc, seqL, seqT, kdN, kdB, kdI, kdS, kdT, kdL, Kd.isOf, br_t, br_f, itOk, VS.cellOf, wipeE, List.map_cons, List.map_nil, List.replicate_zero, List.replicate_succ, List.cons_append, List.nil_append, Nat.sub_self, Nat.reduceSub, Nat.reduceAdd, List.getElem?_cons_zero, List.getElem?_cons_succ, List.set_cons_zero, List.set_cons_succ, List.length_cons, List.length_nil, Option.some.injEq, exists_eq_left', exists_eq_left, exists_eq', exists_eq, D.int.injEq, D.bl.injEq, D.str.injEq, D.tup.injEq, D.lst.injEq, D.loc.injEq, List.cons.injEq, and_true, true_and, hup_same, ↓reduceIte, Nat.reduceLT, Nat.reduceEqDiff, reduceCtorEq, hup_hup, exists_and_left, Cell.lst.injEq, Nat.reduceLeDiff, Nat.zero_add, Bool.false_eq_true, ixN_ofNat, atI_ofNat, plnN, plnB, plnI, plnS, plnT, plnL, plns0, plnsC, depN, depB, depI, depS, depT, depL, deps0, depsC, eqbI, eqbS, eqbT, eqbL, eqbB, eqbs0, eqbsC, Nat.zero_le, br_not, Nat.max_zero, Nat.zero_max, Nat.max_self, Bool.and_true, Bool.true_and, Bool.not_true, Bool.not_false, beq_self_eq_true, wEq, wInL, wE_var, wE_cst, wE_glob, wE_bop, wE_neg, wE_not, wE_cmp, wE_chn, wE_andv, wE_orv, wE_ite, wE_tup, wE_lst, wE_ix, wE_slc, wE_rev, wE_call, wE_bi, wE_lrng1, wE_lrng2, wE_isi, wE_isx, wE_fld, wE_mt, wE_comp, wE_frz, wE_dnew, wEs_nil, wEs_cons, wO_none, wO_some, wC_val, wC_cmp, wC_chn, wC_not, wC_and, wC_or, wAndC_nil, wAndC_cons, wOrC_nil, wOrC_cons, wI_seq, wI_sgn, wI_rng1, wI_rng2, wI_enm, wI_zip2, wI_zip3, wS_asg, wS_par, wS_asgIx, wS_aug, wS_ex, wS_ret, wS_ret0, wS_ife, wS_whl, wS_fr, wS_rs, wS_never, wAdd_d, wMul_d, addKI, addKS, addKL, addKT, mulKI, mulKL, wSubI, wFdivI, wModI, wPowI, mkLt, mkLf, asgT_nm, asgT_tp, asgTs_nil, asgTs_cons, put_fn, put_glob, put_kc, frzKL, wCeq, wCne, wClt, wCle, wCleS, wCgt, wCge, wCis, wCisn, wCin, wCnin, wIn_d, inKS, inKL, inKTI, inKTS, inKD, wIx_d, ixKL, ixKT, ixKSc, ixKS, ixKD, wSlc_d, slcKL, slcKT, slcKS, wSet_h, wBIlen, wBIabs, wBIintI, wBIintB, wBIintS, wBIstrI, wBIstrS, wBIlist, wBItuple, wBIall, wBIany, wBImax1, wBImin1, wBIsum, wBIsorted, wBImin2, wBImax2, wMTappend, wMTpop, wMTclear, wMTjoin, wMTsplit, isRcvA, isRcvP, isRcvC, isRcvJ, isRcvSp, ex_lst, ex_lst0, b_law_written_0, Tr.d]
    refine br_no (by decide) ?_
    try simp only [wSs_nil, wSs_cons, wAnd_one, wAnd_cons, wOr_one, wOr_cons, Tgs.len, eq_self, if_true, if_false, rsvN, rsvB, rsvI, rsvS, rsvT, rsvLs, rsvSc, rsvE, rsvH, isNonN, isNonB, isNonI, isNonS, isNonT, isNonL, isNonO, lenS, lenL, lenT, lenSc, seqL, seqT, kdN, kdB, kdI, kdS, kdT, kdL, Kd.isOf, br_t, br_f, itOk, VS.cellOf, wipeE, List.map_cons, List.map_nil, List.replicate_zero, List.replicate_succ, List.cons_append, List.nil_append, Nat.sub_self, Nat.reduceSub, Nat.reduceAdd, List.getElem?_cons_zero, List.getElem?_cons_succ, List.set_cons_zero, List.set_cons_succ, List.length_cons, List.length_nil, Option.some.injEq, exists_eq_left', exists_eq_left, exists_eq', exists_eq, D.int.injEq, D.bl.injEq, D.str.injEq, D.tup.injEq, D.lst.injEq, D.loc.injEq, List.cons.injEq, and_true, true_and, hup_same, ↓reduceIte, Nat.reduceLT, Nat.reduceEqDiff, reduceCtorEq, hup_hup, exists_and_left, Cell.lst.injEq, Nat.reduceLeDiff, Nat.zero_add, Bool.false_eq_true, ixN_ofNat, atI_ofNat, plnN, plnB, plnI, plnS, plnT, plnL, plns0, plnsC, depN, depB, depI, depS, depT, depL, deps0, depsC, eqbI, eqbS, eqbT, eqbL, eqbB, eqbs0, eqbsC, Nat.zero_le, br_not, Nat.max_zero, Nat.zero_max, Nat.max_self, Bool.and_true, Bool.true_and, Bool.not_true, Bool.not_false, beq_self_eq_true, wEq, wInL, wE_var, wE_cst, wE_glob, wE_bop, wE_neg, wE_not, wE_cmp, wE_chn, wE_andv, wE_orv, wE_ite, wE_tup, wE_lst, wE_ix, wE_slc, wE_rev, wE_call, wE_bi, wE_lrng1, wE_lrng2, wE_isi, wE_isx, wE_fld, wE_mt, wE_comp, wE_frz, wE_dnew, wEs_nil, wEs_cons, wO_none, wO_some, wC_val, wC_cmp, wC_chn, wC_not, wC_and, wC_or, wAndC_nil, wAndC_cons, wOrC_nil, wOrC_cons, wI_seq, wI_sgn, wI_rng1, wI_rng2, wI_enm, wI_zip2, wI_zip3, wS_asg, wS_par, wS_asgIx, wS_aug, wS_ex, wS_ret, wS_ret0, wS_ife, wS_whl, wS_fr, wS_rs, wS_never, wAdd_d, wMul_d, addKI, addKS, addKL, addKT, mulKI, mulKL, wSubI, wFdivI, wModI, wPowI, mkLt, mkLf, asgT_nm, asgT_tp, asgTs_nil, asgTs_cons, put_fn, put_glob, put_kc, frzKL, wCeq, wCne, wClt, wCle, wCleS, wCgt, wCge, wCis, wCisn, wCin, wCnin, wIn_d, inKS, inKL, inKTI, inKTS, inKD, wIx_d, ixKL, ixKT, ixKSc, ixKS, ixKD, wSlc_d, slcKL, slcKT, slcKS, wSet_h, wBIlen, wBIabs, wBIintI, wBIintB, wBIintS, wBIstrI, wBIstrS, wBIlist, wBItuple, wBIall, wBIany, wBImax1, wBImin1, wBIsum, wBIsorted, wBImin2, wBImax2, wMTappend, wMTpop, wMTclear, wMTjoin, wMTsplit, isRcvA, isRcvP, isRcvC, isRcvJ, isRcvSp, ex_lst, ex_lst0, b_law_written_1]
    refine br_yes (by decide) ?_
    try simp only [wSs_nil, wSs_cons, wAnd_one, wAnd_cons, wOr_one, wOr_cons, Tgs.len, eq_self, if_true, if_false, rsvN, rsvB, rsvI, rsvS, rsvT, rsvLs, rsvSc, rsvE, rsvH, isNonN, isNonB, isNonI, isNonS, isNonT, isNonL, isNonO, lenS, lenL, lenT, lenSc, seqL, seqT, kdN, kdB, kdI, kdS, kdT, kdL, Kd.isOf, br_t, br_f, itOk, VS.cellOf, wipeE, List.map_cons, List.map_nil, List.replicate_zero, List.replicate_succ, List.cons_append, List.nil_append, Nat.sub_self, Nat.reduceSub, Nat.reduceAdd, List.getElem?_cons_zero, List.getElem?_cons_succ, List.set_cons_zero, List.set_cons_succ, List.length_cons, List.length_nil, Option.some.injEq, exists_eq_left', exists_eq_left, exists_eq', exists_eq, D.int.injEq, D.bl.injEq, D.str.injEq, D.tup.injEq, D.lst.injEq, D.loc.injEq, List.cons.injEq, and_true, true_and, hup_same, ↓reduceIte, Nat.reduceLT, Nat.reduceEqDiff, reduceCtorEq, hup_hup, exists_and_left, Cell.lst.injEq, Nat.reduceLeDiff, Nat.zero_add, Bool.false_eq_true, ixN_ofNat, atI_ofNat, plnN, plnB, plnI, plnS, plnT, plnL, plns0, plnsC, depN, depB, depI, depS, depT, depL, deps0, depsC, eqbI, eqbS, eqbT, eqbL, eqbB, eqbs0, eqbsC, Nat.zero_le, br_not, Nat.max_zero, Nat.zero_max, Nat.max_self, Bool.and_true, Bool.true_and, Bool.not_true, Bool.not_false, beq_self_eq_true, wEq, wInL, wE_var, wE_cst, wE_glob, wE_bop, wE_neg, wE_not, wE_cmp, wE_chn, wE_andv, wE_orv, wE_ite, wE_tup, wE_lst, wE_ix, wE_slc, wE_rev, wE_call, wE_bi, wE_lrng1, wE_lrng2, wE_isi, wE_isx, wE_fld, wE_mt, wE_comp, wE_frz, wE_dnew, wEs_nil, wEs_cons, wO_none, wO_some, wC_val, wC_cmp, wC_chn, wC_not, wC_and, wC_or, wAndC_nil, wAndC_cons, wOrC_nil, wOrC_cons, wI_seq, wI_sgn, wI_rng1, wI_rng2, wI_enm, wI_zip2, wI_zip3, wS_asg, wS_par, wS_asgIx, wS_aug, wS_ex, wS_ret, wS_ret0, wS_ife, wS_whl, wS_fr, wS_rs, wS_never, wAdd_d, wMul_d, addKI, addKS, addKL, addKT, mulKI, mulKL, wSubI, wFdivI, wModI, wPowI, mkLt, mkLf, asgT_nm, asgT_tp, asgTs_nil, asgTs_cons, put_fn, put_glob, put_kc, frzKL, wCeq, wCne, wClt, wCle, wCleS, wCgt, wCge, wCis, wCisn, wCin, wCnin, wIn_d, inKS, inKL, inKTI, inKTS, inKD, wIx_d, ixKL, ixKT, ixKSc, ixKS, ixKD, wSlc_d, slcKL, slcKT, slcKS, wSet_h, wBIlen, wBIabs, wBIintI, wBIintB, wBIintS, wBIstrI, wBIstrS, wBIlist, wBItuple, wBIall, wBIany, wBImax1, wBImin1, wBIsum, wBIsorted, wBImin2, wBImax2, wMTappend, wMTpop, wMTclear, wMTjoin, wMTsplit, isRcvA, isRcvP, isRcvC, isRcvJ, isRcvSp, ex_lst, ex_lst0, b_law_written_1a_0, wAdd_d, ea, eb]
    refine ⟨small_log ha, by (try simp); omega, by (try simp); omega, small_log hb, by (try simp); omega, h, hsub_refl _, ?_⟩
    simpa [Tr.txt, sCut] using q
  | split k l r =>
    have hl' : l.txt.length + r.txt.length + (num k).length + 12 ≤ 10000 := by
      simp [Tr.txt, sSplit] at hl; omega
    have hd : max l.dep r.dep + 1 < n + 1 := hn
    have ek : intD (k : Int) = num k := rfl
    try simp only [wSs_nil, wSs_cons, wAnd_one, wAnd_cons, wOr_one, wOr_cons, Tgs.len, eq_self, if_true, if_false, rsvN, rsvB, rsvI, rsvS, rsvT, rsvLs, rsvSc, rsvE, rsvH, isNonN, isNonB, isNonI, isNonS, isNonT, isNonL, isNonO, lenS, lenL, lenT, lenSc, seqL, seqT, kdN, kdB, kdI, kdS, kdT, kdL, Kd.isOf, br_t, br_f, itOk, VS.cellOf, wipeE, List.map_cons, List.map_nil, List.replicate_zero, List.replicate_succ, List.cons_append, List.nil_append, Nat.sub_self, Nat.reduceSub, Nat.reduceAdd, List.getElem?_cons_zero, List.getElem?_cons_succ, List.set_cons_zero, List.set_cons_succ, List.length_cons, List.length_nil, Option.some.injEq, exists_eq_left', exists_eq_left, exists_eq', exists_eq, D.int.injEq, D.bl.injEq, D.str.injEq, D.tup.injEq, D.lst.injEq, D.loc.injEq, List.cons.injEq, and_true, true_and, hup_same, ↓reduceIte, Nat.reduceLT, Nat.reduceEqDiff, reduceCtorEq, hup_hup, exists_and_left, Cell.lst.injEq, Nat.reduceLeDiff, Nat.zero_add, Bool.false_eq_true, ixN_ofNat, atI_ofNat, plnN, plnB, plnI, plnS, plnT, plnL, plns0, plnsC, depN, depB, depI, depS, depT, depL, deps0, depsC, eqbI, eqbS, eqbT, eqbL, eqbB, eqbs0, eqbsC, Nat.zero_le, br_not, Nat.max_zero, Nat.zero_max, Nat.max_self, Bool.and_true, Bool.true_and, Bool.not_true, Bool.not_false, beq_self_eq_true, wEq, wInL, wE_var, wE_cst, wE_glob, wE_bop, wE_neg, wE_not, wE_cmp, wE_chn, wE_andv, wE_orv, wE_ite, wE_tup, wE_lst, wE_ix, wE_slc, wE_rev, wE_call, wE_bi, wE_lrng1, wE_lrng2, wE_isi, wE_isx, wE_fld, wE_mt, wE_comp, wE_frz, wE_dnew, wEs_nil, wEs_cons, wO_none, wO_some, wC_val, wC_cmp, wC_chn, wC_not, wC_and, wC_or, wAndC_nil, wAndC_cons, wOrC_nil, wOrC_cons, wI_seq, wI_sgn, wI_rng1, wI_rng2, wI_enm, wI_zip2, wI_zip3, wS_asg, wS_par, wS_asgIx, wS_aug, wS_ex, wS_ret, wS_ret0, wS_ife, wS_whl, wS_fr, wS_rs, wS_never, wAdd_d, wMul_d, addKI, addKS, addKL, addKT, mulKI, mulKL, wSubI, wFdivI, wModI, wPowI, mkLt, mkLf, asgT_nm, asgT_tp, asgTs_nil, asgTs_cons, put_fn, put_glob, put_kc, frzKL, wCeq, wCne, wClt, wCle, wCleS, wCgt, wCge, wCis, wCisn, wCin, wCnin, wIn_d, inKS, inKL, inKTI, inKTS, inKD, wIx_d, ixKL, ixKT, ixKSc, ixKS, ixKD, wSlc_d, slcKL, slcKT, slcKS, wSet_h, wBIlen, wBIabs, wBIintI, wBIintB, wBIintS, wBIstrI, wBIstrS, wBIlist, wBItuple, wBIall, wBIany, wBImax1, wBImin1, wBIsum, wBIsorted, wBImin2, wBImax2, wMTappend, wMTpop, wMTclear, wMTjoin, wMTsplit, isRcvA, isRcvP, isRcvC, isRcvJ, isRcvSp, ex_lst, ex_lst0, b_law_written_0, Tr.d]
    refine br_no (by decide) ?_
    try simp only [wSs_nil, wSs_cons, wAnd_one, wAnd_cons, wOr_one, wOr_cons, Tgs.len, eq_self, if_true, if_false, rsvN, rsvB, rsvI, rsvS, rsvT, rsvLs, rsvSc, rsvE, rsvH, isNonN, isNonB, isNonI, isNonS, isNonT, isNonL, isNonO, lenS, lenL, lenT, lenSc, seqL, seqT, kdN, kdB, kdI, kdS, kdT, kdL, Kd.isOf, br_t, br_f, itOk, VS.cellOf, wipeE, List.map_cons, List.map_nil, List.replicate_zero, List.replicate_succ, List.cons_append, List.nil_append, Nat.sub_self, Nat.reduceSub, Nat.reduceAdd, List.getElem?_cons_zero, List.getElem?_cons_succ, List.set_cons_zero, List.set_cons_succ, List.length_cons, List.length_nil, Option.some.injEq, exists_eq_left', exists_eq_left, exists_eq', exists_eq, D.int.injEq, D.bl.injEq, D.str.injEq, D.tup.injEq, D.lst.injEq, D.loc.injEq, List.cons.injEq, and_true, true_and, hup_same, ↓reduceIte, Nat.reduceLT, Nat.reduceEqDiff, reduceCtorEq, hup_hup, exists_and_left, Cell.lst.injEq, Nat.reduceLeDiff, Nat.zero_add, Bool.false_eq_true, ixN_ofNat, atI_ofNat, plnN, plnB, plnI, plnS, plnT, plnL, plns0, plnsC, depN, depB, depI, depS, depT, depL, deps0, depsC, eqbI, eqbS, eqbT, eqbL, eqbB, eqbs0, eqbsC, Nat.zero_le, br_not, Nat.max_zero, Nat.zero_max, Nat.max_self, Bool.and_true, Bool.true_and, Bool.not_true, Bool.not_false, beq_self_eq_true, wEq, wInL, wE_var, wE_cst, wE_glob, wE_bop, wE_neg, wE_not, wE_cmp, wE_chn, wE_andv, wE_orv, wE_ite, wE_tup, wE_lst, wE_ix, wE_slc, wE_rev, wE_call, wE_bi, wE_lrng1, wE_lrng2, wE_isi, wE_isx, wE_fld, wE_mt, wE_comp, wE_frz, wE_dnew, wEs_nil, wEs_cons, wO_none, wO_some, wC_val, wC_cmp, wC_chn, wC_not, wC_and, wC_or, wAndC_nil, wAndC_cons, wOrC_nil, wOrC_cons, wI_seq, wI_sgn, wI_rng1, wI_rng2, wI_enm, wI_zip2, wI_zip3, wS_asg, wS_par, wS_asgIx, wS_aug, wS_ex, wS_ret, wS_ret0, wS_ife, wS_whl, wS_fr, wS_rs, wS_never, wAdd_d, wMul_d, addKI, addKS, addKL, addKT, mulKI, mulKL, wSubI, wFdivI, wModI, wPowI, mkLt, mkLf, asgT_nm, asgT_tp, asgTs_nil, asgTs_cons, put_fn, put_glob, put_kc, frzKL, wCeq, wCne, wClt, wCle, wCleS, wCgt, wCge, wCis, wCisn, wCin, wCnin, wIn_d, inKS, inKL, inKTI, inKTS, inKD, wIx_d, ixKL, ixKT, ixKSc, ixKS, ixKD, wSlc_d, slcKL, slcKT, slcKS, wSet_h, wBIlen, wBIabs, wBIintI, wBIintB, wBIintS, wBIstrI, wBIstrS, wBIlist, wBItuple, wBIall, wBIany, wBImax1, wBImin1, wBIsum, wBIsorted, wBImin2, wBImax2, wMTappend, wMTpop, wMTclear, wMTjoin, wMTsplit, isRcvA, isRcvP, isRcvC, isRcvJ, isRcvSp, ex_lst, ex_lst0, b_law_written_1]
    refine br_no (by decide) ?_
    try simp only [wSs_nil, wSs_cons, wAnd_one, wAnd_cons, wOr_one, wOr_cons, Tgs.len, eq_self, if_true, if_false, rsvN, rsvB, rsvI, rsvS, rsvT, rsvLs, rsvSc, rsvE, rsvH, isNonN, isNonB, isNonI, isNonS, isNonT, isNonL, isNonO, lenS, lenL, lenT, lenSc, seqL, seqT, kdN, kdB, kdI, kdS, kdT, kdL, Kd.isOf, br_t, br_f, itOk, VS.cellOf, wipeE, List.map_cons, List.map_nil, List.replicate_zero, List.replicate_succ, List.cons_append, List.nil_append, Nat.sub_self, Nat.reduceSub, Nat.reduceAdd, List.getElem?_cons_zero, List.getElem?_cons_succ, List.set_cons_zero, List.set_cons_succ, List.length_cons, List.length_nil, Option.some.injEq, exists_eq_left', exists_eq_left, exists_eq', exists_eq, D.int.injEq, D.bl.injEq, D.str.injEq, D.tup.injEq, D.lst.injEq, D.loc.injEq, List.cons.injEq, and_true, true_and, hup_same, ↓reduceIte, Nat.reduceLT, Nat.reduceEqDiff, reduceCtorEq, hup_hup, exists_and_left, Cell.lst.injEq, Nat.reduceLeDiff, Nat.zero_add, Bool.false_eq_true, ixN_ofNat, atI_ofNat, plnN, plnB, plnI, plnS, plnT, plnL, plns0, plnsC, depN, depB, depI, depS, depT, depL, deps0, depsC, eqbI, eqbS, eqbT, eqbL, eqbB, eqbs0, eqbsC, Nat.zero_le, br_not, Nat.max_zero, Nat.zero_max, Nat.max_self, Bool.and_true, Bool.true_and, Bool.not_true, Bool.not_false, beq_self_eq_true, wEq, wInL, wE_var, wE_cst, wE_glob, wE_bop, wE_neg, wE_not, wE_cmp, wE_chn, wE_andv, wE_orv, wE_ite, wE_tup, wE_lst, wE_ix, wE_slc, wE_rev, wE_call, wE_bi, wE_lrng1, wE_lrng2, wE_isi, wE_isx, wE_fld, wE_mt, wE_comp, wE_frz, wE_dnew, wEs_nil, wEs_cons, wO_none, wO_some, wC_val, wC_cmp, wC_chn, wC_not, wC_and, wC_or, wAndC_nil, wAndC_cons, wOrC_nil, wOrC_cons, wI_seq, wI_sgn, wI_rng1, wI_rng2, wI_enm, wI_zip2, wI_zip3, wS_asg, wS_par, wS_asgIx, wS_aug, wS_ex, wS_ret, wS_ret0, wS_ife, wS_whl, wS_fr, wS_rs, wS_never, wAdd_d, wMul_d, addKI, addKS, addKL, addKT, mulKI, mulKL, wSubI, wFdivI, wModI, wPowI, mkLt, mkLf, asgT_nm, asgT_tp, asgTs_nil, asgTs_cons, put_fn, put_glob, put_kc, frzKL, wCeq, wCne, wClt, wCle, wCleS, wCgt, wCge, wCis, wCisn, wCin, wCnin, wIn_d, inKS, inKL, inKTI, inKTS, inKD, wIx_d, ixKL, ixKT, ixKSc, ixKS, ixKD, wSlc_d, slcKL, slcKT, slcKS, wSet_h, wBIlen, wBIabs, wBIintI, wBIintB, wBIintS, wBIstrI, wBIstrS, wBIlist, wBItuple, wBIall, wBIany, wBImax1, wBImin1, wBIsum, wBIsorted, wBImin2, wBImax2, wMTappend, wMTpop, wMTclear, wMTjoin, wMTsplit, isRcvA, isRcvP, isRcvC, isRcvJ, isRcvSp, ex_lst, ex_lst0, b_law_written_2]
    refine ⟨l, ok.2.1, by omega, by omega, rfl, ?_⟩
    try simp only [wSs_nil, wSs_cons, wAnd_one, wAnd_cons, wOr_one, wOr_cons, Tgs.len, eq_self, if_true, if_false, rsvN, rsvB, rsvI, rsvS, rsvT, rsvLs, rsvSc, rsvE, rsvH, isNonN, isNonB, isNonI, isNonS, isNonT, isNonL, isNonO, lenS, lenL, lenT, lenSc, seqL, seqT, kdN, kdB, kdI, kdS, kdT, kdL, Kd.isOf, br_t, br_f, itOk, VS.cellOf, wipeE, List.map_cons, List.map_nil, List.replicate_zero, List.replicate_succ, List.cons_append, List.nil_append, Nat.sub_self, Nat.reduceSub, Nat.reduceAdd, List.getElem?_cons_zero, List.getElem?_cons_succ, List.set_cons_zero, List.set_cons_succ, List.length_cons, List.length_nil, Option.some.injEq, exists_eq_left', exists_eq_left, exists_eq', exists_eq, D.int.injEq, D.bl.injEq, D.str.injEq, D.tup.injEq, D.lst.injEq, D.loc.injEq, List.cons.injEq, and_true, true_and, hup_same, ↓reduceIte, Nat.reduceLT, Nat.reduceEqDiff, reduceCtorEq, hup_hup, exists_and_left, Cell.lst.injEq, Nat.reduceLeDiff, Nat.zero_add, Bool.false_eq_true, ixN_ofNat, atI_ofNat, plnN, plnB, plnI, plnS, plnT, plnL, plns0, plnsC, depN, depB, depI, depS, depT, depL, deps0, depsC, eqbI, eqbS, eqbT, eqbL, eqbB, eqbs0, eqbsC, Nat.zero_le, br_not, Nat.max_zero, Nat.zero_max, Nat.max_self, Bool.and_true, Bool.true_and, Bool.not_true, Bool.not_false, beq_self_eq_true, wEq, wInL, wE_var, wE_cst, wE_glob, wE_bop, wE_neg, wE_not, wE_cmp, wE_chn, wE_andv, wE_orv, wE_ite, wE_tup, wE_lst, wE_ix, wE_slc, wE_rev, wE_call, wE_bi, wE_lrng1, wE_lrng2, wE_isi, wE_isx, wE_fld, wE_mt, wE_comp, wE_frz, wE_dnew, wEs_nil, wEs_cons, wO_none, wO_some, wC_val, wC_cmp, wC_chn, wC_not, wC_and, wC_or, wAndC_nil, wAndC_cons, wOrC_nil, wOrC_cons, wI_seq, wI_sgn, wI_rng1, wI_rng2, wI_enm, wI_zip2, wI_zip3, wS_asg, wS_par, wS_asgIx, wS_aug, wS_ex, wS_ret, wS_ret0, wS_ife, wS_whl, wS_fr, wS_rs, wS_never, wAdd_d, wMul_d, addKI, addKS, addKL, addKT, mulKI, mulKL, wSubI, wFdivI, wModI, wPowI, mkLt, mkLf, asgT_nm, asgT_tp, asgTs_nil, asgTs_cons, put_fn, put_glob, put_kc, frzKL, wCeq, wCne, wClt, wCle, wCleS, wCgt, wCge, wCis, wCisn, wCin, wCnin, wIn_d, inKS, inKL, inKTI, inKTS, inKD, wIx_d, ixKL, ixKT, ixKSc, ixKS, ixKD, wSlc_d, slcKL, slcKT, slcKS, wSet_h, wBIlen, wBIabs, wBIintI, wBIintB, wBIintS, wBIstrI, wBIstrS, wBIlist, wBItuple, wBIall, wBIany, wBImax1, wBImin1, wBIsum, wBIsorted, wBImin2, wBImax2, wMTappend, wMTpop, wMTclear, wMTjoin, wMTsplit, isRcvA, isRcvP, isRcvC, isRcvJ, isRcvSp, ex_lst, ex_lst0]
    refine ⟨by (try simp); omega, r, ok.2.2, by omega, by omega, rfl, ?_⟩
    try simp only [wSs_nil, wSs_cons, wAnd_one, wAnd_cons, wOr_one, wOr_cons, Tgs.len, eq_self, if_true, if_false, rsvN, rsvB, rsvI, rsvS, rsvT, rsvLs, rsvSc, rsvE, rsvH, isNonN, isNonB, isNonI, isNonS, isNonT, isNonL, isNonO, lenS, lenL, lenT, lenSc, seqL, seqT, kdN, kdB, kdI, kdS, kdT, kdL, Kd.isOf, br_t, br_f, itOk, VS.cellOf, wipeE, List.map_cons, List.map_nil, List.replicate_zero, List.replicate_succ, List.cons_append, List.nil_append, Nat.sub_self, Nat.reduceSub, Nat.reduceAdd, List.getElem?_cons_zero, List.getElem?_cons_succ, List.set_cons_zero, List.set_cons_succ, List.length_cons, List.length_nil, Option.some.injEq, exists_eq_left', exists_eq_left, exists_eq', exists_eq, D.int.injEq, D.bl.injEq, D.str.injEq, D.tup.injEq, D.lst.injEq, D.loc.injEq, List.cons.injEq, and_true, true_and, hup_same, ↓reduceIte, Nat.reduceLT, Nat.reduceEqDiff, reduceCtorEq, hup_hup, exists_and_left, Cell.lst.injEq, Nat.reduceLeDiff, Nat.zero_add, Bool.false_eq_true, ixN_ofNat, atI_ofNat, plnN, plnB, plnI, plnS, plnT, plnL, plns0, plnsC, depN, depB, depI, depS, depT, depL, deps0, depsC, eqbI, eqbS, eqbT, eqbL, eqbB, eqbs0, eqbsC, Nat.zero_le, br_not, Nat.max_zero, Nat.zero_max, Nat.max_self, Bool.and_true, Bool.true_and, Bool.not_true, Bool.not_false, beq_self_eq_true, wEq, wInL, wE_var, wE_cst, wE_glob, wE_bop, wE_neg, wE_not, wE_cmp, wE_chn, wE_andv, wE_orv, wE_ite, wE_tup, wE_lst, wE_ix, wE_slc, wE_rev, wE_call, wE_bi, wE_lrng1, wE_lrng2, wE_isi, wE_isx, wE_fld, wE_mt, wE_comp, wE_frz, wE_dnew, wEs_nil, wEs_cons, wO_none, wO_some, wC_val, wC_cmp, wC_chn, wC_not, wC_and, wC_or, wAndC_nil, wAndC_cons, wOrC_nil, wOrC_cons, wI_seq, wI_sgn, wI_rng1, wI_rng2, wI_enm, wI_zip2, wI_zip3, wS_asg, wS_par, wS_asgIx, wS_aug, wS_ex, wS_ret, wS_ret0, wS_ife, wS_whl, wS_fr, wS_rs, wS_never, wAdd_d, wMul_d, addKI, addKS, addKL, addKT, mulKI, mulKL, wSubI, wFdivI, wModI, wPowI, mkLt, mkLf, asgT_nm, asgT_tp, asgTs_nil, asgTs_cons, put_fn, put_glob, put_kc, frzKL, wCeq, wCne, wClt, wCle, wCleS, wCgt, wCge, wCis, wCisn, wCin, wCnin, wIn_d, inKS, inKL, inKTI, inKTS, inKD, wIx_d, ixKL, ixKT, ixKSc, ixKS, ixKD, wSlc_d, slcKL, slcKT, slcKS, wSet_h, wBIlen, wBIabs, wBIintI, wBIintB, wBIintS, wBIstrI, wBIstrS, wBIlist, wBItuple, wBIall, wBIany, wBImax1, wBImin1, wBIsum, wBIsorted, wBImin2, wBImax2, wMTappend, wMTpop, wMTclear, wMTjoin, wMTsplit, isRcvA, isRcvP, isRcvC, isRcvJ, isRcvSp, ex_lst, ex_lst0]
    refine ⟨by (try simp); omega, ?_⟩
    try simp only [wSs_nil, wSs_cons, wAnd_one, wAnd_cons, wOr_one, wOr_cons, Tgs.len, eq_self, if_true, if_false, rsvN, rsvB, rsvI, rsvS, rsvT, rsvLs, rsvSc, rsvE, rsvH, isNonN, isNonB, isNonI, isNonS, isNonT, isNonL, isNonO, lenS, lenL, lenT, lenSc, seqL, seqT, kdN, kdB, kdI, kdS, kdT, kdL, Kd.isOf, br_t, br_f, itOk, VS.cellOf, wipeE, List.map_cons, List.map_nil, List.replicate_zero, List.replicate_succ, List.cons_append, List.nil_append, Nat.sub_self, Nat.reduceSub, Nat.reduceAdd, List.getElem?_cons_zero, List.getElem?_cons_succ, List.set_cons_zero, List.set_cons_succ, List.length_cons, List.length_nil, Option.some.injEq, exists_eq_left', exists_eq_left, exists_eq', exists_eq, D.int.injEq, D.bl.injEq, D.str.injEq, D.tup.injEq, D.lst.injEq, D.loc.injEq, List.cons.injEq, and_true, true_and, hup_same, ↓reduceIte, Nat.reduceLT, Nat.reduceEqDiff, reduceCtorEq, hup_hup, exists_and_left, Cell.lst.injEq, Nat.reduceLeDiff, Nat.zero_add, Bool.false_eq_true, ixN_ofNat, atI_ofNat, plnN, plnB, plnI, plnS, plnT, plnL, plns0, plnsC, depN, depB, depI, depS, depT, depL, deps0, depsC, eqbI, eqbS, eqbT, eqbL, eqbB, eqbs0, eqbsC, Nat.zero_le, br_not, Nat.max_zero, Nat.zero_max, Nat.max_self, Bool.and_true, Bool.true_and, Bool.not_true, Bool.not_false, beq_self_eq_true, wEq, wInL, wE_var, wE_cst, wE_glob, wE_bop, wE_neg, wE_not, wE_cmp, wE_chn, wE_andv, wE_orv, wE_ite, wE_tup, wE_lst, wE_ix, wE_slc, wE_rev, wE_call, wE_bi, wE_lrng1, wE_lrng2, wE_isi, wE_isx, wE_fld, wE_mt, wE_comp, wE_frz, wE_dnew, wEs_nil, wEs_cons, wO_none, wO_some, wC_val, wC_cmp, wC_chn, wC_not, wC_and, wC_or, wAndC_nil, wAndC_cons, wOrC_nil, wOrC_cons, wI_seq, wI_sgn, wI_rng1, wI_rng2, wI_enm, wI_zip2, wI_zip3, wS_asg, wS_par, wS_asgIx, wS_aug, wS_ex, wS_ret, wS_ret0, wS_ife, wS_whl, wS_fr, wS_rs, wS_never, wAdd_d, wMul_d, addKI, addKS, addKL, addKT, mulKI, mulKL, wSubI, wFdivI, wModI, wPowI, mkLt, mkLf, asgT_nm, asgT_tp, asgTs_nil, asgTs_cons, put_fn, put_glob, put_kc, frzKL, wCeq, wCne, wClt, wCle, wCleS, wCgt, wCge, wCis, wCisn, wCin, wCnin, wIn_d, inKS, inKL, inKTI, inKTS, inKD, wIx_d, ixKL, ixKT, ixKSc, ixKS, ixKD, wSlc_d, slcKL, slcKT, slcKS, wSet_h, wBIlen, wBIabs, wBIintI, wBIintB, wBIintS, wBIstrI, wBIstrS, wBIlist, wBItuple, wBIall, wBIany, wBImax1, wBImin1, wBIsum, wBIsorted, wBImin2, wBImax2, wMTappend, wMTpop, wMTclear, wMTjoin, wMTsplit, isRcvA, isRcvP, isRcvC, isRcvJ, isRcvSp, ex_lst, ex_lst0, b_law_written_3, ek]
    refine ⟨small_log ok.1, by (try simp); omega, by (try simp); omega, by (try simp); omega, by (try simp); omega, h, hsub_refl _, ?_⟩
    simpa [Tr.txt, sSplit] using q
def sp_same (n : Nat) : VSp := fun ds h Q _ => ∃ t : Tr, t.dep < n ∧ t.dep ≤ 60 ∧ ds = [t.d, t.d] ∧ Q (.bl true) h
theorem l_same (n : Nat) (T : Tab) : ∀ ds h Q X, sp_same (n + 1) ds h Q X → wSs (T.put 13 (sp_same n)) d_law_same.body (ds.map some ++ List.replicate (d_law_same.N.length - ds.length) none) h ⟨fun _ h1 => Q .non h1, Q, fun c fs _ h1 => X c fs h1⟩ := by
  rintro ds h Q X ⟨t, hn, hl, rfl, q⟩
  show wSs _ b_law_same_0 [some t.d, some t.d, none] h _
  have hp := t.pln
  have hd := t.dpt
  have he : D.eqb t.d t.d = true := D.eqb_refl hp
  obtain ⟨us, eu⟩ : ∃ us, t.d = .tup us := by cases t <;> exact ⟨_, rfl⟩
  have first : wSs (T.put 13 (sp_same n)) b_law_same_1 [some t.d, some t.d, none] h ⟨fun _ h1 => Q .non h1, Q, fun c fs _ h1 => X c fs h1⟩ := by
    cases t with
    | turned =>
      try simp only [wSs_nil, wSs_cons, wAnd_one, wAnd_cons, wOr_one, wOr_cons, Tgs.len, eq_self, if_true, if_false, rsvN, rsvB, rsvI, rsvS, rsvT, rsvLs, rsvSc, rsvE, rsvH, isNonN, isNonB, isNonI, isNonS, isNonT, isNonL, isNonO, lenS, lenL, lenT, lenSc, seqL, seqT, kdN, kdB, kdI, kdS, kdT, kdL, Kd.isOf, br_t, br_f, itOk, VS.cellOf, wipeE, List.map_cons, List.map_nil, List.replicate_zero, List.replicate_succ, List.cons_append, List.nil_append, Nat.sub_self, Nat.reduceSub, Nat.reduceAdd, List.getElem?_cons_zero, List.getElem?_cons_succ, List.set_cons_zero, List.set_cons_succ, List.length_cons, List.length_nil, Option.some.injEq, exists_eq_left', exists_eq_left, exists_eq', exists_eq, D.int.injEq, D.bl.injEq, D.str.injEq, D.tup.injEq, D.lst.injEq, D.loc.injEq, List.cons.injEq, and_true, true_and, hup_same, ↓reduceIte, Nat.reduceLT, Nat.reduceEqDiff, reduceCtorEq, hup_hup, exists_and_left, Cell.lst.injEq, Nat.reduceLeDiff, Nat.zero_add, Bool.false_eq_true, ixN_ofNat, atI_ofNat, plnN, plnB, plnI, plnS, plnT, plnL, plns0, plnsC, depN, depB, depI, depS, depT, depL, deps0, depsC, eqbI, eqbS, eqbT, eqbL, eqbB, eqbs0, eqbsC, Nat.zero_le, br_not, Nat.max_zero, Nat.zero_max, Nat.max_self, Bool.and_true, Bool.true_and, Bool.not_true, Bool.not_false, beq_self_eq_true, wEq, wInL, wE_var, wE_cst, wE_glob, wE_bop, wE_neg, wE_not, wE_cmp, wE_chn, wE_andv, wE_orv, wE_ite, wE_tup, wE_lst, wE_ix, wE_slc, wE_rev, wE_call, wE_bi, wE_lrng1, wE_lrng2, wE_isi, wE_isx, wE_fld, wE_mt, wE_comp, wE_frz, wE_dnew, wEs_nil, wEs_cons, wO_none, wO_some, wC_val, wC_cmp, wC_chn, wC_not, wC_and, wC_or, wAndC_nil, wAndC_cons, wOrC_nil, wOrC_cons, wI_seq, wI_sgn, wI_rng1, wI_rng2, wI_enm, wI_zip2, wI_zip3, wS_asg, wS_par, wS_asgIx, wS_aug, wS_ex, wS_ret, wS_ret0, wS_ife, wS_whl, wS_fr, wS_rs, wS_never, wAdd_d, wMul_d, addKI, addKS, addKL, addKT, mulKI, mulKL, wSubI, wFdivI, wModI, wPowI, mkLt, mkLf, asgT_nm, asgT_tp, asgTs_nil, asgTs_cons, put_fn, put_glob, put_kc, frzKL, wCeq, wCne, wClt, wCle, wCleS, wCgt, wCge, wCis, wCisn, wCin, wCnin, wIn_d, inKS, inKL, inKTI, inKTS, inKD, wIx_d, ixKL, ixKT, ixKSc, ixKS, ixKD, wSlc_d, slcKL, slcKT, slcKS, wSet_h, wBIlen, wBIabs, wBIintI, wBIintB, wBIintS, wBIstrI, wBIstrS, wBIlist, wBItuple, wBIall, wBIany, wBImax1, wBImin1, wBIsum, wBIsorted, wBImin2, wBImax2, wMTappend, wMTpop, wMTclear, wMTjoin, wMTsplit, isRcvA, isRcvP, isRcvC, isRcvJ, isRcvSp, ex_lst, ex_lst0, b_law_same_1, Tr.d]
      refine ⟨by decide, wCp_map (fun d => .bl false) trivial (fun x hx R hR => ?_) ?_⟩
      · have : x = .str sTurned := by simpa using hx
        subst this
        exact ⟨.str, rfl, hR⟩
      · try simp only [wSs_nil, wSs_cons, wAnd_one, wAnd_cons, wOr_one, wOr_cons, Tgs.len, eq_self, if_true, if_false, rsvN, rsvB, rsvI, rsvS, rsvT, rsvLs, rsvSc, rsvE, rsvH, isNonN, isNonB, isNonI, isNonS, isNonT, isNonL, isNonO, lenS, lenL, lenT, lenSc, seqL, seqT, kdN, kdB, kdI, kdS, kdT, kdL, Kd.isOf, br_t, br_f, itOk, VS.cellOf, wipeE, List.map_cons, List.map_nil, List.replicate_zero, List.replicate_succ, List.cons_append, List.nil_append, Nat.sub_self, Nat.reduceSub, Nat.reduceAdd, List.getElem?_cons_zero, List.getElem?_cons_succ, List.set_cons_zero, List.set_cons_succ, List.length_cons, List.length_nil, Option.some.injEq, exists_eq_left', exists_eq_left, exists_eq', exists_eq, D.int.injEq, D.bl.injEq, D.str.injEq, D.tup.injEq, D.lst.injEq, D.loc.injEq, List.cons.injEq, and_true, true_and, hup_same, ↓reduceIte, Nat.reduceLT, Nat.reduceEqDiff, reduceCtorEq, hup_hup, exists_and_left, Cell.lst.injEq, Nat.reduceLeDiff, Nat.zero_add, Bool.false_eq_true, ixN_ofNat, atI_ofNat, plnN, plnB, plnI, plnS, plnT, plnL, plns0, plnsC, depN, depB, depI, depS, depT, depL, deps0, depsC, eqbI, eqbS, eqbT, eqbL, eqbB, eqbs0, eqbsC, Nat.zero_le, br_not, Nat.max_zero, Nat.zero_max, Nat.max_self, Bool.and_true, Bool.true_and, Bool.not_true, Bool.not_false, beq_self_eq_true, wEq, wInL, wE_var, wE_cst, wE_glob, wE_bop, wE_neg, wE_not, wE_cmp, wE_chn, wE_andv, wE_orv, wE_ite, wE_tup, wE_lst, wE_ix, wE_slc, wE_rev, wE_call, wE_bi, wE_lrng1, wE_lrng2, wE_isi, wE_isx, wE_fld, wE_mt, wE_comp, wE_frz, wE_dnew, wEs_nil, wEs_cons, wO_none, wO_some, wC_val, wC_cmp, wC_chn, wC_not, wC_and, wC_or, wAndC_nil, wAndC_cons, wOrC_nil, wOrC_cons, wI_seq, wI_sgn, wI_rng1, wI_rng2, wI_enm, wI_zip2, wI_zip3, wS_asg, wS_par, wS_asgIx, wS_aug, wS_ex, wS_ret, wS_ret0, wS_ife, wS_whl, wS_fr, wS_rs, wS_never, wAdd_d, wMul_d, addKI, addKS, addKL, addKT, mulKI, mulKL, wSubI, wFdivI, wModI, wPowI, mkLt, mkLf, asgT_nm, asgT_tp, asgTs_nil, asgTs_cons, put_fn, put_glob, put_kc, frzKL, wCeq, wCne, wClt, wCle, wCleS, wCgt, wCge, wCis, wCisn, wCin, wCnin, wIn_d, inKS, inKL, inKTI, inKTS, inKD, wIx_d, ixKL, ixKT, ixKSc, ixKS, ixKD, wSlc_d, slcKL, slcKT, slcKS, wSet_h, wBIlen, wBIabs, wBIintI, wBIintB, wBIintS, wBIstrI, wBIstrS, wBIlist, wBItuple, wBIall, wBIany, wBImax1, wBImin1, wBIsum, wBIsorted, wBImin2, wBImax2, wMTappend, wMTpop, wMTclear, wMTjoin, wMTsplit, isRcvA, isRcvP, isRcvC, isRcvJ, isRcvSp, ex_lst, ex_lst0, List.any_cons, List.any_nil]
        refine br_no (by decide) ?_
        try simp only [wSs_nil, wSs_cons, wAnd_one, wAnd_cons, wOr_one, wOr_cons, Tgs.len, eq_self, if_true, if_false, rsvN, rsvB, rsvI, rsvS, rsvT, rsvLs, rsvSc, rsvE, rsvH, isNonN, isNonB, isNonI, isNonS, isNonT, isNonL, isNonO, lenS, lenL, lenT, lenSc, seqL, seqT, kdN, kdB, kdI, kdS, kdT, kdL, Kd.isOf, br_t, br_f, itOk, VS.cellOf, wipeE, List.map_cons, List.map_nil, List.replicate_zero, List.replicate_succ, List.cons_append, List.nil_append, Nat.sub_self, Nat.reduceSub, Nat.reduceAdd, List.getElem?_cons_zero, List.getElem?_cons_succ, List.set_cons_zero, List.set_cons_succ, List.length_cons, List.length_nil, Option.some.injEq, exists_eq_left', exists_eq_left, exists_eq', exists_eq, D.int.injEq, D.bl.injEq, D.str.injEq, D.tup.injEq, D.lst.injEq, D.loc.injEq, List.cons.injEq, and_true, true_and, hup_same, ↓reduceIte, Nat.reduceLT, Nat.reduceEqDiff, reduceCtorEq, hup_hup, exists_and_left, Cell.lst.injEq, Nat.reduceLeDiff, Nat.zero_add, Bool.false_eq_true, ixN_ofNat, atI_ofNat, plnN, plnB, plnI, plnS, plnT, plnL, plns0, plnsC, depN, depB, depI, depS, depT, depL, deps0, depsC, eqbI, eqbS, eqbT, eqbL, eqbB, eqbs0, eqbsC, Nat.zero_le, br_not, Nat.max_zero, Nat.zero_max, Nat.max_self, Bool.and_true, Bool.true_and, Bool.not_true, Bool.not_false, beq_self_eq_true, wEq, wInL, wE_var, wE_cst, wE_glob, wE_bop, wE_neg, wE_not, wE_cmp, wE_chn, wE_andv, wE_orv, wE_ite, wE_tup, wE_lst, wE_ix, wE_slc, wE_rev, wE_call, wE_bi, wE_lrng1, wE_lrng2, wE_isi, wE_isx, wE_fld, wE_mt, wE_comp, wE_frz, wE_dnew, wEs_nil, wEs_cons, wO_none, wO_some, wC_val, wC_cmp, wC_chn, wC_not, wC_and, wC_or, wAndC_nil, wAndC_cons, wOrC_nil, wOrC_cons, wI_seq, wI_sgn, wI_rng1, wI_rng2, wI_enm, wI_zip2, wI_zip3, wS_asg, wS_par, wS_asgIx, wS_aug, wS_ex, wS_ret, wS_ret0, wS_ife, wS_whl, wS_fr, wS_rs, wS_never, wAdd_d, wMul_d, addKI, addKS, addKL, addKT, mulKI, mulKL, wSubI, wFdivI, wModI, wPowI, mkLt, mkLf, asgT_nm, asgT_tp, asgTs_nil, asgTs_cons, put_fn, put_glob, put_kc, frzKL, wCeq, wCne, wClt, wCle, wCleS, wCgt, wCge, wCis, wCisn, wCin, wCnin, wIn_d, inKS, inKL, inKTI, inKTS, inKD, wIx_d, ixKL, ixKT, ixKSc, ixKS, ixKD, wSlc_d, slcKL, slcKT, slcKS, wSet_h, wBIlen, wBIabs, wBIintI, wBIintB, wBIintS, wBIstrI, wBIstrS, wBIlist, wBItuple, wBIall, wBIany, wBImax1, wBImin1, wBIsum, wBIsorted, wBImin2, wBImax2, wMTappend, wMTpop, wMTclear, wMTjoin, wMTsplit, isRcvA, isRcvP, isRcvC, isRcvJ, isRcvSp, ex_lst, ex_lst0, b_law_same_2]
        exact br_no (by decide) ⟨h, hsub_refl _, q⟩
    | cut a b =>
      try simp only [wSs_nil, wSs_cons, wAnd_one, wAnd_cons, wOr_one, wOr_cons, Tgs.len, eq_self, if_true, if_false, rsvN, rsvB, rsvI, rsvS, rsvT, rsvLs, rsvSc, rsvE, rsvH, isNonN, isNonB, isNonI, isNonS, isNonT, isNonL, isNonO, lenS, lenL, lenT, lenSc, seqL, seqT, kdN, kdB, kdI, kdS, kdT, kdL, Kd.isOf, br_t, br_f, itOk, VS.cellOf, wipeE, List.map_cons, List.map_nil, List.replicate_zero, List.replicate_succ, List.cons_append, List.nil_append, Nat.sub_self, Nat.reduceSub, Nat.reduceAdd, List.getElem?_cons_zero, List.getElem?_cons_succ, List.set_cons_zero, List.set_cons_succ, List.length_cons, List.length_nil, Option.some.injEq, exists_eq_left', exists_eq_left, exists_eq', exists_eq, D.int.injEq, D.bl.injEq, D.str.injEq, D.tup.injEq, D.lst.injEq, D.loc.injEq, List.cons.injEq, and_true, true_and, hup_same, ↓reduceIte, Nat.reduceLT, Nat.reduceEqDiff, reduceCtorEq, hup_hup, exists_and_left, Cell.lst.injEq, Nat.reduceLeDiff, Nat.zero_add, Bool.false_eq_true, ixN_ofNat, atI_ofNat, plnN, plnB, plnI, plnS, plnT, plnL, plns0, plnsC, depN, depB, depI, depS, depT, depL, deps0, depsC, eqbI, eqbS, eqbT, eqbL, eqbB, eqbs0, eqbsC, Nat.zero_le, br_not, Nat.max_zero, Nat.zero_max, Nat.max_self, Bool.and_true, Bool.true_and, Bool.not_true, Bool.not_false, beq_self_eq_true, wEq, wInL, wE_var, wE_cst, wE_glob, wE_bop, wE_neg, wE_not, wE_cmp, wE_chn, wE_andv, wE_orv, wE_ite, wE_tup, wE_lst, wE_ix, wE_slc, wE_rev, wE_call, wE_bi, wE_lrng1, wE_lrng2, wE_isi, wE_isx, wE_fld, wE_mt, wE_comp, wE_frz, wE_dnew, wEs_nil, wEs_cons, wO_none, wO_some, wC_val, wC_cmp, wC_chn, wC_not, wC_and, wC_or, wAndC_nil, wAndC_cons, wOrC_nil, wOrC_cons, wI_seq, wI_sgn, wI_rng1, wI_rng2, wI_enm, wI_zip2, wI_zip3, wS_asg, wS_par, wS_asgIx, wS_aug, wS_ex, wS_ret, wS_ret0, wS_ife, wS_whl, wS_fr, wS_rs, wS_never, wAdd_d, wMul_d, addKI, addKS, addKL, addKT, mulKI, mulKL, wSubI, wFdivI, wModI, wPowI, mkLt, mkLf, asgT_nm, asgT_tp, asgTs_nil, asgTs_cons, put_fn, put_glob, put_kc, frzKL, wCeq, wCne, wClt, wCle, wCleS, wCgt, wCge, wCis, wCisn, wCin, wCnin, wIn_d, inKS, inKL, inKTI, inKTS, inKD, wIx_d, ixKL, ixKT, ixKSc, ixKS, ixKD, wSlc_d, slcKL, slcKT, slcKS, wSet_h, wBIlen, wBIabs, wBIintI, wBIintB, wBIintS, wBIstrI, wBIstrS, wBIlist, wBItuple, wBIall, wBIany, wBImax1, wBImin1, wBIsum, wBIsorted, wBImin2, wBImax2, wMTappend, wMTpop, wMTclear, wMTjoin, wMTsplit, isRcvA, isRcvP, isRcvC, isRcvJ, isRcvSp, ex_lst, ex_lst0, b_law_same_1, Tr.d]
      refine ⟨by decide, wCp_map (fun d => .bl false) trivial (fun x hx R hR => ?_) ?_⟩
      · have : x = .str sCut ∨ x = .int a ∨ x = .int b := by simpa using hx
        rcases this with rfl | rfl | rfl
        · exact ⟨.str, rfl, hR⟩
        · exact ⟨.int, rfl, hR⟩
        · exact ⟨.int, rfl, hR⟩
      · try simp only [wSs_nil, wSs_cons, wAnd_one, wAnd_cons, wOr_one, wOr_cons, Tgs.len, eq_self, if_true, if_false, rsvN, rsvB, rsvI, rsvS, rsvT, rsvLs, rsvSc, rsvE, rsvH, isNonN, isNonB, isNonI, isNonS, isNonT, isNonL, isNonO, lenS, lenL, lenT, lenSc, seqL, seqT, kdN, kdB, kdI, kdS, kdT, kdL, Kd.isOf, br_t, br_f, itOk, VS.cellOf, wipeE, List.map_cons, List.map_nil, List.replicate_zero, List.replicate_succ, List.cons_append, List.nil_append, Nat.sub_self, Nat.reduceSub, Nat.reduceAdd, List.getElem?_cons_zero, List.getElem?_cons_succ, List.set_cons_zero, List.set_cons_succ, List.length_cons, List.length_nil, Option.some.injEq, exists_eq_left', exists_eq_left, exists_eq', exists_eq, D.int.injEq, D.bl.injEq, D.str.injEq, D.tup.injEq, D.lst.injEq, D.loc.injEq, List.cons.injEq, and_true, true_and, hup_same, ↓reduceIte, Nat.reduceLT, Nat.reduceEqDiff, reduceCtorEq, hup_hup, exists_and_left, Cell.lst.injEq, Nat.reduceLeDiff, Nat.zero_add, Bool.false_eq_true, ixN_ofNat, atI_ofNat, plnN, plnB, plnI, plnS, plnT, plnL, plns0, plnsC, depN, depB, depI, depS, depT, depL, deps0, depsC, eqbI, eqbS, eqbT, eqbL, eqbB, eqbs0, eqbsC, Nat.zero_le, br_not, Nat.max_zero, Nat.zero_max, Nat.max_self, Bool.and_true, Bool.true_and, Bool.not_true, Bool.not_false, beq_self_eq_true, wEq, wInL, wE_var, wE_cst, wE_glob, wE_bop, wE_neg, wE_not, wE_cmp, wE_chn, wE_andv, wE_orv, wE_ite, wE_tup, wE_lst, wE_ix, wE_slc, wE_rev, wE_call, wE_bi, wE_lrng1, wE_lrng2, wE_isi, wE_isx, wE_fld, wE_mt, wE_comp, wE_frz, wE_dnew, wEs_nil, wEs_cons, wO_none, wO_some, wC_val, wC_cmp, wC_chn, wC_not, wC_and, wC_or, wAndC_nil, wAndC_cons, wOrC_nil, wOrC_cons, wI_seq, wI_sgn, wI_rng1, wI_rng2, wI_enm, wI_zip2, wI_zip3, wS_asg, wS_par, wS_asgIx, wS_aug, wS_ex, wS_ret, wS_ret0, wS_ife, wS_whl, wS_fr, wS_rs, wS_never, wAdd_d, wMul_d, addKI, addKS, addKL, addKT, mulKI, mulKL, wSubI, wFdivI, wModI, wPowI, mkLt, mkLf, asgT_nm, asgT_tp, asgTs_nil, asgTs_cons, put_fn, put_glob, put_kc, frzKL, wCeq, wCne, wClt, wCle, wCleS, wCgt, wCge, wCis, wCisn, wCin, wCnin, wIn_d, inKS, inKL, inKTI, inKTS, inKD, wIx_d, ixKL, ixKT, ixKSc, ixKS, ixKD, wSlc_d, slcKL, slcKT, slcKS, wSet_h, wBIlen, wBIabs, wBIintI, wBIintB, wBIintS, wBIstrI, wBIstrS, wBIlist, wBItuple, wBIall, wBIany, wBImax1, wBImin1, wBIsum, wBIsorted, wBImin2, wBImax2, wMTappend, wMTpop, wMTclear, wMTjoin, wMTsplit, isRcvA, isRcvP, isRcvC, isRcvJ, isRcvSp, ex_lst, ex_lst0, List.any_cons, List.any_nil]
        refine br_no (by decide) ?_
        try simp only [wSs_nil, wSs_cons, wAnd_one, wAnd_cons, wOr_one, wOr_cons, Tgs.len, eq_self, if_true, if_false, rsvN, rsvB, rsvI, rsvS, rsvT, rsvLs, rsvSc, rsvE, rsvH, isNonN, isNonB, isNonI, isNonS, isNonT, isNonL, isNonO, lenS, lenL, lenT, lenSc, seqL, seqT, kdN, kdB, kdI, kdS, kdT, kdL, Kd.isOf, br_t, br_f, itOk, VS.cellOf, wipeE, List.map_cons, List.map_nil, List.replicate_zero, List.replicate_succ, List.cons_append, List.nil_append, Nat.sub_self, Nat.reduceSub, Nat.reduceAdd, List.getElem?_cons_zero, List.getElem?_cons_succ, List.set_cons_zero, List.set_cons_succ, List.length_cons, List.length_nil, Option.some.injEq, exists_eq_left', exists_eq_left, exists_eq', exists_eq, D.int.injEq, D.bl.injEq, D.str.injEq, D.tup.injEq, D.lst.injEq, D.loc.injEq, List.cons.injEq, and_true, true_and, hup_same, ↓reduceIte, Nat.reduceLT, Nat.reduceEqDiff, reduceCtorEq, hup_hup, exists_and_left, Cell.lst.injEq, Nat.reduceLeDiff, Nat.zero_add, Bool.false_eq_true, ixN_ofNat, atI_ofNat, plnN, plnB, plnI, plnS, plnT, plnL, plns0, plnsC, depN, depB, depI, depS, depT, depL, deps0, depsC, eqbI, eqbS, eqbT, eqbL, eqbB, eqbs0, eqbsC, Nat.zero_le, br_not, Nat.max_zero, Nat.zero_max, Nat.max_self, Bool.and_true, Bool.true_and, Bool.not_true, Bool.not_false, beq_self_eq_true, wEq, wInL, wE_var, wE_cst, wE_glob, wE_bop, wE_neg, wE_not, wE_cmp, wE_chn, wE_andv, wE_orv, wE_ite, wE_tup, wE_lst, wE_ix, wE_slc, wE_rev, wE_call, wE_bi, wE_lrng1, wE_lrng2, wE_isi, wE_isx, wE_fld, wE_mt, wE_comp, wE_frz, wE_dnew, wEs_nil, wEs_cons, wO_none, wO_some, wC_val, wC_cmp, wC_chn, wC_not, wC_and, wC_or, wAndC_nil, wAndC_cons, wOrC_nil, wOrC_cons, wI_seq, wI_sgn, wI_rng1, wI_rng2, wI_enm, wI_zip2, wI_zip3, wS_asg, wS_par, wS_asgIx, wS_aug, wS_ex, wS_ret, wS_ret0, wS_ife, wS_whl, wS_fr, wS_rs, wS_never, wAdd_d, wMul_d, addKI, addKS, addKL, addKT, mulKI, mulKL, wSubI, wFdivI, wModI, wPowI, mkLt, mkLf, asgT_nm, asgT_tp, asgTs_nil, asgTs_cons, put_fn, put_glob, put_kc, frzKL, wCeq, wCne, wClt, wCle, wCleS, wCgt, wCge, wCis, wCisn, wCin, wCnin, wIn_d, inKS, inKL, inKTI, inKTS, inKD, wIx_d, ixKL, ixKT, ixKSc, ixKS, ixKD, wSlc_d, slcKL, slcKT, slcKS, wSet_h, wBIlen, wBIabs, wBIintI, wBIintB, wBIintS, wBIstrI, wBIstrS, wBIlist, wBItuple, wBIall, wBIany, wBImax1, wBImin1, wBIsum, wBIsorted, wBImin2, wBImax2, wMTappend, wMTpop, wMTclear, wMTjoin, wMTsplit, isRcvA, isRcvP, isRcvC, isRcvJ, isRcvSp, ex_lst, ex_lst0, b_law_same_2]
        exact br_no (by decide) ⟨h, hsub_refl _, q⟩
    | split k l r =>
      have hd1 : max l.dep r.dep + 1 < n + 1 := hn
      have hd2 : max l.dep r.dep + 1 ≤ 60 := hl
      have tup : ∀ w : Tr, ∃ us, w.d = .tup us := fun w => by cases w <;> exact ⟨_, rfl⟩
      try simp only [wSs_nil, wSs_cons, wAnd_one, wAnd_cons, wOr_one, wOr_cons, Tgs.len, eq_self, if_true, if_false, rsvN, rsvB, rsvI, rsvS, rsvT, rsvLs, rsvSc, rsvE, rsvH, isNonN, isNonB, isNonI, isNonS, isNonT, isNonL, isNonO, lenS, lenL, lenT, lenSc, seqL, seqT, kdN, kdB, kdI, kdS, kdT, kdL, Kd.isOf, br_t, br_f, itOk, VS.cellOf, wipeE, List.map_cons, List.map_nil, List.replicate_zero, List.replicate_succ, List.cons_append, List.nil_append, Nat.sub_self, Nat.reduceSub, Nat.reduceAdd, List.getElem?_cons_zero, List.getElem?_cons_succ, List.set_cons_zero, List.set_cons_succ, List.length_cons, List.length_nil, Option.some.injEq, exists_eq_left', exists_eq_left, exists_eq', exists_eq, D.int.injEq, D.bl.injEq, D.str.injEq, D.tup.injEq, D.lst.injEq, D.loc.injEq, List.cons.injEq, and_true, true_and, hup_same, ↓reduceIte, Nat.reduceLT, Nat.reduceEqDiff, reduceCtorEq, hup_hup, exists_and_left, Cell.lst.injEq, Nat.reduceLeDiff, Nat.zero_add, Bool.false_eq_true, ixN_ofNat, atI_ofNat, plnN, plnB, plnI, plnS, plnT, plnL, plns0, plnsC, depN, depB, depI, depS, depT, depL, deps0, depsC, eqbI, eqbS, eqbT, eqbL, eqbB, eqbs0, eqbsC, Nat.zero_le, br_not, Nat.max_zero, Nat.zero_max, Nat.max_self, Bool.and_true, Bool.true_and, Bool.not_true, Bool.not_false, beq_self_eq_true, wEq, wInL, wE_var, wE_cst, wE_glob, wE_bop, wE_neg, wE_not, wE_cmp, wE_chn, wE_andv, wE_orv, wE_ite, wE_tup, wE_lst, wE_ix, wE_slc, wE_rev, wE_call, wE_bi, wE_lrng1, wE_lrng2, wE_isi, wE_isx, wE_fld, wE_mt, wE_comp, wE_frz, wE_dnew, wEs_nil, wEs_cons, wO_none, wO_some, wC_val, wC_cmp, wC_chn, wC_not, wC_and, wC_or, wAndC_nil, wAndC_cons, wOrC_nil, wOrC_cons, wI_seq, wI_sgn, wI_rng1, wI_rng2, wI_enm, wI_zip2, wI_zip3, wS_asg, wS_par, wS_asgIx, wS_aug, wS_ex, wS_ret, wS_ret0, wS_ife, wS_whl, wS_fr, wS_rs, wS_never, wAdd_d, wMul_d, addKI, addKS, addKL, addKT, mulKI, mulKL, wSubI, wFdivI, wModI, wPowI, mkLt, mkLf, asgT_nm, asgT_tp, asgTs_nil, asgTs_cons, put_fn, put_glob, put_kc, frzKL, wCeq, wCne, wClt, wCle, wCleS, wCgt, wCge, wCis, wCisn, wCin, wCnin, wIn_d, inKS, inKL, inKTI, inKTS, inKD, wIx_d, ixKL, ixKT, ixKSc, ixKS, ixKD, wSlc_d, slcKL, slcKT, slcKS, wSet_h, wBIlen, wBIabs, wBIintI, wBIintB, wBIintS, wBIstrI, wBIstrS, wBIlist, wBItuple, wBIall, wBIany, wBImax1, wBImin1, wBIsum, wBIsorted, wBImin2, wBImax2, wMTappend, wMTpop, wMTclear, wMTjoin, wMTsplit, isRcvA, isRcvP, isRcvC, isRcvJ, isRcvSp, ex_lst, ex_lst0, b_law_same_1, Tr.d]
      refine ⟨by decide, wCp_map (fun d => .bl false) trivial (fun x hx R hR => ?_) ?_⟩
      · have : x = .str sSplit ∨ x = .int k ∨ x = l.d ∨ x = r.d := by simpa using hx
        rcases this with rfl | rfl | rfl | rfl
        · exact ⟨.str, rfl, hR⟩
        · exact ⟨.int, rfl, hR⟩
        · obtain ⟨us, e⟩ := tup l
          rw [e]; exact ⟨.tuple, rfl, hR⟩
        · obtain ⟨us, e⟩ := tup r
          rw [e]; exact ⟨.tuple, rfl, hR⟩
      · try simp only [wSs_nil, wSs_cons, wAnd_one, wAnd_cons, wOr_one, wOr_cons, Tgs.len, eq_self, if_true, if_false, rsvN, rsvB, rsvI, rsvS, rsvT, rsvLs, rsvSc, rsvE, rsvH, isNonN, isNonB, isNonI, isNonS, isNonT, isNonL, isNonO, lenS, lenL, lenT, lenSc, seqL, seqT, kdN, kdB, kdI, kdS, kdT, kdL, Kd.isOf, br_t, br_f, itOk, VS.cellOf, wipeE, List.map_cons, List.map_nil, List.replicate_zero, List.replicate_succ, List.cons_append, List.nil_append, Nat.sub_self, Nat.reduceSub, Nat.reduceAdd, List.getElem?_cons_zero, List.getElem?_cons_succ, List.set_cons_zero, List.set_cons_succ, List.length_cons, List.length_nil, Option.some.injEq, exists_eq_left', exists_eq_left, exists_eq', exists_eq, D.int.injEq, D.bl.injEq, D.str.injEq, D.tup.injEq, D.lst.injEq, D.loc.injEq, List.cons.injEq, and_true, true_and, hup_same, ↓reduceIte, Nat.reduceLT, Nat.reduceEqDiff, reduceCtorEq, hup_hup, exists_and_left, Cell.lst.injEq, Nat.reduceLeDiff, Nat.zero_add, Bool.false_eq_true, ixN_ofNat, atI_ofNat, plnN, plnB, plnI, plnS, plnT, plnL, plns0, plnsC, depN, depB, depI, depS, depT, depL, deps0, depsC, eqbI, eqbS, eqbT, eqbL, eqbB, eqbs0, eqbsC, Nat.zero_le, br_not, Nat.max_zero, Nat.zero_max, Nat.max_self, Bool.and_true, Bool.true_and, Bool.not_true, Bool.not_false, beq_self_eq_true, wEq, wInL, wE_var, wE_cst, wE_glob, wE_bop, wE_neg, wE_not, wE_cmp, wE_chn, wE_andv, wE_orv, wE_ite, wE_tup, wE_lst, wE_ix, wE_slc, wE_rev, wE_call, wE_bi, wE_lrng1, wE_lrng2, wE_isi, wE_isx, wE_fld, wE_mt, wE_comp, wE_frz, wE_dnew, wEs_nil, wEs_cons, wO_none, wO_some, wC_val, wC_cmp, wC_chn, wC_not, wC_and, wC_or, wAndC_nil, wAndC_cons, wOrC_nil, wOrC_cons, wI_seq, wI_sgn, wI_rng1, wI_rng2, wI_enm, wI_zip2, wI_zip3, wS_asg, wS_par, wS_asgIx, wS_aug, wS_ex, wS_ret, wS_ret0, wS_ife, wS_whl, wS_fr, wS_rs, wS_never, wAdd_d, wMul_d, addKI, addKS, addKL, addKT, mulKI, mulKL, wSubI, wFdivI, wModI, wPowI, mkLt, mkLf, asgT_nm, asgT_tp, asgTs_nil, asgTs_cons, put_fn, put_glob, put_kc, frzKL, wCeq, wCne, wClt, wCle, wCleS, wCgt, wCge, wCis, wCisn, wCin, wCnin, wIn_d, inKS, inKL, inKTI, inKTS, inKD, wIx_d, ixKL, ixKT, ixKSc, ixKS, ixKD, wSlc_d, slcKL, slcKT, slcKS, wSet_h, wBIlen, wBIabs, wBIintI, wBIintB, wBIintS, wBIstrI, wBIstrS, wBIlist, wBItuple, wBIall, wBIany, wBImax1, wBImin1, wBIsum, wBIsorted, wBImin2, wBImax2, wMTappend, wMTpop, wMTclear, wMTjoin, wMTsplit, isRcvA, isRcvP, isRcvC, isRcvJ, isRcvSp, ex_lst, ex_lst0, List.any_cons, List.any_nil]
        refine br_no (by decide) ?_
        try simp only [wSs_nil, wSs_cons, wAnd_one, wAnd_cons, wOr_one, wOr_cons, Tgs.len, eq_self, if_true, if_false, rsvN, rsvB, rsvI, rsvS, rsvT, rsvLs, rsvSc, rsvE, rsvH, isNonN, isNonB, isNonI, isNonS, isNonT, isNonL, isNonO, lenS, lenL, lenT, lenSc, seqL, seqT, kdN, kdB, kdI, kdS, kdT, kdL, Kd.isOf, br_t, br_f, itOk, VS.cellOf, wipeE, List.map_cons, List.map_nil, List.replicate_zero, List.replicate_succ, List.cons_append, List.nil_append, Nat.sub_self, Nat.reduceSub, Nat.reduceAdd, List.getElem?_cons_zero, List.getElem?_cons_succ, List.set_cons_zero, List.set_cons_succ, List.length_cons, List.length_nil, Option.some.injEq, exists_eq_left', exists_eq_left, exists_eq', exists_eq, D.int.injEq, D.bl.injEq, D.str.injEq, D.tup.injEq, D.lst.injEq, D.loc.injEq, List.cons.injEq, and_true, true_and, hup_same, ↓reduceIte, Nat.reduceLT, Nat.reduceEqDiff, reduceCtorEq, hup_hup, exists_and_left, Cell.lst.injEq, Nat.reduceLeDiff, Nat.zero_add, Bool.false_eq_true, ixN_ofNat, atI_ofNat, plnN, plnB, plnI, plnS, plnT, plnL, plns0, plnsC, depN, depB, depI, depS, depT, depL, deps0, depsC, eqbI, eqbS, eqbT, eqbL, eqbB, eqbs0, eqbsC, Nat.zero_le, br_not, Nat.max_zero, Nat.zero_max, Nat.max_self, Bool.and_true, Bool.true_and, Bool.not_true, Bool.not_false, beq_self_eq_true, wEq, wInL, wE_var, wE_cst, wE_glob, wE_bop, wE_neg, wE_not, wE_cmp, wE_chn, wE_andv, wE_orv, wE_ite, wE_tup, wE_lst, wE_ix, wE_slc, wE_rev, wE_call, wE_bi, wE_lrng1, wE_lrng2, wE_isi, wE_isx, wE_fld, wE_mt, wE_comp, wE_frz, wE_dnew, wEs_nil, wEs_cons, wO_none, wO_some, wC_val, wC_cmp, wC_chn, wC_not, wC_and, wC_or, wAndC_nil, wAndC_cons, wOrC_nil, wOrC_cons, wI_seq, wI_sgn, wI_rng1, wI_rng2, wI_enm, wI_zip2, wI_zip3, wS_asg, wS_par, wS_asgIx, wS_aug, wS_ex, wS_ret, wS_ret0, wS_ife, wS_whl, wS_fr, wS_rs, wS_never, wAdd_d, wMul_d, addKI, addKS, addKL, addKT, mulKI, mulKL, wSubI, wFdivI, wModI, wPowI, mkLt, mkLf, asgT_nm, asgT_tp, asgTs_nil, asgTs_cons, put_fn, put_glob, put_kc, frzKL, wCeq, wCne, wClt, wCle, wCleS, wCgt, wCge, wCis, wCisn, wCin, wCnin, wIn_d, inKS, inKL, inKTI, inKTS, inKD, wIx_d, ixKL, ixKT, ixKSc, ixKS, ixKD, wSlc_d, slcKL, slcKT, slcKS, wSet_h, wBIlen, wBIabs, wBIintI, wBIintB, wBIintS, wBIstrI, wBIstrS, wBIlist, wBItuple, wBIall, wBIany, wBImax1, wBImin1, wBIsum, wBIsorted, wBImin2, wBImax2, wMTappend, wMTpop, wMTclear, wMTjoin, wMTsplit, isRcvA, isRcvP, isRcvC, isRcvJ, isRcvSp, ex_lst, ex_lst0, b_law_same_2]
        refine br_yes (by decide) ⟨l, by omega, by omega, rfl, ?_⟩
        try simp only [wSs_nil, wSs_cons, wAnd_one, wAnd_cons, wOr_one, wOr_cons, Tgs.len, eq_self, if_true, if_false, rsvN, rsvB, rsvI, rsvS, rsvT, rsvLs, rsvSc, rsvE, rsvH, isNonN, isNonB, isNonI, isNonS, isNonT, isNonL, isNonO, lenS, lenL, lenT, lenSc, seqL, seqT, kdN, kdB, kdI, kdS, kdT, kdL, Kd.isOf, br_t, br_f, itOk, VS.cellOf, wipeE, List.map_cons, List.map_nil, List.replicate_zero, List.replicate_succ, List.cons_append, List.nil_append, Nat.sub_self, Nat.reduceSub, Nat.reduceAdd, List.getElem?_cons_zero, List.getElem?_cons_succ, List.set_cons_zero, List.set_cons_succ, List.length_cons, List.length_nil, Option.some.injEq, exists_eq_left', exists_eq_left, exists_eq', exists_eq, D.int.injEq, D.bl.injEq, D.str.injEq, D.tup.injEq, D.lst.injEq, D.loc.injEq, List.cons.injEq, and_true, true_and, hup_same, ↓reduceIte, Nat.reduceLT, Nat.reduceEqDiff, reduceCtorEq, hup_hup, exists_and_left, Cell.lst.injEq, Nat.reduceLeDiff, Nat.zero_add, Bool.false_eq_true, ixN_ofNat, atI_ofNat, plnN, plnB, plnI, plnS, plnT, plnL, plns0, plnsC, depN, depB, depI, depS, depT, depL, deps0, depsC, eqbI, eqbS, eqbT, eqbL, eqbB, eqbs0, eqbsC, Nat.zero_le, br_not, Nat.max_zero, Nat.zero_max, Nat.max_self, Bool.and_true, Bool.true_and, Bool.not_true, Bool.not_false, beq_self_eq_true, wEq, wInL, wE_var, wE_cst, wE_glob, wE_bop, wE_neg, wE_not, wE_cmp, wE_chn, wE_andv, wE_orv, wE_ite, wE_tup, wE_lst, wE_ix, wE_slc, wE_rev, wE_call, wE_bi, wE_lrng1, wE_lrng2, wE_isi, wE_isx, wE_fld, wE_mt, wE_comp, wE_frz, wE_dnew, wEs_nil, wEs_cons, wO_none, wO_some, wC_val, wC_cmp, wC_chn, wC_not, wC_and, wC_or, wAndC_nil, wAndC_cons, wOrC_nil, wOrC_cons, wI_seq, wI_sgn, wI_rng1, wI_rng2, wI_enm, wI_zip2, wI_zip3, wS_asg, wS_par, wS_asgIx, wS_aug, wS_ex, wS_ret, wS_ret0, wS_ife, wS_whl, wS_fr, wS_rs, wS_never, wAdd_d, wMul_d, addKI, addKS, addKL, addKT, mulKI, mulKL, wSubI, wFdivI, wModI, wPowI, mkLt, mkLf, asgT_nm, asgT_tp, asgTs_nil, asgTs_cons, put_fn, put_glob, put_kc, frzKL, wCeq, wCne, wClt, wCle, wCleS, wCgt, wCge, wCis, wCisn, wCin, wCnin, wIn_d, inKS, inKL, inKTI, inKTS, inKD, wIx_d, ixKL, ixKT, ixKSc, ixKS, ixKD, wSlc_d, slcKL, slcKT, slcKS, wSet_h, wBIlen, wBIabs, wBIintI, wBIintB, wBIintS, wBIstrI, wBIstrS, wBIlist, wBItuple, wBIall, wBIany, wBImax1, wBImin1, wBIsum, wBIsorted, wBImin2, wBImax2, wMTappend, wMTpop, wMTclear, wMTjoin, wMTsplit, isRcvA, isRcvP, isRcvC, isRcvJ, isRcvSp, ex_lst, ex_lst0]
        refine ⟨r, by omega, by omega, rfl, ?_⟩
        exact ⟨h, hsub_refl _, q⟩
  rw [eu] at hp hd he first
  rw [eu]
  try simp only [wSs_nil, wSs_cons, wAnd_one, wAnd_cons, wOr_one, wOr_cons, Tgs.len, eq_self, if_true, if_false, rsvN, rsvB, rsvI, rsvS, rsvT, rsvLs, rsvSc, rsvE, rsvH, isNonN, isNonB, isNonI, isNonS, isNonT, isNonL, isNonO, lenS, lenL, lenT, lenSc, seqL, seqT, kdN, kdB, kdI, kdS, kdT, kdL, Kd.isOf, br_t, br_f, itOk, VS.cellOf, wipeE, List.map_cons, List.map_nil, List.replicate_zero, List.replicate_succ, List.cons_append, List.nil_append, Nat.sub_self, Nat.reduceSub, Nat.reduceAdd, List.getElem?_cons_zero, List.getElem?_cons_succ, List.set_cons_zero, List.set_cons_succ, List.length_cons, List.length_nil, Option.some.injEq, exists_eq_left', exists_eq_left, exists_eq', exists_eq, D.int.injEq, D.bl.injEq, D.str.injEq, D.tup.injEq, D.lst.injEq, D.loc.injEq, List.cons.injEq, and_true, true_and, hup_same, ↓reduceIte, Nat.reduceLT, Nat.reduceEqDiff, reduceCtorEq, hup_hup, exists_and_left, Cell.lst.injEq, Nat.reduceLeDiff, Nat.zero_add, Bool.false_eq_true, ixN_ofNat, atI_ofNat, plnN, plnB, plnI, plnS, plnT, plnL, plns0, plnsC, depN, depB, depI, depS, depT, depL, deps0, depsC, eqbI, eqbS, eqbT, eqbL, eqbB, eqbs0, eqbsC, Nat.zero_le, br_not, Nat.max_zero, Nat.zero_max, Nat.max_self, Bool.and_true, Bool.true_and, Bool.not_true, Bool.not_false, beq_self_eq_true, wEq, wInL, wE_var, wE_cst, wE_glob, wE_bop, wE_neg, wE_not, wE_cmp, wE_chn, wE_andv, wE_orv, wE_ite, wE_tup, wE_lst, wE_ix, wE_slc, wE_rev, wE_call, wE_bi, wE_lrng1, wE_lrng2, wE_isi, wE_isx, wE_fld, wE_mt, wE_comp, wE_frz, wE_dnew, wEs_nil, wEs_cons, wO_none, wO_some, wC_val, wC_cmp, wC_chn, wC_not, wC_and, wC_or, wAndC_nil, wAndC_cons, wOrC_nil, wOrC_cons, wI_seq, wI_sgn, wI_rng1, wI_rng2, wI_enm, wI_zip2, wI_zip3, wS_asg, wS_par, wS_asgIx, wS_aug, wS_ex, wS_ret, wS_ret0, wS_ife, wS_whl, wS_fr, wS_rs, wS_never, wAdd_d, wMul_d, addKI, addKS, addKL, addKT, mulKI, mulKL, wSubI, wFdivI, wModI, wPowI, mkLt, mkLf, asgT_nm, asgT_tp, asgTs_nil, asgTs_cons, put_fn, put_glob, put_kc, frzKL, wCeq, wCne, wClt, wCle, wCleS, wCgt, wCge, wCis, wCisn, wCin, wCnin, wIn_d, inKS, inKL, inKTI, inKTS, inKD, wIx_d, ixKL, ixKT, ixKSc, ixKS, ixKD, wSlc_d, slcKL, slcKT, slcKS, wSet_h, wBIlen, wBIabs, wBIintI, wBIintB, wBIintS, wBIstrI, wBIstrS, wBIlist, wBItuple, wBIall, wBIany, wBImax1, wBImin1, wBIsum, wBIsorted, wBImin2, wBImax2, wMTappend, wMTpop, wMTclear, wMTjoin, wMTsplit, isRcvA, isRcvP, isRcvC, isRcvJ, isRcvSp, ex_lst, ex_lst0, b_law_same_0]
  rw [plnT] at hp
  rw [depT] at hd
  rw [eqbT] at he
  exact br_yes (by decide) ⟨hp, hp, ⟨by omega, by omega⟩, br_yes he first⟩
def sp_right : VSp := fun ds h Q _ => ∃ t : Tr, t.ok ∧ t.dep ≤ 20 ∧ t.txt.length ≤ 10000 ∧ ds = [t.d] ∧ Q (.bl true) h
theorem l_right (T : Tab) (t2 : T.fn 2 = sp_shown 21) (t7 : T.fn 7 = sp_read) (t12 : T.fn 12 = sp_written 21) (t13 : T.fn 13 = sp_same 21) : ∀ ds h Q X, sp_right ds h Q X → wSs T d_law_right.body (ds.map some ++ List.replicate (d_law_right.N.length - ds.length) none) h ⟨fun _ h1 => Q .non h1, Q, fun c fs _ h1 => X c fs h1⟩ := by
  rintro ds h Q X ⟨t, ok, hn, hl, rfl, q⟩
  show wSs _ b_law_right_0 [some t.d, none] h _
  try simp only [wSs_nil, wSs_cons, wAnd_one, wAnd_cons, wOr_one, wOr_cons, Tgs.len, eq_self, if_true, if_false, rsvN, rsvB, rsvI, rsvS, rsvT, rsvLs, rsvSc, rsvE, rsvH, isNonN, isNonB, isNonI, isNonS, isNonT, isNonL, isNonO, lenS, lenL, lenT, lenSc, seqL, seqT, kdN, kdB, kdI, kdS, kdT, kdL, Kd.isOf, br_t, br_f, itOk, VS.cellOf, wipeE, List.map_cons, List.map_nil, List.replicate_zero, List.replicate_succ, List.cons_append, List.nil_append, Nat.sub_self, Nat.reduceSub, Nat.reduceAdd, List.getElem?_cons_zero, List.getElem?_cons_succ, List.set_cons_zero, List.set_cons_succ, List.length_cons, List.length_nil, Option.some.injEq, exists_eq_left', exists_eq_left, exists_eq', exists_eq, D.int.injEq, D.bl.injEq, D.str.injEq, D.tup.injEq, D.lst.injEq, D.loc.injEq, List.cons.injEq, and_true, true_and, hup_same, ↓reduceIte, Nat.reduceLT, Nat.reduceEqDiff, reduceCtorEq, hup_hup, exists_and_left, Cell.lst.injEq, Nat.reduceLeDiff, Nat.zero_add, Bool.false_eq_true, ixN_ofNat, atI_ofNat, plnN, plnB, plnI, plnS, plnT, plnL, plns0, plnsC, depN, depB, depI, depS, depT, depL, deps0, depsC, eqbI, eqbS, eqbT, eqbL, eqbB, eqbs0, eqbsC, Nat.zero_le, br_not, Nat.max_zero, Nat.zero_max, Nat.max_self, Bool.and_true, Bool.true_and, Bool.not_true, Bool.not_false, beq_self_eq_true, wEq, wInL, wE_var, wE_cst, wE_glob, wE_bop, wE_neg, wE_not, wE_cmp, wE_chn, wE_andv, wE_orv, wE_ite, wE_tup, wE_lst, wE_ix, wE_slc, wE_rev, wE_call, wE_bi, wE_lrng1, wE_lrng2, wE_isi, wE_isx, wE_fld, wE_mt, wE_comp, wE_frz, wE_dnew, wEs_nil, wEs_cons, wO_none, wO_some, wC_val, wC_cmp, wC_chn, wC_not, wC_and, wC_or, wAndC_nil, wAndC_cons, wOrC_nil, wOrC_cons, wI_seq, wI_sgn, wI_rng1, wI_rng2, wI_enm, wI_zip2, wI_zip3, wS_asg, wS_par, wS_asgIx, wS_aug, wS_ex, wS_ret, wS_ret0, wS_ife, wS_whl, wS_fr, wS_rs, wS_never, wAdd_d, wMul_d, addKI, addKS, addKL, addKT, mulKI, mulKL, wSubI, wFdivI, wModI, wPowI, mkLt, mkLf, asgT_nm, asgT_tp, asgTs_nil, asgTs_cons, put_fn, put_glob, put_kc, frzKL, wCeq, wCne, wClt, wCle, wCleS, wCgt, wCge, wCis, wCisn, wCin, wCnin, wIn_d, inKS, inKL, inKTI, inKTS, inKD, wIx_d, ixKL, ixKT, ixKSc, ixKS, ixKD, wSlc_d, slcKL, slcKT, slcKS, wSet_h, wBIlen, wBIabs, wBIintI, wBIintB, wBIintS, wBIstrI, wBIstrS, wBIlist, wBItuple, wBIall, wBIany, wBImax1, wBImin1, wBIsum, wBIsorted, wBImin2, wBImax2, wMTappend, wMTpop, wMTclear, wMTjoin, wMTsplit, isRcvA, isRcvP, isRcvC, isRcvJ, isRcvSp, ex_lst, ex_lst0, b_law_right_0, t2]
  refine ⟨t, ok, by omega, hl, rfl, ?_⟩
  try simp only [wSs_nil, wSs_cons, wAnd_one, wAnd_cons, wOr_one, wOr_cons, Tgs.len, eq_self, if_true, if_false, rsvN, rsvB, rsvI, rsvS, rsvT, rsvLs, rsvSc, rsvE, rsvH, isNonN, isNonB, isNonI, isNonS, isNonT, isNonL, isNonO, lenS, lenL, lenT, lenSc, seqL, seqT, kdN, kdB, kdI, kdS, kdT, kdL, Kd.isOf, br_t, br_f, itOk, VS.cellOf, wipeE, List.map_cons, List.map_nil, List.replicate_zero, List.replicate_succ, List.cons_append, List.nil_append, Nat.sub_self, Nat.reduceSub, Nat.reduceAdd, List.getElem?_cons_zero, List.getElem?_cons_succ, List.set_cons_zero, List.set_cons_succ, List.length_cons, List.length_nil, Option.some.injEq, exists_eq_left', exists_eq_left, exists_eq', exists_eq, D.int.injEq, D.bl.injEq, D.str.injEq, D.tup.injEq, D.lst.injEq, D.loc.injEq, List.cons.injEq, and_true, true_and, hup_same, ↓reduceIte, Nat.reduceLT, Nat.reduceEqDiff, reduceCtorEq, hup_hup, exists_and_left, Cell.lst.injEq, Nat.reduceLeDiff, Nat.zero_add, Bool.false_eq_true, ixN_ofNat, atI_ofNat, plnN, plnB, plnI, plnS, plnT, plnL, plns0, plnsC, depN, depB, depI, depS, depT, depL, deps0, depsC, eqbI, eqbS, eqbT, eqbL, eqbB, eqbs0, eqbsC, Nat.zero_le, br_not, Nat.max_zero, Nat.zero_max, Nat.max_self, Bool.and_true, Bool.true_and, Bool.not_true, Bool.not_false, beq_self_eq_true, wEq, wInL, wE_var, wE_cst, wE_glob, wE_bop, wE_neg, wE_not, wE_cmp, wE_chn, wE_andv, wE_orv, wE_ite, wE_tup, wE_lst, wE_ix, wE_slc, wE_rev, wE_call, wE_bi, wE_lrng1, wE_lrng2, wE_isi, wE_isx, wE_fld, wE_mt, wE_comp, wE_frz, wE_dnew, wEs_nil, wEs_cons, wO_none, wO_some, wC_val, wC_cmp, wC_chn, wC_not, wC_and, wC_or, wAndC_nil, wAndC_cons, wOrC_nil, wOrC_cons, wI_seq, wI_sgn, wI_rng1, wI_rng2, wI_enm, wI_zip2, wI_zip3, wS_asg, wS_par, wS_asgIx, wS_aug, wS_ex, wS_ret, wS_ret0, wS_ife, wS_whl, wS_fr, wS_rs, wS_never, wAdd_d, wMul_d, addKI, addKS, addKL, addKT, mulKI, mulKL, wSubI, wFdivI, wModI, wPowI, mkLt, mkLf, asgT_nm, asgT_tp, asgTs_nil, asgTs_cons, put_fn, put_glob, put_kc, frzKL, wCeq, wCne, wClt, wCle, wCleS, wCgt, wCge, wCis, wCisn, wCin, wCnin, wIn_d, inKS, inKL, inKTI, inKTS, inKD, wIx_d, ixKL, ixKT, ixKSc, ixKS, ixKD, wSlc_d, slcKL, slcKT, slcKS, wSet_h, wBIlen, wBIabs, wBIintI, wBIintB, wBIintS, wBIstrI, wBIstrS, wBIlist, wBItuple, wBIall, wBIany, wBImax1, wBImin1, wBIsum, wBIsorted, wBImin2, wBImax2, wMTappend, wMTpop, wMTclear, wMTjoin, wMTsplit, isRcvA, isRcvP, isRcvC, isRcvJ, isRcvSp, ex_lst, ex_lst0, b_law_right_1, t12, t7, t13]
  refine br_yes (by decide) ⟨t, ok, by omega, hl, rfl, ?_⟩
  try simp only [wSs_nil, wSs_cons, wAnd_one, wAnd_cons, wOr_one, wOr_cons, Tgs.len, eq_self, if_true, if_false, rsvN, rsvB, rsvI, rsvS, rsvT, rsvLs, rsvSc, rsvE, rsvH, isNonN, isNonB, isNonI, isNonS, isNonT, isNonL, isNonO, lenS, lenL, lenT, lenSc, seqL, seqT, kdN, kdB, kdI, kdS, kdT, kdL, Kd.isOf, br_t, br_f, itOk, VS.cellOf, wipeE, List.map_cons, List.map_nil, List.replicate_zero, List.replicate_succ, List.cons_append, List.nil_append, Nat.sub_self, Nat.reduceSub, Nat.reduceAdd, List.getElem?_cons_zero, List.getElem?_cons_succ, List.set_cons_zero, List.set_cons_succ, List.length_cons, List.length_nil, Option.some.injEq, exists_eq_left', exists_eq_left, exists_eq', exists_eq, D.int.injEq, D.bl.injEq, D.str.injEq, D.tup.injEq, D.lst.injEq, D.loc.injEq, List.cons.injEq, and_true, true_and, hup_same, ↓reduceIte, Nat.reduceLT, Nat.reduceEqDiff, reduceCtorEq, hup_hup, exists_and_left, Cell.lst.injEq, Nat.reduceLeDiff, Nat.zero_add, Bool.false_eq_true, ixN_ofNat, atI_ofNat, plnN, plnB, plnI, plnS, plnT, plnL, plns0, plnsC, depN, depB, depI, depS, depT, depL, deps0, depsC, eqbI, eqbS, eqbT, eqbL, eqbB, eqbs0, eqbsC, Nat.zero_le, br_not, Nat.max_zero, Nat.zero_max, Nat.max_self, Bool.and_true, Bool.true_and, Bool.not_true, Bool.not_false, beq_self_eq_true, wEq, wInL, wE_var, wE_cst, wE_glob, wE_bop, wE_neg, wE_not, wE_cmp, wE_chn, wE_andv, wE_orv, wE_ite, wE_tup, wE_lst, wE_ix, wE_slc, wE_rev, wE_call, wE_bi, wE_lrng1, wE_lrng2, wE_isi, wE_isx, wE_fld, wE_mt, wE_comp, wE_frz, wE_dnew, wEs_nil, wEs_cons, wO_none, wO_some, wC_val, wC_cmp, wC_chn, wC_not, wC_and, wC_or, wAndC_nil, wAndC_cons, wOrC_nil, wOrC_cons, wI_seq, wI_sgn, wI_rng1, wI_rng2, wI_enm, wI_zip2, wI_zip3, wS_asg, wS_par, wS_asgIx, wS_aug, wS_ex, wS_ret, wS_ret0, wS_ife, wS_whl, wS_fr, wS_rs, wS_never, wAdd_d, wMul_d, addKI, addKS, addKL, addKT, mulKI, mulKL, wSubI, wFdivI, wModI, wPowI, mkLt, mkLf, asgT_nm, asgT_tp, asgTs_nil, asgTs_cons, put_fn, put_glob, put_kc, frzKL, wCeq, wCne, wClt, wCle, wCleS, wCgt, wCge, wCis, wCisn, wCin, wCnin, wIn_d, inKS, inKL, inKTI, inKTS, inKD, wIx_d, ixKL, ixKT, ixKSc, ixKS, ixKD, wSlc_d, slcKL, slcKT, slcKS, wSet_h, wBIlen, wBIabs, wBIintI, wBIintB, wBIintS, wBIstrI, wBIstrS, wBIlist, wBItuple, wBIall, wBIany, wBImax1, wBImin1, wBIsum, wBIsorted, wBImin2, wBImax2, wMTappend, wMTpop, wMTclear, wMTjoin, wMTsplit, isRcvA, isRcvP, isRcvC, isRcvJ, isRcvSp, ex_lst, ex_lst0]
  refine ⟨t, ok, hn, hl, rfl, t, by omega, by omega, rfl, ?_⟩
  exact ⟨h, hsub_refl _, q⟩
def sp_law : VSp := fun ds h Q _ => ∃ ns : List Int, ns.length ≤ 63 ∧ ds = [.scr ns] ∧ Q (.bl true) h
theorem l_law (T : Tab) (t11 : T.fn 11 = sp_tree) (t14 : T.fn 14 = sp_right) : ∀ ds h Q X, sp_law ds h Q X → wSs T d_law.body (ds.map some ++ List.replicate (d_law.N.length - ds.length) none) h ⟨fun _ h1 => Q .non h1, Q, fun c fs _ h1 => X c fs h1⟩ := by
  rintro ds h Q X ⟨ns, hns, rfl, q⟩
  show wSs _ b_law_0 [some (.scr ns), none, none, none, none] h _
  try simp only [wSs_nil, wSs_cons, wAnd_one, wAnd_cons, wOr_one, wOr_cons, Tgs.len, eq_self, if_true, if_false, rsvN, rsvB, rsvI, rsvS, rsvT, rsvLs, rsvSc, rsvE, rsvH, isNonN, isNonB, isNonI, isNonS, isNonT, isNonL, isNonO, lenS, lenL, lenT, lenSc, seqL, seqT, kdN, kdB, kdI, kdS, kdT, kdL, Kd.isOf, br_t, br_f, itOk, VS.cellOf, wipeE, List.map_cons, List.map_nil, List.replicate_zero, List.replicate_succ, List.cons_append, List.nil_append, Nat.sub_self, Nat.reduceSub, Nat.reduceAdd, List.getElem?_cons_zero, List.getElem?_cons_succ, List.set_cons_zero, List.set_cons_succ, List.length_cons, List.length_nil, Option.some.injEq, exists_eq_left', exists_eq_left, exists_eq', exists_eq, D.int.injEq, D.bl.injEq, D.str.injEq, D.tup.injEq, D.lst.injEq, D.loc.injEq, List.cons.injEq, and_true, true_and, hup_same, ↓reduceIte, Nat.reduceLT, Nat.reduceEqDiff, reduceCtorEq, hup_hup, exists_and_left, Cell.lst.injEq, Nat.reduceLeDiff, Nat.zero_add, Bool.false_eq_true, ixN_ofNat, atI_ofNat, plnN, plnB, plnI, plnS, plnT, plnL, plns0, plnsC, depN, depB, depI, depS, depT, depL, deps0, depsC, eqbI, eqbS, eqbT, eqbL, eqbB, eqbs0, eqbsC, Nat.zero_le, br_not, Nat.max_zero, Nat.zero_max, Nat.max_self, Bool.and_true, Bool.true_and, Bool.not_true, Bool.not_false, beq_self_eq_true, wEq, wInL, wE_var, wE_cst, wE_glob, wE_bop, wE_neg, wE_not, wE_cmp, wE_chn, wE_andv, wE_orv, wE_ite, wE_tup, wE_lst, wE_ix, wE_slc, wE_rev, wE_call, wE_bi, wE_lrng1, wE_lrng2, wE_isi, wE_isx, wE_fld, wE_mt, wE_comp, wE_frz, wE_dnew, wEs_nil, wEs_cons, wO_none, wO_some, wC_val, wC_cmp, wC_chn, wC_not, wC_and, wC_or, wAndC_nil, wAndC_cons, wOrC_nil, wOrC_cons, wI_seq, wI_sgn, wI_rng1, wI_rng2, wI_enm, wI_zip2, wI_zip3, wS_asg, wS_par, wS_asgIx, wS_aug, wS_ex, wS_ret, wS_ret0, wS_ife, wS_whl, wS_fr, wS_rs, wS_never, wAdd_d, wMul_d, addKI, addKS, addKL, addKT, mulKI, mulKL, wSubI, wFdivI, wModI, wPowI, mkLt, mkLf, asgT_nm, asgT_tp, asgTs_nil, asgTs_cons, put_fn, put_glob, put_kc, frzKL, wCeq, wCne, wClt, wCle, wCleS, wCgt, wCge, wCis, wCisn, wCin, wCnin, wIn_d, inKS, inKL, inKTI, inKTS, inKD, wIx_d, ixKL, ixKT, ixKSc, ixKS, ixKD, wSlc_d, slcKL, slcKT, slcKS, wSet_h, wBIlen, wBIabs, wBIintI, wBIintB, wBIintS, wBIstrI, wBIstrS, wBIlist, wBItuple, wBIall, wBIany, wBImax1, wBImin1, wBIsum, wBIsorted, wBImin2, wBImax2, wMTappend, wMTpop, wMTclear, wMTjoin, wMTsplit, isRcvA, isRcvP, isRcvC, isRcvJ, isRcvSp, ex_lst, ex_lst0, b_law_0, t11]
  refine ⟨ns, hns, rfl, fun t ok hd hlv => ?_⟩
  have htx : ∀ {t : Tr}, t.ok → t.lv ≤ 400 → t.txt.length ≤ 10000 := fun ok h => by have := Tr.txt_len ok; omega
  try simp only [wSs_nil, wSs_cons, wAnd_one, wAnd_cons, wOr_one, wOr_cons, Tgs.len, eq_self, if_true, if_false, rsvN, rsvB, rsvI, rsvS, rsvT, rsvLs, rsvSc, rsvE, rsvH, isNonN, isNonB, isNonI, isNonS, isNonT, isNonL, isNonO, lenS, lenL, lenT, lenSc, seqL, seqT, kdN, kdB, kdI, kdS, kdT, kdL, Kd.isOf, br_t, br_f, itOk, VS.cellOf, wipeE, List.map_cons, List.map_nil, List.replicate_zero, List.replicate_succ, List.cons_append, List.nil_append, Nat.sub_self, Nat.reduceSub, Nat.reduceAdd, List.getElem?_cons_zero, List.getElem?_cons_succ, List.set_cons_zero, List.set_cons_succ, List.length_cons, List.length_nil, Option.some.injEq, exists_eq_left', exists_eq_left, exists_eq', exists_eq, D.int.injEq, D.bl.injEq, D.str.injEq, D.tup.injEq, D.lst.injEq, D.loc.injEq, List.cons.injEq, and_true, true_and, hup_same, ↓reduceIte, Nat.reduceLT, Nat.reduceEqDiff, reduceCtorEq, hup_hup, exists_and_left, Cell.lst.injEq, Nat.reduceLeDiff, Nat.zero_add, Bool.false_eq_true, ixN_ofNat, atI_ofNat, plnN, plnB, plnI, plnS, plnT, plnL, plns0, plnsC, depN, depB, depI, depS, depT, depL, deps0, depsC, eqbI, eqbS, eqbT, eqbL, eqbB, eqbs0, eqbsC, Nat.zero_le, br_not, Nat.max_zero, Nat.zero_max, Nat.max_self, Bool.and_true, Bool.true_and, Bool.not_true, Bool.not_false, beq_self_eq_true, wEq, wInL, wE_var, wE_cst, wE_glob, wE_bop, wE_neg, wE_not, wE_cmp, wE_chn, wE_andv, wE_orv, wE_ite, wE_tup, wE_lst, wE_ix, wE_slc, wE_rev, wE_call, wE_bi, wE_lrng1, wE_lrng2, wE_isi, wE_isx, wE_fld, wE_mt, wE_comp, wE_frz, wE_dnew, wEs_nil, wEs_cons, wO_none, wO_some, wC_val, wC_cmp, wC_chn, wC_not, wC_and, wC_or, wAndC_nil, wAndC_cons, wOrC_nil, wOrC_cons, wI_seq, wI_sgn, wI_rng1, wI_rng2, wI_enm, wI_zip2, wI_zip3, wS_asg, wS_par, wS_asgIx, wS_aug, wS_ex, wS_ret, wS_ret0, wS_ife, wS_whl, wS_fr, wS_rs, wS_never, wAdd_d, wMul_d, addKI, addKS, addKL, addKT, mulKI, mulKL, wSubI, wFdivI, wModI, wPowI, mkLt, mkLf, asgT_nm, asgT_tp, asgTs_nil, asgTs_cons, put_fn, put_glob, put_kc, frzKL, wCeq, wCne, wClt, wCle, wCleS, wCgt, wCge, wCis, wCisn, wCin, wCnin, wIn_d, inKS, inKL, inKTI, inKTS, inKD, wIx_d, ixKL, ixKT, ixKSc, ixKS, ixKD, wSlc_d, slcKL, slcKT, slcKS, wSet_h, wBIlen, wBIabs, wBIintI, wBIintB, wBIintS, wBIstrI, wBIstrS, wBIlist, wBItuple, wBIall, wBIany, wBImax1, wBImin1, wBIsum, wBIsorted, wBImin2, wBImax2, wMTappend, wMTpop, wMTclear, wMTjoin, wMTsplit, isRcvA, isRcvP, isRcvC, isRcvJ, isRcvSp, ex_lst, ex_lst0, b_law_1, t14]
  refine ⟨t, ok, hd, htx ok (by omega), rfl, ?_⟩
  try simp only [wSs_nil, wSs_cons, wAnd_one, wAnd_cons, wOr_one, wOr_cons, Tgs.len, eq_self, if_true, if_false, rsvN, rsvB, rsvI, rsvS, rsvT, rsvLs, rsvSc, rsvE, rsvH, isNonN, isNonB, isNonI, isNonS, isNonT, isNonL, isNonO, lenS, lenL, lenT, lenSc, seqL, seqT, kdN, kdB, kdI, kdS, kdT, kdL, Kd.isOf, br_t, br_f, itOk, VS.cellOf, wipeE, List.map_cons, List.map_nil, List.replicate_zero, List.replicate_succ, List.cons_append, List.nil_append, Nat.sub_self, Nat.reduceSub, Nat.reduceAdd, List.getElem?_cons_zero, List.getElem?_cons_succ, List.set_cons_zero, List.set_cons_succ, List.length_cons, List.length_nil, Option.some.injEq, exists_eq_left', exists_eq_left, exists_eq', exists_eq, D.int.injEq, D.bl.injEq, D.str.injEq, D.tup.injEq, D.lst.injEq, D.loc.injEq, List.cons.injEq, and_true, true_and, hup_same, ↓reduceIte, Nat.reduceLT, Nat.reduceEqDiff, reduceCtorEq, hup_hup, exists_and_left, Cell.lst.injEq, Nat.reduceLeDiff, Nat.zero_add, Bool.false_eq_true, ixN_ofNat, atI_ofNat, plnN, plnB, plnI, plnS, plnT, plnL, plns0, plnsC, depN, depB, depI, depS, depT, depL, deps0, depsC, eqbI, eqbS, eqbT, eqbL, eqbB, eqbs0, eqbsC, Nat.zero_le, br_not, Nat.max_zero, Nat.zero_max, Nat.max_self, Bool.and_true, Bool.true_and, Bool.not_true, Bool.not_false, beq_self_eq_true, wEq, wInL, wE_var, wE_cst, wE_glob, wE_bop, wE_neg, wE_not, wE_cmp, wE_chn, wE_andv, wE_orv, wE_ite, wE_tup, wE_lst, wE_ix, wE_slc, wE_rev, wE_call, wE_bi, wE_lrng1, wE_lrng2, wE_isi, wE_isx, wE_fld, wE_mt, wE_comp, wE_frz, wE_dnew, wEs_nil, wEs_cons, wO_none, wO_some, wC_val, wC_cmp, wC_chn, wC_not, wC_and, wC_or, wAndC_nil, wAndC_cons, wOrC_nil, wOrC_cons, wI_seq, wI_sgn, wI_rng1, wI_rng2, wI_enm, wI_zip2, wI_zip3, wS_asg, wS_par, wS_asgIx, wS_aug, wS_ex, wS_ret, wS_ret0, wS_ife, wS_whl, wS_fr, wS_rs, wS_never, wAdd_d, wMul_d, addKI, addKS, addKL, addKT, mulKI, mulKL, wSubI, wFdivI, wModI, wPowI, mkLt, mkLf, asgT_nm, asgT_tp, asgTs_nil, asgTs_cons, put_fn, put_glob, put_kc, frzKL, wCeq, wCne, wClt, wCle, wCleS, wCgt, wCge, wCis, wCisn, wCin, wCnin, wIn_d, inKS, inKL, inKTI, inKTS, inKD, wIx_d, ixKL, ixKT, ixKSc, ixKS, ixKD, wSlc_d, slcKL, slcKT, slcKS, wSet_h, wBIlen, wBIabs, wBIintI, wBIintB, wBIintS, wBIstrI, wBIstrS, wBIlist, wBItuple, wBIall, wBIany, wBImax1, wBImin1, wBIsum, wBIsorted, wBImin2, wBImax2, wMTappend, wMTpop, wMTclear, wMTjoin, wMTsplit, isRcvA, isRcvP, isRcvC, isRcvJ, isRcvSp, ex_lst, ex_lst0, b_law_2]
  refine wWhl_ind (fun n r h' => ∃ t : Tr, n = t.dep ∧ t.ok ∧ t.dep ≤ 20 ∧ t.lv ≤ 63 ∧ r = [some (.scr ns), some t.d, none, none, none] ∧ h' = h) ?_ (n := t.dep) ⟨t, rfl, ok, hd, hlv, rfl, rfl⟩
  rintro n r h' N ⟨t, rfl, ok, hd, hlv, rfl, rfl⟩ hN
  have out : wSs T b_law_3 [some (.scr ns), some t.d, none, none, none] h' ⟨fun _ h1 => Q .non h1, Q, fun c fs _ h1 => X c fs h1⟩ := by
    try simp only [wSs_nil, wSs_cons, wAnd_one, wAnd_cons, wOr_one, wOr_cons, Tgs.len, eq_self, if_true, if_false, rsvN, rsvB, rsvI, rsvS, rsvT, rsvLs, rsvSc, rsvE, rsvH, isNonN, isNonB, isNonI, isNonS, isNonT, isNonL, isNonO, lenS, lenL, lenT, lenSc, seqL, seqT, kdN, kdB, kdI, kdS, kdT, kdL, Kd.isOf, br_t, br_f, itOk, VS.cellOf, wipeE, List.map_cons, List.map_nil, List.replicate_zero, List.replicate_succ, List.cons_append, List.nil_append, Nat.sub_self, Nat.reduceSub, Nat.reduceAdd, List.getElem?_cons_zero, List.getElem?_cons_succ, List.set_cons_zero, List.set_cons_succ, List.length_cons, List.length_nil, Option.some.injEq, exists_eq_left', exists_eq_left, exists_eq', exists_eq, D.int.injEq, D.bl.injEq, D.str.injEq, D.tup.injEq, D.lst.injEq, D.loc.injEq, List.cons.injEq, and_true, true_and, hup_same, ↓reduceIte, Nat.reduceLT, Nat.reduceEqDiff, reduceCtorEq, hup_hup, exists_and_left, Cell.lst.injEq, Nat.reduceLeDiff, Nat.zero_add, Bool.false_eq_true, ixN_ofNat, atI_ofNat, plnN, plnB, plnI, plnS, plnT, plnL, plns0, plnsC, depN, depB, depI, depS, depT, depL, deps0, depsC, eqbI, eqbS, eqbT, eqbL, eqbB, eqbs0, eqbsC, Nat.zero_le, br_not, Nat.max_zero, Nat.zero_max, Nat.max_self, Bool.and_true, Bool.true_and, Bool.not_true, Bool.not_false, beq_self_eq_true, wEq, wInL, wE_var, wE_cst, wE_glob, wE_bop, wE_neg, wE_not, wE_cmp, wE_chn, wE_andv, wE_orv, wE_ite, wE_tup, wE_lst, wE_ix, wE_slc, wE_rev, wE_call, wE_bi, wE_lrng1, wE_lrng2, wE_isi, wE_isx, wE_fld, wE_mt, wE_comp, wE_frz, wE_dnew, wEs_nil, wEs_cons, wO_none, wO_some, wC_val, wC_cmp, wC_chn, wC_not, wC_and, wC_or, wAndC_nil, wAndC_cons, wOrC_nil, wOrC_cons, wI_seq, wI_sgn, wI_rng1, wI_rng2, wI_enm, wI_zip2, wI_zip3, wS_asg, wS_par, wS_asgIx, wS_aug, wS_ex, wS_ret, wS_ret0, wS_ife, wS_whl, wS_fr, wS_rs, wS_never, wAdd_d, wMul_d, addKI, addKS, addKL, addKT, mulKI, mulKL, wSubI, wFdivI, wModI, wPowI, mkLt, mkLf, asgT_nm, asgT_tp, asgTs_nil, asgTs_cons, put_fn, put_glob, put_kc, frzKL, wCeq, wCne, wClt, wCle, wCleS, wCgt, wCge, wCis, wCisn, wCin, wCnin, wIn_d, inKS, inKL, inKTI, inKTS, inKD, wIx_d, ixKL, ixKT, ixKSc, ixKS, ixKD, wSlc_d, slcKL, slcKT, slcKS, wSet_h, wBIlen, wBIabs, wBIintI, wBIintB, wBIintS, wBIstrI, wBIstrS, wBIlist, wBItuple, wBIall, wBIany, wBImax1, wBImin1, wBIsum, wBIsorted, wBImin2, wBImax2, wMTappend, wMTpop, wMTclear, wMTjoin, wMTsplit, isRcvA, isRcvP, isRcvC, isRcvJ, isRcvSp, ex_lst, ex_lst0, b_law_3, b_law_4]
    refine ⟨by decide, by unfold rngOk; rw [lim_is]; omega, ?_⟩
    refine wFor_ind (fun xs r h => h = h' ∧ ∃ (w : Tr) (o : Option D), w.ok ∧ w.dep + xs.length ≤ 20 ∧ w.lv + xs.length ≤ 21 ∧ (∀ x ∈ xs, ∃ k : Nat, x = .int k ∧ k < 20) ∧ r = [some (.scr ns), some t.d, some w.d, o, none]) ?_ ?_ ⟨rfl, .turned, none, trivial, by rw [rngL_length]; decide, by rw [rngL_length]; decide, ?_, rfl⟩
    · rintro x xs r h N ⟨rfl, w, o, wok, wd, wl, hx, rfl⟩ hN
      obtain ⟨k, rfl, hk⟩ := hx x (by simp)
      have hx' : ∀ x ∈ xs, ∃ k : Nat, x = .int k ∧ k < 20 := fun x h => hx x (by simp [h])
      have wd : w.dep + (xs.length + 1) ≤ 20 := wd
      have wl : w.lv + (xs.length + 1) ≤ 21 := wl
      refine ⟨trivial, ?_⟩
      try simp only [wSs_nil, wSs_cons, wAnd_one, wAnd_cons, wOr_one, wOr_cons, Tgs.len, eq_self, if_true, if_false, rsvN, rsvB, rsvI, rsvS, rsvT, rsvLs, rsvSc, rsvE, rsvH, isNonN, isNonB, isNonI, isNonS, isNonT, isNonL, isNonO, lenS, lenL, lenT, lenSc, seqL, seqT, kdN, kdB, kdI, kdS, kdT, kdL, Kd.isOf, br_t, br_f, itOk, VS.cellOf, wipeE, List.map_cons, List.map_nil, List.replicate_zero, List.replicate_succ, List.cons_append, List.nil_append, Nat.sub_self, Nat.reduceSub, Nat.reduceAdd, List.getElem?_cons_zero, List.getElem?_cons_succ, List.set_cons_zero, List.set_cons_succ, List.length_cons, List.length_nil, Option.some.injEq, exists_eq_left', exists_eq_left, exists_eq', exists_eq, D.int.injEq, D.bl.injEq, D.str.injEq, D.tup.injEq, D.lst.injEq, D.loc.injEq, List.cons.injEq, and_true, true_and, hup_same, ↓reduceIte, Nat.reduceLT, Nat.reduceEqDiff, reduceCtorEq, hup_hup, exists_and_left, Cell.lst.injEq, Nat.reduceLeDiff, Nat.zero_add, Bool.false_eq_true, ixN_ofNat, atI_ofNat, plnN, plnB, plnI, plnS, plnT, plnL, plns0, plnsC, depN, depB, depI, depS, depT, depL, deps0, depsC, eqbI, eqbS, eqbT, eqbL, eqbB, eqbs0, eqbsC, Nat.zero_le, br_not, Nat.max_zero, Nat.zero_max, Nat.max_self, Bool.and_true, Bool.true_and, Bool.not_true, Bool.not_false, beq_self_eq_true, wEq, wInL, wE_var, wE_cst, wE_glob, wE_bop, wE_neg, wE_not, wE_cmp, wE_chn, wE_andv, wE_orv, wE_ite, wE_tup, wE_lst, wE_ix, wE_slc, wE_rev, wE_call, wE_bi, wE_lrng1, wE_lrng2, wE_isi, wE_isx, wE_fld, wE_mt, wE_comp, wE_frz, wE_dnew, wEs_nil, wEs_cons, wO_none, wO_some, wC_val, wC_cmp, wC_chn, wC_not, wC_and, wC_or, wAndC_nil, wAndC_cons, wOrC_nil, wOrC_cons, wI_seq, wI_sgn, wI_rng1, wI_rng2, wI_enm, wI_zip2, wI_zip3, wS_asg, wS_par, wS_asgIx, wS_aug, wS_ex, wS_ret, wS_ret0, wS_ife, wS_whl, wS_fr, wS_rs, wS_never, wAdd_d, wMul_d, addKI, addKS, addKL, addKT, mulKI, mulKL, wSubI, wFdivI, wModI, wPowI, mkLt, mkLf, asgT_nm, asgT_tp, asgTs_nil, asgTs_cons, put_fn, put_glob, put_kc, frzKL, wCeq, wCne, wClt, wCle, wCleS, wCgt, wCge, wCis, wCisn, wCin, wCnin, wIn_d, inKS, inKL, inKTI, inKTS, inKD, wIx_d, ixKL, ixKT, ixKSc, ixKS, ixKD, wSlc_d, slcKL, slcKT, slcKS, wSet_h, wBIlen, wBIabs, wBIintI, wBIintB, wBIintS, wBIstrI, wBIstrS, wBIlist, wBItuple, wBIall, wBIany, wBImax1, wBImin1, wBIsum, wBIsorted, wBImin2, wBImax2, wMTappend, wMTpop, wMTclear, wMTjoin, wMTsplit, isRcvA, isRcvP, isRcvC, isRcvJ, isRcvSp, ex_lst, ex_lst0, b_law_4a_0]
      refine ⟨by decide, by decide, by decide, by decide, by decide, by rw [lim_is]; omega, by decide, ?_⟩
      have hm : ((ns.length : Int) + (k : Int)) % 2 = 0 ∨ ((ns.length : Int) + (k : Int)) % 2 = 1 := by omega
      rcases hm with hm | hm
      · rw [hm]
        refine ⟨_, rfl, hN _ _ ⟨rfl, .split k w (.cut 0 11), _, ⟨hk, wok, by decide, by decide⟩, ?_, ?_, hx', rfl⟩⟩
        · show max w.dep 0 + 1 + xs.length ≤ 20; omega
        · show w.lv + 1 + xs.length ≤ 21; omega
      · rw [hm]
        refine ⟨_, rfl, hN _ _ ⟨rfl, .split k (.cut 11 0) w, _, ⟨hk, ⟨by decide, by decide⟩, wok⟩, ?_, ?_, hx', rfl⟩⟩
        · show max 0 w.dep + 1 + xs.length ≤ 20; omega
        · show 1 + w.lv + xs.length ≤ 21; omega
    · rintro r h ⟨rfl, w, o, wok, wd, wl, _, rfl⟩
      refine ⟨trivial, ?_⟩
      try simp only [wSs_nil, wSs_cons, wAnd_one, wAnd_cons, wOr_one, wOr_cons, Tgs.len, eq_self, if_true, if_false, rsvN, rsvB, rsvI, rsvS, rsvT, rsvLs, rsvSc, rsvE, rsvH, isNonN, isNonB, isNonI, isNonS, isNonT, isNonL, isNonO, lenS, lenL, lenT, lenSc, seqL, seqT, kdN, kdB, kdI, kdS, kdT, kdL, Kd.isOf, br_t, br_f, itOk, VS.cellOf, wipeE, List.map_cons, List.map_nil, List.replicate_zero, List.replicate_succ, List.cons_append, List.nil_append, Nat.sub_self, Nat.reduceSub, Nat.reduceAdd, List.getElem?_cons_zero, List.getElem?_cons_succ, List.set_cons_zero, List.set_cons_succ, List.length_cons, List.length_nil, Option.some.injEq, exists_eq_left', exists_eq_left, exists_eq', exists_eq, D.int.injEq, D.bl.injEq, D.str.injEq, D.tup.injEq, D.lst.injEq, D.loc.injEq, List.cons.injEq, and_true, true_and, hup_same, ↓reduceIte, Nat.reduceLT, Nat.reduceEqDiff, reduceCtorEq, hup_hup, exists_and_left, Cell.lst.injEq, Nat.reduceLeDiff, Nat.zero_add, Bool.false_eq_true, ixN_ofNat, atI_ofNat, plnN, plnB, plnI, plnS, plnT, plnL, plns0, plnsC, depN, depB, depI, depS, depT, depL, deps0, depsC, eqbI, eqbS, eqbT, eqbL, eqbB, eqbs0, eqbsC, Nat.zero_le, br_not, Nat.max_zero, Nat.zero_max, Nat.max_self, Bool.and_true, Bool.true_and, Bool.not_true, Bool.not_false, beq_self_eq_true, wEq, wInL, wE_var, wE_cst, wE_glob, wE_bop, wE_neg, wE_not, wE_cmp, wE_chn, wE_andv, wE_orv, wE_ite, wE_tup, wE_lst, wE_ix, wE_slc, wE_rev, wE_call, wE_bi, wE_lrng1, wE_lrng2, wE_isi, wE_isx, wE_fld, wE_mt, wE_comp, wE_frz, wE_dnew, wEs_nil, wEs_cons, wO_none, wO_some, wC_val, wC_cmp, wC_chn, wC_not, wC_and, wC_or, wAndC_nil, wAndC_cons, wOrC_nil, wOrC_cons, wI_seq, wI_sgn, wI_rng1, wI_rng2, wI_enm, wI_zip2, wI_zip3, wS_asg, wS_par, wS_asgIx, wS_aug, wS_ex, wS_ret, wS_ret0, wS_ife, wS_whl, wS_fr, wS_rs, wS_never, wAdd_d, wMul_d, addKI, addKS, addKL, addKT, mulKI, mulKL, wSubI, wFdivI, wModI, wPowI, mkLt, mkLf, asgT_nm, asgT_tp, asgTs_nil, asgTs_cons, put_fn, put_glob, put_kc, frzKL, wCeq, wCne, wClt, wCle, wCleS, wCgt, wCge, wCis, wCisn, wCin, wCnin, wIn_d, inKS, inKL, inKTI, inKTS, inKD, wIx_d, ixKL, ixKT, ixKSc, ixKS, ixKD, wSlc_d, slcKL, slcKT, slcKS, wSet_h, wBIlen, wBIabs, wBIintI, wBIintB, wBIintS, wBIstrI, wBIstrS, wBIlist, wBItuple, wBIall, wBIany, wBImax1, wBImin1, wBIsum, wBIsorted, wBImin2, wBImax2, wMTappend, wMTpop, wMTclear, wMTjoin, wMTsplit, isRcvA, isRcvP, isRcvC, isRcvJ, isRcvSp, ex_lst, ex_lst0, b_law_5, b_law_6]
      refine ⟨by decide, by unfold rngOk; rw [lim_is]; omega, ?_⟩
      refine wFor_ind (fun xs r h' => h' = h ∧ ∃ (v : Tr) (o : Option D), v.ok ∧ v.dep + xs.length ≤ 8 ∧ v.lv * 2 ^ xs.length ≤ 256 ∧ (∀ x ∈ xs, ∃ k : Nat, x = .int k ∧ k < 8) ∧ r = [some (.scr ns), some t.d, some w.d, o, some v.d]) ?_ ?_ ⟨rfl, .turned, _, trivial, by rw [rngL_length]; decide, by rw [rngL_length]; decide, ?_, rfl⟩
      · rintro x xs r h N ⟨rfl, v, o, vok, vd, vl, hx, rfl⟩ hN
        obtain ⟨k, rfl, hk⟩ := hx x (by simp)
        have hx' : ∀ x ∈ xs, ∃ k : Nat, x = .int k ∧ k < 8 := fun x h => hx x (by simp [h])
        have vd : v.dep + (xs.length + 1) ≤ 8 := vd
        have vl : v.lv * 2 ^ (xs.length + 1) ≤ 256 := vl
        refine ⟨trivial, ?_⟩
        try simp only [wSs_nil, wSs_cons, wAnd_one, wAnd_cons, wOr_one, wOr_cons, Tgs.len, eq_self, if_true, if_false, rsvN, rsvB, rsvI, rsvS, rsvT, rsvLs, rsvSc, rsvE, rsvH, isNonN, isNonB, isNonI, isNonS, isNonT, isNonL, isNonO, lenS, lenL, lenT, lenSc, seqL, seqT, kdN, kdB, kdI, kdS, kdT, kdL, Kd.isOf, br_t, br_f, itOk, VS.cellOf, wipeE, List.map_cons, List.map_nil, List.replicate_zero, List.replicate_succ, List.cons_append, List.nil_append, Nat.sub_self, Nat.reduceSub, Nat.reduceAdd, List.getElem?_cons_zero, List.getElem?_cons_succ, List.set_cons_zero, List.set_cons_succ, List.length_cons, List.length_nil, Option.some.injEq, exists_eq_left', exists_eq_left, exists_eq', exists_eq, D.int.injEq, D.bl.injEq, D.str.injEq, D.tup.injEq, D.lst.injEq, D.loc.injEq, List.cons.injEq, and_true, true_and, hup_same, ↓reduceIte, Nat.reduceLT, Nat.reduceEqDiff, reduceCtorEq, hup_hup, exists_and_left, Cell.lst.injEq, Nat.reduceLeDiff, Nat.zero_add, Bool.false_eq_true, ixN_ofNat, atI_ofNat, plnN, plnB, plnI, plnS, plnT, plnL, plns0, plnsC, depN, depB, depI, depS, depT, depL, deps0, depsC, eqbI, eqbS, eqbT, eqbL, eqbB, eqbs0, eqbsC, Nat.zero_le, br_not, Nat.max_zero, Nat.zero_max, Nat.max_self, Bool.and_true, Bool.true_and, Bool.not_true, Bool.not_false, beq_self_eq_true, wEq, wInL, wE_var, wE_cst, wE_glob, wE_bop, wE_neg, wE_not, wE_cmp, wE_chn, wE_andv, wE_orv, wE_ite, wE_tup, wE_lst, wE_ix, wE_slc, wE_rev, wE_call, wE_bi, wE_lrng1, wE_lrng2, wE_isi, wE_isx, wE_fld, wE_mt, wE_comp, wE_frz, wE_dnew, wEs_nil, wEs_cons, wO_none, wO_some, wC_val, wC_cmp, wC_chn, wC_not, wC_and, wC_or, wAndC_nil, wAndC_cons, wOrC_nil, wOrC_cons, wI_seq, wI_sgn, wI_rng1, wI_rng2, wI_enm, wI_zip2, wI_zip3, wS_asg, wS_par, wS_asgIx, wS_aug, wS_ex, wS_ret, wS_ret0, wS_ife, wS_whl, wS_fr, wS_rs, wS_never, wAdd_d, wMul_d, addKI, addKS, addKL, addKT, mulKI, mulKL, wSubI, wFdivI, wModI, wPowI, mkLt, mkLf, asgT_nm, asgT_tp, asgTs_nil, asgTs_cons, put_fn, put_glob, put_kc, frzKL, wCeq, wCne, wClt, wCle, wCleS, wCgt, wCge, wCis, wCisn, wCin, wCnin, wIn_d, inKS, inKL, inKTI, inKTS, inKD, wIx_d, ixKL, ixKT, ixKSc, ixKS, ixKD, wSlc_d, slcKL, slcKT, slcKS, wSet_h, wBIlen, wBIabs, wBIintI, wBIintB, wBIintS, wBIstrI, wBIstrS, wBIlist, wBItuple, wBIall, wBIany, wBImax1, wBImin1, wBIsum, wBIsorted, wBImin2, wBImax2, wMTappend, wMTpop, wMTclear, wMTjoin, wMTsplit, isRcvA, isRcvP, isRcvC, isRcvJ, isRcvSp, ex_lst, ex_lst0, b_law_6a_0]
        refine ⟨by decide, hN _ _ ⟨rfl, .split (3 + k) v v, _, ⟨by omega, vok, vok⟩, ?_, ?_, hx', rfl⟩⟩
        · show max v.dep v.dep + 1 + xs.length ≤ 8; omega
        · show (v.lv + v.lv) * 2 ^ xs.length ≤ 256
          rw [Nat.pow_succ, ← Nat.mul_assoc] at vl
          rw [Nat.add_mul]
          omega
      · rintro r h' ⟨rfl, v, o, vok, vd, vl, _, rfl⟩
        refine ⟨trivial, ?_⟩
        try simp only [wSs_nil, wSs_cons, wAnd_one, wAnd_cons, wOr_one, wOr_cons, Tgs.len, eq_self, if_true, if_false, rsvN, rsvB, rsvI, rsvS, rsvT, rsvLs, rsvSc, rsvE, rsvH, isNonN, isNonB, isNonI, isNonS, isNonT, isNonL, isNonO, lenS, lenL, lenT, lenSc, seqL, seqT, kdN, kdB, kdI, kdS, kdT, kdL, Kd.isOf, br_t, br_f, itOk, VS.cellOf, wipeE, List.map_cons, List.map_nil, List.replicate_zero, List.replicate_succ, List.cons_append, List.nil_append, Nat.sub_self, Nat.reduceSub, Nat.reduceAdd, List.getElem?_cons_zero, List.getElem?_cons_succ, List.set_cons_zero, List.set_cons_succ, List.length_cons, List.length_nil, Option.some.injEq, exists_eq_left', exists_eq_left, exists_eq', exists_eq, D.int.injEq, D.bl.injEq, D.str.injEq, D.tup.injEq, D.lst.injEq, D.loc.injEq, List.cons.injEq, and_true, true_and, hup_same, ↓reduceIte, Nat.reduceLT, Nat.reduceEqDiff, reduceCtorEq, hup_hup, exists_and_left, Cell.lst.injEq, Nat.reduceLeDiff, Nat.zero_add, Bool.false_eq_true, ixN_ofNat, atI_ofNat, plnN, plnB, plnI, plnS, plnT, plnL, plns0, plnsC, depN, depB, depI, depS, depT, depL, deps0, depsC, eqbI, eqbS, eqbT, eqbL, eqbB, eqbs0, eqbsC, Nat.zero_le, br_not, Nat.max_zero, Nat.zero_max, Nat.max_self, Bool.and_true, Bool.true_and, Bool.not_true, Bool.not_false, beq_self_eq_true, wEq, wInL, wE_var, wE_cst, wE_glob, wE_bop, wE_neg, wE_not, wE_cmp, wE_chn, wE_andv, wE_orv, wE_ite, wE_tup, wE_lst, wE_ix, wE_slc, wE_rev, wE_call, wE_bi, wE_lrng1, wE_lrng2, wE_isi, wE_isx, wE_fld, wE_mt, wE_comp, wE_frz, wE_dnew, wEs_nil, wEs_cons, wO_none, wO_some, wC_val, wC_cmp, wC_chn, wC_not, wC_and, wC_or, wAndC_nil, wAndC_cons, wOrC_nil, wOrC_cons, wI_seq, wI_sgn, wI_rng1, wI_rng2, wI_enm, wI_zip2, wI_zip3, wS_asg, wS_par, wS_asgIx, wS_aug, wS_ex, wS_ret, wS_ret0, wS_ife, wS_whl, wS_fr, wS_rs, wS_never, wAdd_d, wMul_d, addKI, addKS, addKL, addKT, mulKI, mulKL, wSubI, wFdivI, wModI, wPowI, mkLt, mkLf, asgT_nm, asgT_tp, asgTs_nil, asgTs_cons, put_fn, put_glob, put_kc, frzKL, wCeq, wCne, wClt, wCle, wCleS, wCgt, wCge, wCis, wCisn, wCin, wCnin, wIn_d, inKS, inKL, inKTI, inKTS, inKD, wIx_d, ixKL, ixKT, ixKSc, ixKS, ixKD, wSlc_d, slcKL, slcKT, slcKS, wSet_h, wBIlen, wBIabs, wBIintI, wBIintB, wBIintS, wBIstrI, wBIstrS, wBIlist, wBItuple, wBIall, wBIany, wBImax1, wBImin1, wBIsum, wBIsorted, wBImin2, wBImax2, wMTappend, wMTpop, wMTclear, wMTjoin, wMTsplit, isRcvA, isRcvP, isRcvC, isRcvJ, isRcvSp, ex_lst, ex_lst0, b_law_7, t14]
        refine ⟨t, ok, hd, htx ok (by omega), rfl, ?_⟩
        try simp only [wSs_nil, wSs_cons, wAnd_one, wAnd_cons, wOr_one, wOr_cons, Tgs.len, eq_self, if_true, if_false, rsvN, rsvB, rsvI, rsvS, rsvT, rsvLs, rsvSc, rsvE, rsvH, isNonN, isNonB, isNonI, isNonS, isNonT, isNonL, isNonO, lenS, lenL, lenT, lenSc, seqL, seqT, kdN, kdB, kdI, kdS, kdT, kdL, Kd.isOf, br_t, br_f, itOk, VS.cellOf, wipeE, List.map_cons, List.map_nil, List.replicate_zero, List.replicate_succ, List.cons_append, List.nil_append, Nat.sub_self, Nat.reduceSub, Nat.reduceAdd, List.getElem?_cons_zero, List.getElem?_cons_succ, List.set_cons_zero, List.set_cons_succ, List.length_cons, List.length_nil, Option.some.injEq, exists_eq_left', exists_eq_left, exists_eq', exists_eq, D.int.injEq, D.bl.injEq, D.str.injEq, D.tup.injEq, D.lst.injEq, D.loc.injEq, List.cons.injEq, and_true, true_and, hup_same, ↓reduceIte, Nat.reduceLT, Nat.reduceEqDiff, reduceCtorEq, hup_hup, exists_and_left, Cell.lst.injEq, Nat.reduceLeDiff, Nat.zero_add, Bool.false_eq_true, ixN_ofNat, atI_ofNat, plnN, plnB, plnI, plnS, plnT, plnL, plns0, plnsC, depN, depB, depI, depS, depT, depL, deps0, depsC, eqbI, eqbS, eqbT, eqbL, eqbB, eqbs0, eqbsC, Nat.zero_le, br_not, Nat.max_zero, Nat.zero_max, Nat.max_self, Bool.and_true, Bool.true_and, Bool.not_true, Bool.not_false, beq_self_eq_true, wEq, wInL, wE_var, wE_cst, wE_glob, wE_bop, wE_neg, wE_not, wE_cmp, wE_chn, wE_andv, wE_orv, wE_ite, wE_tup, wE_lst, wE_ix, wE_slc, wE_rev, wE_call, wE_bi, wE_lrng1, wE_lrng2, wE_isi, wE_isx, wE_fld, wE_mt, wE_comp, wE_frz, wE_dnew, wEs_nil, wEs_cons, wO_none, wO_some, wC_val, wC_cmp, wC_chn, wC_not, wC_and, wC_or, wAndC_nil, wAndC_cons, wOrC_nil, wOrC_cons, wI_seq, wI_sgn, wI_rng1, wI_rng2, wI_enm, wI_zip2, wI_zip3, wS_asg, wS_par, wS_asgIx, wS_aug, wS_ex, wS_ret, wS_ret0, wS_ife, wS_whl, wS_fr, wS_rs, wS_never, wAdd_d, wMul_d, addKI, addKS, addKL, addKT, mulKI, mulKL, wSubI, wFdivI, wModI, wPowI, mkLt, mkLf, asgT_nm, asgT_tp, asgTs_nil, asgTs_cons, put_fn, put_glob, put_kc, frzKL, wCeq, wCne, wClt, wCle, wCleS, wCgt, wCge, wCis, wCisn, wCin, wCnin, wIn_d, inKS, inKL, inKTI, inKTS, inKD, wIx_d, ixKL, ixKT, ixKSc, ixKS, ixKD, wSlc_d, slcKL, slcKT, slcKS, wSet_h, wBIlen, wBIabs, wBIintI, wBIintB, wBIintS, wBIstrI, wBIstrS, wBIlist, wBItuple, wBIall, wBIany, wBImax1, wBImin1, wBIsum, wBIsorted, wBImin2, wBImax2, wMTappend, wMTpop, wMTclear, wMTjoin, wMTsplit, isRcvA, isRcvP, isRcvC, isRcvJ, isRcvSp, ex_lst, ex_lst0]
        have wl' : w.lv + 0 ≤ 21 := wl
        refine ⟨w, wok, by have : w.dep + 0 ≤ 20 := wd; omega, htx wok (by omega), rfl, ?_⟩
        try simp only [wSs_nil, wSs_cons, wAnd_one, wAnd_cons, wOr_one, wOr_cons, Tgs.len, eq_self, if_true, if_false, rsvN, rsvB, rsvI, rsvS, rsvT, rsvLs, rsvSc, rsvE, rsvH, isNonN, isNonB, isNonI, isNonS, isNonT, isNonL, isNonO, lenS, lenL, lenT, lenSc, seqL, seqT, kdN, kdB, kdI, kdS, kdT, kdL, Kd.isOf, br_t, br_f, itOk, VS.cellOf, wipeE, List.map_cons, List.map_nil, List.replicate_zero, List.replicate_succ, List.cons_append, List.nil_append, Nat.sub_self, Nat.reduceSub, Nat.reduceAdd, List.getElem?_cons_zero, List.getElem?_cons_succ, List.set_cons_zero, List.set_cons_succ, List.length_cons, List.length_nil, Option.some.injEq, exists_eq_left', exists_eq_left, exists_eq', exists_eq, D.int.injEq, D.bl.injEq, D.str.injEq, D.tup.injEq, D.lst.injEq, D.loc.injEq, List.cons.injEq, and_true, true_and, hup_same, ↓reduceIte, Nat.reduceLT, Nat.reduceEqDiff, reduceCtorEq, hup_hup, exists_and_left, Cell.lst.injEq, Nat.reduceLeDiff, Nat.zero_add, Bool.false_eq_true, ixN_ofNat, atI_ofNat, plnN, plnB, plnI, plnS, plnT, plnL, plns0, plnsC, depN, depB, depI, depS, depT, depL, deps0, depsC, eqbI, eqbS, eqbT, eqbL, eqbB, eqbs0, eqbsC, Nat.zero_le, br_not, Nat.max_zero, Nat.zero_max, Nat.max_self, Bool.and_true, Bool.true_and, Bool.not_true, Bool.not_false, beq_self_eq_true, wEq, wInL, wE_var, wE_cst, wE_glob, wE_bop, wE_neg, wE_not, wE_cmp, wE_chn, wE_andv, wE_orv, wE_ite, wE_tup, wE_lst, wE_ix, wE_slc, wE_rev, wE_call, wE_bi, wE_lrng1, wE_lrng2, wE_isi, wE_isx, wE_fld, wE_mt, wE_comp, wE_frz, wE_dnew, wEs_nil, wEs_cons, wO_none, wO_some, wC_val, wC_cmp, wC_chn, wC_not, wC_and, wC_or, wAndC_nil, wAndC_cons, wOrC_nil, wOrC_cons, wI_seq, wI_sgn, wI_rng1, wI_rng2, wI_enm, wI_zip2, wI_zip3, wS_asg, wS_par, wS_asgIx, wS_aug, wS_ex, wS_ret, wS_ret0, wS_ife, wS_whl, wS_fr, wS_rs, wS_never, wAdd_d, wMul_d, addKI, addKS, addKL, addKT, mulKI, mulKL, wSubI, wFdivI, wModI, wPowI, mkLt, mkLf, asgT_nm, asgT_tp, asgTs_nil, asgTs_cons, put_fn, put_glob, put_kc, frzKL, wCeq, wCne, wClt, wCle, wCleS, wCgt, wCge, wCis, wCisn, wCin, wCnin, wIn_d, inKS, inKL, inKTI, inKTS, inKD, wIx_d, ixKL, ixKT, ixKSc, ixKS, ixKD, wSlc_d, slcKL, slcKT, slcKS, wSet_h, wBIlen, wBIabs, wBIintI, wBIintB, wBIintS, wBIstrI, wBIstrS, wBIlist, wBItuple, wBIall, wBIany, wBImax1, wBImin1, wBIsum, wBIsorted, wBImin2, wBImax2, wMTappend, wMTpop, wMTclear, wMTjoin, wMTsplit, isRcvA, isRcvP, isRcvC, isRcvJ, isRcvSp, ex_lst, ex_lst0]
        have vl' : v.lv * 1 ≤ 256 := vl
        refine ⟨v, vok, by have : v.dep + 0 ≤ 8 := vd; omega, htx vok (by omega), rfl, ?_⟩
        exact ⟨_, hsub_refl _, q⟩
      · intro x hx
        obtain ⟨i, hi, rfl⟩ := List.mem_map.mp hx
        have := List.mem_range.mp hi
        exact ⟨i, by simp, by omega⟩
    · intro x hx
      obtain ⟨i, hi, rfl⟩ := List.mem_map.mp hx
      have := List.mem_range.mp hi
      exact ⟨i, by simp, by omega⟩
  cases t with
  | turned =>
    try simp only [wSs_nil, wSs_cons, wAnd_one, wAnd_cons, wOr_one, wOr_cons, Tgs.len, eq_self, if_true, if_false, rsvN, rsvB, rsvI, rsvS, rsvT, rsvLs, rsvSc, rsvE, rsvH, isNonN, isNonB, isNonI, isNonS, isNonT, isNonL, isNonO, lenS, lenL, lenT, lenSc, seqL, seqT, kdN, kdB, kdI, kdS, kdT, kdL, Kd.isOf, br_t, br_f, itOk, VS.cellOf, wipeE, List.map_cons, List.map_nil, List.replicate_zero, List.replicate_succ, List.cons_append, List.nil_append, Nat.sub_self, Nat.reduceSub, Nat.reduceAdd, List.getElem?_cons_zero, List.getElem?_cons_succ, List.set_cons_zero, List.set_cons_succ, List.length_cons, List.length_nil, Option.some.injEq, exists_eq_left', exists_eq_left, exists_eq', exists_eq, D.int.injEq, D.bl.injEq, D.str.injEq, D.tup.injEq, D.lst.injEq, D.loc.injEq, List.cons.injEq, and_true, true_and, hup_same, ↓reduceIte, Nat.reduceLT, Nat.reduceEqDiff, reduceCtorEq, hup_hup, exists_and_left, Cell.lst.injEq, Nat.reduceLeDiff, Nat.zero_add, Bool.false_eq_true, ixN_ofNat, atI_ofNat, plnN, plnB, plnI, plnS, plnT, plnL, plns0, plnsC, depN, depB, depI, depS, depT, depL, deps0, depsC, eqbI, eqbS, eqbT, eqbL, eqbB, eqbs0, eqbsC, Nat.zero_le, br_not, Nat.max_zero, Nat.zero_max, Nat.max_self, Bool.and_true, Bool.true_and, Bool.not_true, Bool.not_false, beq_self_eq_true, wEq, wInL, wE_var, wE_cst, wE_glob, wE_bop, wE_neg, wE_not, wE_cmp, wE_chn, wE_andv, wE_orv, wE_ite, wE_tup, wE_lst, wE_ix, wE_slc, wE_rev, wE_call, wE_bi, wE_lrng1, wE_lrng2, wE_isi, wE_isx, wE_fld, wE_mt, wE_comp, wE_frz, wE_dnew, wEs_nil, wEs_cons, wO_none, wO_some, wC_val, wC_cmp, wC_chn, wC_not, wC_and, wC_or, wAndC_nil, wAndC_cons, wOrC_nil, wOrC_cons, wI_seq, wI_sgn, wI_rng1, wI_rng2, wI_enm, wI_zip2, wI_zip3, wS_asg, wS_par, wS_asgIx, wS_aug, wS_ex, wS_ret, wS_ret0, wS_ife, wS_whl, wS_fr, wS_rs, wS_never, wAdd_d, wMul_d, addKI, addKS, addKL, addKT, mulKI, mulKL, wSubI, wFdivI, wModI, wPowI, mkLt, mkLf, asgT_nm, asgT_tp, asgTs_nil, asgTs_cons, put_fn, put_glob, put_kc, frzKL, wCeq, wCne, wClt, wCle, wCleS, wCgt, wCge, wCis, wCisn, wCin, wCnin, wIn_d, inKS, inKL, inKTI, inKTS, inKD, wIx_d, ixKL, ixKT, ixKSc, ixKS, ixKD, wSlc_d, slcKL, slcKT, slcKS, wSet_h, wBIlen, wBIabs, wBIintI, wBIintB, wBIintS, wBIstrI, wBIstrS, wBIlist, wBItuple, wBIall, wBIany, wBImax1, wBImin1, wBIsum, wBIsorted, wBImin2, wBImax2, wMTappend, wMTpop, wMTclear, wMTjoin, wMTsplit, isRcvA, isRcvP, isRcvC, isRcvJ, isRcvSp, ex_lst, ex_lst0, Tr.d]
    exact br_no (by decide) out
  | cut a b =>
    try simp only [wSs_nil, wSs_cons, wAnd_one, wAnd_cons, wOr_one, wOr_cons, Tgs.len, eq_self, if_true, if_false, rsvN, rsvB, rsvI, rsvS, rsvT, rsvLs, rsvSc, rsvE, rsvH, isNonN, isNonB, isNonI, isNonS, isNonT, isNonL, isNonO, lenS, lenL, lenT, lenSc, seqL, seqT, kdN, kdB, kdI, kdS, kdT, kdL, Kd.isOf, br_t, br_f, itOk, VS.cellOf, wipeE, List.map_cons, List.map_nil, List.replicate_zero, List.replicate_succ, List.cons_append, List.nil_append, Nat.sub_self, Nat.reduceSub, Nat.reduceAdd, List.getElem?_cons_zero, List.getElem?_cons_succ, List.set_cons_zero, List.set_cons_succ, List.length_cons, List.length_nil, Option.some.injEq, exists_eq_left', exists_eq_left, exists_eq', exists_eq, D.int.injEq, D.bl.injEq, D.str.injEq, D.tup.injEq, D.lst.injEq, D.loc.injEq, List.cons.injEq, and_true, true_and, hup_same, ↓reduceIte, Nat.reduceLT, Nat.reduceEqDiff, reduceCtorEq, hup_hup, exists_and_left, Cell.lst.injEq, Nat.reduceLeDiff, Nat.zero_add, Bool.false_eq_true, ixN_ofNat, atI_ofNat, plnN, plnB, plnI, plnS, plnT, plnL, plns0, plnsC, depN, depB, depI, depS, depT, depL, deps0, depsC, eqbI, eqbS, eqbT, eqbL, eqbB, eqbs0, eqbsC, Nat.zero_le, br_not, Nat.max_zero, Nat.zero_max, Nat.max_self, Bool.and_true, Bool.true_and, Bool.not_true, Bool.not_false, beq_self_eq_true, wEq, wInL, wE_var, wE_cst, wE_glob, wE_bop, wE_neg, wE_not, wE_cmp, wE_chn, wE_andv, wE_orv, wE_ite, wE_tup, wE_lst, wE_ix, wE_slc, wE_rev, wE_call, wE_bi, wE_lrng1, wE_lrng2, wE_isi, wE_isx, wE_fld, wE_mt, wE_comp, wE_frz, wE_dnew, wEs_nil, wEs_cons, wO_none, wO_some, wC_val, wC_cmp, wC_chn, wC_not, wC_and, wC_or, wAndC_nil, wAndC_cons, wOrC_nil, wOrC_cons, wI_seq, wI_sgn, wI_rng1, wI_rng2, wI_enm, wI_zip2, wI_zip3, wS_asg, wS_par, wS_asgIx, wS_aug, wS_ex, wS_ret, wS_ret0, wS_ife, wS_whl, wS_fr, wS_rs, wS_never, wAdd_d, wMul_d, addKI, addKS, addKL, addKT, mulKI, mulKL, wSubI, wFdivI, wModI, wPowI, mkLt, mkLf, asgT_nm, asgT_tp, asgTs_nil, asgTs_cons, put_fn, put_glob, put_kc, frzKL, wCeq, wCne, wClt, wCle, wCleS, wCgt, wCge, wCis, wCisn, wCin, wCnin, wIn_d, inKS, inKL, inKTI, inKTS, inKD, wIx_d, ixKL, ixKT, ixKSc, ixKS, ixKD, wSlc_d, slcKL, slcKT, slcKS, wSet_h, wBIlen, wBIabs, wBIintI, wBIintB, wBIintS, wBIstrI, wBIstrS, wBIlist, wBItuple, wBIall, wBIany, wBImax1, wBImin1, wBIsum, wBIsorted, wBImin2, wBImax2, wMTappend, wMTpop, wMTclear, wMTjoin, wMTsplit, isRcvA, isRcvP, isRcvC, isRcvJ, isRcvSp, ex_lst, ex_lst0, Tr.d]
    exact br_no (by decide) out
  | split k l r =>
    have hd1 : max l.dep r.dep + 1 ≤ 20 := hd
    have hl1 : l.lv + r.lv ≤ 63 := hlv
    try simp only [wSs_nil, wSs_cons, wAnd_one, wAnd_cons, wOr_one, wOr_cons, Tgs.len, eq_self, if_true, if_false, rsvN, rsvB, rsvI, rsvS, rsvT, rsvLs, rsvSc, rsvE, rsvH, isNonN, isNonB, isNonI, isNonS, isNonT, isNonL, isNonO, lenS, lenL, lenT, lenSc, seqL, seqT, kdN, kdB, kdI, kdS, kdT, kdL, Kd.isOf, br_t, br_f, itOk, VS.cellOf, wipeE, List.map_cons, List.map_nil, List.replicate_zero, List.replicate_succ, List.cons_append, List.nil_append, Nat.sub_self, Nat.reduceSub, Nat.reduceAdd, List.getElem?_cons_zero, List.getElem?_cons_succ, List.set_cons_zero, List.set_cons_succ, List.length_cons, List.length_nil, Option.some.injEq, exists_eq_left', exists_eq_left, exists_eq', exists_eq, D.int.injEq, D.bl.injEq, D.str.injEq, D.tup.injEq, D.lst.injEq, D.loc.injEq, List.cons.injEq, and_true, true_and, hup_same, ↓reduceIte, Nat.reduceLT, Nat.reduceEqDiff, reduceCtorEq, hup_hup, exists_and_left, Cell.lst.injEq, Nat.reduceLeDiff, Nat.zero_add, Bool.false_eq_true, ixN_ofNat, atI_ofNat, plnN, plnB, plnI, plnS, plnT, plnL, plns0, plnsC, depN, depB, depI, depS, depT, depL, deps0, depsC, eqbI, eqbS, eqbT, eqbL, eqbB, eqbs0, eqbsC, Nat.zero_le, br_not, Nat.max_zero, Nat.zero_max, Nat.max_self, Bool.and_true, Bool.true_and, Bool.not_true, Bool.not_false, beq_self_eq_true, wEq, wInL, wE_var, wE_cst, wE_glob, wE_bop, wE_neg, wE_not, wE_cmp, wE_chn, wE_andv, wE_orv, wE_ite, wE_tup, wE_lst, wE_ix, wE_slc, wE_rev, wE_call, wE_bi, wE_lrng1, wE_lrng2, wE_isi, wE_isx, wE_fld, wE_mt, wE_comp, wE_frz, wE_dnew, wEs_nil, wEs_cons, wO_none, wO_some, wC_val, wC_cmp, wC_chn, wC_not, wC_and, wC_or, wAndC_nil, wAndC_cons, wOrC_nil, wOrC_cons, wI_seq, wI_sgn, wI_rng1, wI_rng2, wI_enm, wI_zip2, wI_zip3, wS_asg, wS_par, wS_asgIx, wS_aug, wS_ex, wS_ret, wS_ret0, wS_ife, wS_whl, wS_fr, wS_rs, wS_never, wAdd_d, wMul_d, addKI, addKS, addKL, addKT, mulKI, mulKL, wSubI, wFdivI, wModI, wPowI, mkLt, mkLf, asgT_nm, asgT_tp, asgTs_nil, asgTs_cons, put_fn, put_glob, put_kc, frzKL, wCeq, wCne, wClt, wCle, wCleS, wCgt, wCge, wCis, wCisn, wCin, wCnin, wIn_d, inKS, inKL, inKTI, inKTS, inKD, wIx_d, ixKL, ixKT, ixKSc, ixKS, ixKD, wSlc_d, slcKL, slcKT, slcKS, wSet_h, wBIlen, wBIabs, wBIintI, wBIintB, wBIintS, wBIstrI, wBIstrS, wBIlist, wBItuple, wBIall, wBIany, wBImax1, wBImin1, wBIsum, wBIsorted, wBImin2, wBImax2, wMTappend, wMTpop, wMTclear, wMTjoin, wMTsplit, isRcvA, isRcvP, isRcvC, isRcvJ, isRcvSp, ex_lst, ex_lst0, Tr.d]
    refine br_yes (by decide) ?_
    try simp only [wSs_nil, wSs_cons, wAnd_one, wAnd_cons, wOr_one, wOr_cons, Tgs.len, eq_self, if_true, if_false, rsvN, rsvB, rsvI, rsvS, rsvT, rsvLs, rsvSc, rsvE, rsvH, isNonN, isNonB, isNonI, isNonS, isNonT, isNonL, isNonO, lenS, lenL, lenT, lenSc, seqL, seqT, kdN, kdB, kdI, kdS, kdT, kdL, Kd.isOf, br_t, br_f, itOk, VS.cellOf, wipeE, List.map_cons, List.map_nil, List.replicate_zero, List.replicate_succ, List.cons_append, List.nil_append, Nat.sub_self, Nat.reduceSub, Nat.reduceAdd, List.getElem?_cons_zero, List.getElem?_cons_succ, List.set_cons_zero, List.set_cons_succ, List.length_cons, List.length_nil, Option.some.injEq, exists_eq_left', exists_eq_left, exists_eq', exists_eq, D.int.injEq, D.bl.injEq, D.str.injEq, D.tup.injEq, D.lst.injEq, D.loc.injEq, List.cons.injEq, and_true, true_and, hup_same, ↓reduceIte, Nat.reduceLT, Nat.reduceEqDiff, reduceCtorEq, hup_hup, exists_and_left, Cell.lst.injEq, Nat.reduceLeDiff, Nat.zero_add, Bool.false_eq_true, ixN_ofNat, atI_ofNat, plnN, plnB, plnI, plnS, plnT, plnL, plns0, plnsC, depN, depB, depI, depS, depT, depL, deps0, depsC, eqbI, eqbS, eqbT, eqbL, eqbB, eqbs0, eqbsC, Nat.zero_le, br_not, Nat.max_zero, Nat.zero_max, Nat.max_self, Bool.and_true, Bool.true_and, Bool.not_true, Bool.not_false, beq_self_eq_true, wEq, wInL, wE_var, wE_cst, wE_glob, wE_bop, wE_neg, wE_not, wE_cmp, wE_chn, wE_andv, wE_orv, wE_ite, wE_tup, wE_lst, wE_ix, wE_slc, wE_rev, wE_call, wE_bi, wE_lrng1, wE_lrng2, wE_isi, wE_isx, wE_fld, wE_mt, wE_comp, wE_frz, wE_dnew, wEs_nil, wEs_cons, wO_none, wO_some, wC_val, wC_cmp, wC_chn, wC_not, wC_and, wC_or, wAndC_nil, wAndC_cons, wOrC_nil, wOrC_cons, wI_seq, wI_sgn, wI_rng1, wI_rng2, wI_enm, wI_zip2, wI_zip3, wS_asg, wS_par, wS_asgIx, wS_aug, wS_ex, wS_ret, wS_ret0, wS_ife, wS_whl, wS_fr, wS_rs, wS_never, wAdd_d, wMul_d, addKI, addKS, addKL, addKT, mulKI, mulKL, wSubI, wFdivI, wModI, wPowI, mkLt, mkLf, asgT_nm, asgT_tp, asgTs_nil, asgTs_cons, put_fn, put_glob, put_kc, frzKL, wCeq, wCne, wClt, wCle, wCleS, wCgt, wCge, wCis, wCisn, wCin, wCnin, wIn_d, inKS, inKL, inKTI, inKTS, inKD, wIx_d, ixKL, ixKT, ixKSc, ixKS, ixKD, wSlc_d, slcKL, slcKT, slcKS, wSet_h, wBIlen, wBIabs, wBIintI, wBIintB, wBIintS, wBIstrI, wBIstrS, wBIlist, wBItuple, wBIall, wBIany, wBImax1, wBImin1, wBIsum, wBIsorted, wBImin2, wBImax2, wMTappend, wMTpop, wMTclear, wMTjoin, wMTsplit, isRcvA, isRcvP, isRcvC, isRcvJ, isRcvSp, ex_lst, ex_lst0, b_law_2a_0, t14]
    refine ⟨l, ok.2.1, by omega, htx ok.2.1 (by omega), rfl, ?_⟩
    try simp only [wSs_nil, wSs_cons, wAnd_one, wAnd_cons, wOr_one, wOr_cons, Tgs.len, eq_self, if_true, if_false, rsvN, rsvB, rsvI, rsvS, rsvT, rsvLs, rsvSc, rsvE, rsvH, isNonN, isNonB, isNonI, isNonS, isNonT, isNonL, isNonO, lenS, lenL, lenT, lenSc, seqL, seqT, kdN, kdB, kdI, kdS, kdT, kdL, Kd.isOf, br_t, br_f, itOk, VS.cellOf, wipeE, List.map_cons, List.map_nil, List.replicate_zero, List.replicate_succ, List.cons_append, List.nil_append, Nat.sub_self, Nat.reduceSub, Nat.reduceAdd, List.getElem?_cons_zero, List.getElem?_cons_succ, List.set_cons_zero, List.set_cons_succ, List.length_cons, List.length_nil, Option.some.injEq, exists_eq_left', exists_eq_left, exists_eq', exists_eq, D.int.injEq, D.bl.injEq, D.str.injEq, D.tup.injEq, D.lst.injEq, D.loc.injEq, List.cons.injEq, and_true, true_and, hup_same, ↓reduceIte, Nat.reduceLT, Nat.reduceEqDiff, reduceCtorEq, hup_hup, exists_and_left, Cell.lst.injEq, Nat.reduceLeDiff, Nat.zero_add, Bool.false_eq_true, ixN_ofNat, atI_ofNat, plnN, plnB, plnI, plnS, plnT, plnL, plns0, plnsC, depN, depB, depI, depS, depT, depL, deps0, depsC, eqbI, eqbS, eqbT, eqbL, eqbB, eqbs0, eqbsC, Nat.zero_le, br_not, Nat.max_zero, Nat.zero_max, Nat.max_self, Bool.and_true, Bool.true_and, Bool.not_true, Bool.not_false, beq_self_eq_true, wEq, wInL, wE_var, wE_cst, wE_glob, wE_bop, wE_neg, wE_not, wE_cmp, wE_chn, wE_andv, wE_orv, wE_ite, wE_tup, wE_lst, wE_ix, wE_slc, wE_rev, wE_call, wE_bi, wE_lrng1, wE_lrng2, wE_isi, wE_isx, wE_fld, wE_mt, wE_comp, wE_frz, wE_dnew, wEs_nil, wEs_cons, wO_none, wO_some, wC_val, wC_cmp, wC_chn, wC_not, wC_and, wC_or, wAndC_nil, wAndC_cons, wOrC_nil, wOrC_cons, wI_seq, wI_sgn, wI_rng1, wI_rng2, wI_enm, wI_zip2, wI_zip3, wS_asg, wS_par, wS_asgIx, wS_aug, wS_ex, wS_ret, wS_ret0, wS_ife, wS_whl, wS_fr, wS_rs, wS_never, wAdd_d, wMul_d, addKI, addKS, addKL, addKT, mulKI, mulKL, wSubI, wFdivI, wModI, wPowI, mkLt, mkLf, asgT_nm, asgT_tp, asgTs_nil, asgTs_cons, put_fn, put_glob, put_kc, frzKL, wCeq, wCne, wClt, wCle, wCleS, wCgt, wCge, wCis, wCisn, wCin, wCnin, wIn_d, inKS, inKL, inKTI, inKTS, inKD, wIx_d, ixKL, ixKT, ixKSc, ixKS, ixKD, wSlc_d, slcKL, slcKT, slcKS, wSet_h, wBIlen, wBIabs, wBIintI, wBIintB, wBIintS, wBIstrI, wBIstrS, wBIlist, wBItuple, wBIall, wBIany, wBImax1, wBImin1, wBIsum, wBIsorted, wBImin2, wBImax2, wMTappend, wMTpop, wMTclear, wMTjoin, wMTsplit, isRcvA, isRcvP, isRcvC, isRcvJ, isRcvSp, ex_lst, ex_lst0]
    refine ⟨by decide, ?_⟩
    try simp only [wSs_nil, wSs_cons, wAnd_one, wAnd_cons, wOr_one, wOr_cons, Tgs.len, eq_self, if_true, if_false, rsvN, rsvB, rsvI, rsvS, rsvT, rsvLs, rsvSc, rsvE, rsvH, isNonN, isNonB, isNonI, isNonS, isNonT, isNonL, isNonO, lenS, lenL, lenT, lenSc, seqL, seqT, kdN, kdB, kdI, kdS, kdT, kdL, Kd.isOf, br_t, br_f, itOk, VS.cellOf, wipeE, List.map_cons, List.map_nil, List.replicate_zero, List.replicate_succ, List.cons_append, List.nil_append, Nat.sub_self, Nat.reduceSub, Nat.reduceAdd, List.getElem?_cons_zero, List.getElem?_cons_succ, List.set_cons_zero, List.set_cons_succ, List.length_cons, List.length_nil, Option.some.injEq, exists_eq_left', exists_eq_left, exists_eq', exists_eq, D.int.injEq, D.bl.injEq, D.str.injEq, D.tup.injEq, D.lst.injEq, D.loc.injEq, List.cons.injEq, and_true, true_and, hup_same, ↓reduceIte, Nat.reduceLT, Nat.reduceEqDiff, reduceCtorEq, hup_hup, exists_and_left, Cell.lst.injEq, Nat.reduceLeDiff, Nat.zero_add, Bool.false_eq_true, ixN_ofNat, atI_ofNat, plnN, plnB, plnI, plnS, plnT, plnL, plns0, plnsC, depN, depB, depI, depS, depT, depL, deps0, depsC, eqbI, eqbS, eqbT, eqbL, eqbB, eqbs0, eqbsC, Nat.zero_le, br_not, Nat.max_zero, Nat.zero_max, Nat.max_self, Bool.and_true, Bool.true_and, Bool.not_true, Bool.not_false, beq_self_eq_true, wEq, wInL, wE_var, wE_cst, wE_glob, wE_bop, wE_neg, wE_not, wE_cmp, wE_chn, wE_andv, wE_orv, wE_ite, wE_tup, wE_lst, wE_ix, wE_slc, wE_rev, wE_call, wE_bi, wE_lrng1, wE_lrng2, wE_isi, wE_isx, wE_fld, wE_mt, wE_comp, wE_frz, wE_dnew, wEs_nil, wEs_cons, wO_none, wO_some, wC_val, wC_cmp, wC_chn, wC_not, wC_and, wC_or, wAndC_nil, wAndC_cons, wOrC_nil, wOrC_cons, wI_seq, wI_sgn, wI_rng1, wI_rng2, wI_enm, wI_zip2, wI_zip3, wS_asg, wS_par, wS_asgIx, wS_aug, wS_ex, wS_ret, wS_ret0, wS_ife, wS_whl, wS_fr, wS_rs, wS_never, wAdd_d, wMul_d, addKI, addKS, addKL, addKT, mulKI, mulKL, wSubI, wFdivI, wModI, wPowI, mkLt, mkLf, asgT_nm, asgT_tp, asgTs_nil, asgTs_cons, put_fn, put_glob, put_kc, frzKL, wCeq, wCne, wClt, wCle, wCleS, wCgt, wCge, wCis, wCisn, wCin, wCnin, wIn_d, inKS, inKL, inKTI, inKTS, inKD, wIx_d, ixKL, ixKT, ixKSc, ixKS, ixKD, wSlc_d, slcKL, slcKT, slcKS, wSet_h, wBIlen, wBIabs, wBIintI, wBIintB, wBIintS, wBIstrI, wBIstrS, wBIlist, wBItuple, wBIall, wBIany, wBImax1, wBImin1, wBIsum, wBIsorted, wBImin2, wBImax2, wMTappend, wMTpop, wMTclear, wMTjoin, wMTsplit, isRcvA, isRcvP, isRcvC, isRcvJ, isRcvSp, ex_lst, ex_lst0, b_law_2a_1]
    refine br_yes (by decide) ?_
    refine hN r.dep _ _ ?_ ⟨r, rfl, ok.2.2, by omega, by omega, rfl, rfl⟩
    show r.dep < max l.dep r.dep + 1
    omega
end K78

set_option Elab.async false
set_option linter.all false
set_option maxRecDepth 100000
set_option maxHeartbeats 0
namespace K78
open PySem PySem.Spec PyProof.Rows L2 VS
def dfs : List Df := [d_whole_of, d_number_below, d_shown_tree, d_word_at, d_stands, d_number_at, d_tree_at, d_read_tree, d_law_begun, d_law_take, d_law_leaf, d_law_tree, d_law_written, d_law_same, d_law_right, d_law]
def faC : List He.Fa := [.str "FIGURES" "0123456789", .int "MOST_FIGURES" 60, .int "MOST" 20, .int "MOST_TIES" 12, .int "DEEPEST" 20]
def fa : List He.Fa := (dfs.map fun d => He.Fa.glo d.nm) ++ ((bltNames.map He.Fa.free) ++ faC)
def fnD : List He.DefD := dfs.map Df.dd
abbrev RR : PySem.W.OpenRow := PySem.W.OpenLaw.row PySem.Challenge.rw_ringloads_k78_trees_written
def loose : List PySem.Str := (["__name__", "LoadError", "NoText", "FIGURES", "MOST_FIGURES", "whole_of", "MOST", "MOST_TIES", "DEEPEST", "number_below", "shown_tree", "word_at", "stands", "number_at", "tree_at", "read_tree", "_law_begun", "_law_take", "_law_leaf", "_law_tree", "_law_written", "_law_same", "_law_right"] : List PySem.Str)
abbrev hk : PySem.W.Hook := He.hookD 4 fa fnD
def ob (s : PySem.W.SharedT) : He.AlD := He.obsDG 4 fa fnD (HandSHeadRun.getT s)
theorem ob_eq (s : PySem.W.SharedT) : ob s = hk.obs s.abs := He.obsDG_eq (HandSHeadRun.getT_eq s)
theorem run (w : World) : HandSHeadRun.RunEq RR (PySem.W.view RR.prog [26]) hk ob 3000 loose w := by
  intro os
  kernel_rfl
--LAWINDEX 26
end K78

set_option Elab.async false
set_option linter.all false
set_option maxRecDepth 100000
set_option maxHeartbeats 0
namespace K78
open PySem PySem.Spec PyProof.Rows L2 VS
def glD : Nat → Option D := fun i => [D.str [48, 49, 50, 51, 52, 53, 54, 55, 56, 57], .int 60, .int 20, .int 12, .int 20][i]?
def T0 : Tab := ⟨fun _ => noSp, glD, fun _ => false, fun _ _ => false, fun _ _ => none, fun _ => false⟩
def XO0 : XOT := fun _ _ _ _ _ => False
theorem gT {T : Tab} (h : T.glob = glD) : G T := by
  unfold G; rw [h]; exact ⟨rfl, rfl, rfl, rfl, rfl⟩
section
variable {P : Program} {w : World} {K : PySem.W.Frag} {h : Heap} {mg : Str → Option Value}
def RK (K : PySem.W.Frag) : RC := ⟨K, fun _ => false, fun _ => none⟩
theorem at_all (X : K.In h) (Gn : h.Ns mainGlobals mg) (c : He.SaysD fa fnD K) : ∀ d ∈ dfs, d.at_ K mg := fun d hd =>
  Df.at_of (fa := fa) (ds := dfs) X Gn c hd (List.mem_append.mpr (.inl (List.mem_map.mpr ⟨d, hd, rfl⟩)))
theorem gls_all (X : K.In h) (Gn : h.Ns mainGlobals mg) (c : He.SaysD fa fnD K) : Gls I mg (RK K) glD := by
  intro i x d e1 e2
  have e1 : ([("FIGURES" : Str), "MOST_FIGURES", "MOST", "MOST_TIES", "DEEPEST"] : List Str)[i]? = some x := e1
  match i, e1, e2 with
  | 0, e1, e2 => cases e1; cases e2; exact gl_str X Gn c (z := "0123456789") (List.mem_append.mpr (.inr (List.mem_append.mpr (.inr (by simp [faC]))))) (by decide +kernel) (by unfold StrOk; decide)
  | 1, e1, e2 => cases e1; cases e2; exact gl_int X Gn c (List.mem_append.mpr (.inr (List.mem_append.mpr (.inr (by simp [faC])))))
  | 2, e1, e2 => cases e1; cases e2; exact gl_int X Gn c (List.mem_append.mpr (.inr (List.mem_append.mpr (.inr (by simp [faC])))))
  | 3, e1, e2 => cases e1; cases e2; exact gl_int X Gn c (List.mem_append.mpr (.inr (List.mem_append.mpr (.inr (by simp [faC])))))
  | 4, e1, e2 => cases e1; cases e2; exact gl_int X Gn c (List.mem_append.mpr (.inr (List.mem_append.mpr (.inr (by simp [faC])))))
  | n + 5, e1, e2 => cases e1
theorem wd_all {base : Heap} (X : K.In h) (Gn : h.Ns mainGlobals mg) (c : He.SaysD fa fnD K) : Wd I P w K mg base (RK K) XO0 :=
  ⟨rfl, blt_of X Gn c fun x hx => List.mem_append.mpr (.inr (List.mem_append.mpr (.inl (List.mem_map.mpr ⟨x, hx, rfl⟩))))⟩
theorem lenOf {n : Nat} {sp : VSp} {P : VSp → Prop} : True := trivial
theorem law_ok {f : Addr} {fd : FuncData} {base : Heap} (X : K.In h) (Gn : h.Ns mainGlobals mg) (c : He.SaysD fa fnD K) (F : FunD K "law" "law" d_law.args d_law.stm d_law.scope [] [] f fd) :
    FnOk P w K mg base (L2.CX P w) 97 f fd ["_law_script"] (lift (RK K) XO0 sp_law) := by
  have wd := wd_all (P := P) (w := w) (base := base) X Gn c
  have gl := gls_all X Gn c
  have at_ := at_all X Gn c
  have m : ∀ i (d : Df), dfs[i]? = some d → d ∈ dfs := fun i d e => List.mem_of_getElem? e
  have S0 : Stg I P w K mg base (RK K) XO0 0 T0 := Stg.start (ds := dfs) wd gl rfl (fun _ => rfl) rfl (fun d hd => ⟨at_ d hd, by
    have : d = d_whole_of ∨ d = d_number_below ∨ d = d_shown_tree ∨ d = d_word_at ∨ d = d_stands ∨ d = d_number_at ∨ d = d_tree_at ∨ d = d_read_tree ∨ d = d_law_begun ∨ d = d_law_take ∨ d = d_law_leaf ∨ d = d_law_tree ∨ d = d_law_written ∨ d = d_law_same ∨ d = d_law_right ∨ d = d_law := by simpa [dfs] using hd
    rcases this with rfl | rfl | rfl | rfl | rfl | rfl | rfl | rfl | rfl | rfl | rfl | rfl | rfl | rfl | rfl | rfl
    · exact d_whole_of_bind
    · exact d_number_below_bind
    · exact d_shown_tree_bind
    · exact d_word_at_bind
    · exact d_stands_bind
    · exact d_number_at_bind
    · exact d_tree_at_bind
    · exact d_read_tree_bind
    · exact d_law_begun_bind
    · exact d_law_take_bind
    · exact d_law_leaf_bind
    · exact d_law_tree_bind
    · exact d_law_written_bind
    · exact d_law_same_bind
    · exact d_law_right_bind
    · exact d_law_bind⟩)
  have S1 := S0.add d_whole_of 0 sp_whole rfl (at_ _ (m 0 _ rfl)) d_whole_of_bind d_whole_of_ok (by rintro ds h Q X ⟨k, _, rfl, _⟩; rfl) (l_whole _ (gT rfl))
  have S2 := S1.add d_number_below 1 sp_below rfl (at_ _ (m 1 _ rfl)) d_number_below_bind d_number_below_ok (by rintro ds h Q X ⟨k, _, _, _, rfl, _⟩; rfl) (l_below _ rfl)
  have S3 := S2.recr d_shown_tree 2 sp_shown rfl (at_ _ (m 2 _ rfl)) d_shown_tree_bind d_shown_tree_ok (by rintro n ds h Q X ⟨k, _, _, _, rfl, _⟩; rfl) (by rintro ds h Q X ⟨k, _, z, _⟩; exact absurd z (Nat.not_lt_zero _)) (fun n => l_shown n _) 21
  have S4 := S3.add d_word_at 3 sp_word rfl (at_ _ (m 3 _ rfl)) d_word_at_bind d_word_at_ok (by rintro ds h Q X ⟨_, _, _, _, _, _, rfl, _⟩; rfl) (l_word _)
  have S5 := S4.add d_stands 4 sp_stands rfl (at_ _ (m 4 _ rfl)) d_stands_bind d_stands_ok (by rintro ds h Q X ⟨_, _, _, _, rfl, _⟩; rfl) (l_stands _)
  have S6 := S5.add d_number_at 5 sp_numat rfl (at_ _ (m 5 _ rfl)) d_number_at_bind d_number_at_ok (by rintro ds h Q X ⟨_, _, _, _, _, _, _, _, rfl, _⟩; rfl) (l_numat _ rfl rfl)
  have S7 := S6.recr d_tree_at 6 sp_treeat rfl (at_ _ (m 6 _ rfl)) d_tree_at_bind d_tree_at_ok (by rintro n ds h Q X ⟨_, _, _, _, _, _, _, _, _, rfl, _⟩; rfl) (by rintro ds h Q X ⟨_, _, _, _, _, _, _, z, _⟩; exact absurd z (Nat.not_lt_zero _)) (fun n => l_treeat n _ (gT rfl) rfl rfl rfl) 21
  have S8 := S7.add d_read_tree 7 sp_read rfl (at_ _ (m 7 _ rfl)) d_read_tree_bind d_read_tree_ok (by rintro ds h Q X ⟨_, _, _, _, rfl, _⟩; rfl) (l_read _ rfl)
  have S9 := S8.add d_law_begun 8 sp_begun rfl (at_ _ (m 8 _ rfl)) d_law_begun_bind d_law_begun_ok (fun ds h Q X q => (l_begun T0 ds h Q X q).1) (fun ds h Q X q => (l_begun _ ds h Q X q).2)
  have S10 := S9.add d_law_take 9 sp_take rfl (at_ _ (m 9 _ rfl)) d_law_take_bind d_law_take_ok (fun ds h Q X q => (l_take T0 ds h Q X q).1) (fun ds h Q X q => (l_take _ ds h Q X q).2)
  have S11 := S10.add d_law_leaf 10 sp_leaf rfl (at_ _ (m 10 _ rfl)) d_law_leaf_bind d_law_leaf_ok (by rintro ds h Q X ⟨_, _, _, _, _, _, rfl, _⟩; rfl) (l_leaf _ rfl)
  have S12 := S11.add d_law_tree 11 sp_tree rfl (at_ _ (m 11 _ rfl)) d_law_tree_bind d_law_tree_ok (by rintro ds h Q X ⟨_, _, rfl, _⟩; rfl) (l_tree _ rfl rfl rfl)
  have S13 := S12.recr d_law_written 12 sp_written rfl (at_ _ (m 12 _ rfl)) d_law_written_bind d_law_written_ok (by rintro n ds h Q X ⟨k, _, _, _, rfl, _⟩; rfl) (by rintro ds h Q X ⟨k, _, z, _⟩; exact absurd z (Nat.not_lt_zero _)) (fun n => l_written n _) 21
  have S14 := S13.recr d_law_same 13 sp_same rfl (at_ _ (m 13 _ rfl)) d_law_same_bind d_law_same_ok (by rintro n ds h Q X ⟨k, _, _, rfl, _⟩; rfl) (by rintro ds h Q X ⟨k, z, _⟩; exact absurd z (Nat.not_lt_zero _)) (fun n => l_same n _) 21
  have S15 := S14.add d_law_right 14 sp_right rfl (at_ _ (m 14 _ rfl)) d_law_right_bind d_law_right_ok (by rintro ds h Q X ⟨_, _, _, _, rfl, _⟩; rfl) (l_right _ rfl rfl rfl rfl)
  exact (Df.fnok (d := d_law) (T := _) S15.wd F d_law_ok S15.all S15.gl S15.kc (by rintro ds h Q X ⟨_, _, rfl, _⟩; rfl) (l_law _ rfl rfl)).mono (by decide)
theorem facts {f : Addr} (X : K.In h) (Gn : h.Ns mainGlobals mg) (hfa : mg ("law" : Str) = some (.ref f)) (c : He.SaysD fa fnD K) :
    ∃ fd : FuncData, (∀ (s : Shared) (v : Value), BindsTo s fd ⟨[v], []⟩ [("_law_script", v)]) ∧ ∀ base : Heap, K.In base → base.Ns mainGlobals mg →
      FnOk P w K mg base L2.CX0 97 f fd ["_law_script"] (fun vs H Q _ => lift (RK K) XO0 sp_law vs H Q fun _ _ _ => False) := by
  obtain ⟨fd, F⟩ := Df.fun_of (ds := dfs) c (d := d_law) (by simp [dfs])
  have e := hfa.symm.trans (He.glo_ok X Gn (factM c (f := .glo "law") (List.mem_append.mpr (.inl (List.mem_map.mpr ⟨d_law, by simp [dfs], rfl⟩)))))
  cases e
  have b := FunD.bindsA (ps := ["_law_script"]) F fun _ _ _ _ _ _ us hl => match us, hl with | [_], _ => rfl
  exact ⟨fd, fun s v => b s [v] rfl, fun base _ _ => FnOk.to0 (law_ok X Gn c F)⟩
end
end K78
open PySem PySem.W PySem.Calls PyProof.Rows
theorem PySem.Challenge.cw_ringloads_k78_trees_written_holds : PySem.Challenge.rw_ringloads_k78_trees_written.Holds := by
  w_on; o_law
  refine HandSHeadRun.head_any (r := OpenLaw.row PySem.Challenge.rw_ringloads_k78_trees_written) (q := view (OpenLaw.row PySem.Challenge.rw_ringloads_k78_trees_written).prog [26]) (H := K78.hk) (ob := K78.ob) (M := 3000) (loose := K78.loose) (d := HandSHeadRun.topDef (OpenLaw.row PySem.Challenge.rw_ringloads_k78_trees_written).prog 26) (kwd := []) K78.ob_eq
    (by kernel_rfl) (fun s => by kernel_rfl) K78.run (by kernel_rfl) (by kernel_rfl) (by kernel_rfl) (by rfl) (by first | assumption | decide +kernel) (by decide +kernel) ⟨rfl, rfl, rfl, rfl, rfl, by decide +kernel⟩ ?hw ?hc
  case hw => w_witness2
  case hc =>
    refine L2.walk_ofE (l := PySem.Challenge.rw_ringloads_k78_trees_written) (n := 63) (k := 97) (x := "_law_script") (CX := L2.CX0) rfl (by decide) (by kernel_rfl) ⟨rfl, by decide, by decide⟩ ?F (fun _ _ _ _ z => z)
    intro w mg fa h Y G hmg0
    obtain ⟨K, KX, c⟩ := Y
    have hmg : mg ("law" : PySem.Str) = some (.ref fa) := by
      have e : (HandSHeadRun.topDef (OpenLaw.row PySem.Challenge.rw_ringloads_k78_trees_written).prog 26).name = ("law" : PySem.Str) := by kernel_rfl
      rw [← e]
      exact hmg0
    obtain ⟨fd, hb, hF⟩ := K78.facts (P := (PySem.Challenge.rw_ringloads_k78_trees_written).prog) (w := w) KX G hmg c
    refine ⟨K, fd, _, KX, hb, fun H a ns hl _ hS => ?_, hF⟩
    exact VS.law_sp (R := K78.RK K) (n := 63) (fun ns hl => ⟨ns, hl, rfl, rfl⟩) rfl hl hS

