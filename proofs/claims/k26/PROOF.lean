import PyProof.Rows.All
import Wide.All
import OpenK.AllK
import Wide.FinOn
import HandS.TupMul
import PySem.Syntax
import HandS.ForMost
import HandS.Exc
import HandS.ExcOwn
import HandS.TryMany
import HandS.WordsExc
import HandS.IsInst
import HandS.TupAny
import HandS.Wide
import HandS.Flow
import HandS.DictComp
import HandS.Deep
import HandS.Style
import HandS.CallLocal
import HandS.SortInts
import KE.KTupSum
import HandS.TupLen
import HandS.Iter
import HandS.Zip
import KE.GoesEnum
import HandS.Conv
import HandS.Small
import HandS.Defaults
import HandS.Codes
import HandS.Head0
import HandS.Head1
import HandS.Head2
import HandS.HeadEnd
import HandS.HeadHook1
import HandS.HeadHook2
import PySem.Challenge.RW_surfaceroads_k26_whole_many_polygons_glu
set_option Elab.async false
set_option linter.all false
section
set_option Elab.async false
set_option linter.all false
set_option maxRecDepth 100000
set_option maxHeartbeats 4000000
namespace L2
open PySem PySem.Spec PyProof.Rows
open AutoSeq1 (wpAny_loadPart')
theorem tuple_mulZ (l : Addr) (items : Array Value) (n : Nat) (dd : Option Addr) (sl : Array (Option Value)) (u : Tok) (c1 : (items.isEmpty || (0 : Int) == 1) = false) (c2 : (decide ((0 : Int) ≤ 0) || items.isEmpty) = true) :
    Meets (Builtin.«tuple.__mul__» ⟨[.ref l, .int 0 u], []⟩) (fun _ R s => s.heap.get? l = some { cls := .type "tuple", dict := dd, data := .seq items n, slots := sl } ∧
      R (.ok (.ret (Value.ref s.heap.objs.size))) { s with heap := s.heap.push { cls := Value.type "tuple", data := Data.seq #[] }, toks := s.toks }) :=
  .of_wp fun prog w A R s h => by
    obtain ⟨hp, g, d, tk, os⟩ := s
    obtain ⟨hl, h⟩ := h
    have f1 := AutoSeq1.idx_int
    wp_walk using wpAny_loadPart' hl
    repeat (first
      | (refine wpAny_ite_false (decide_eq_false (by decide)) ?_; wp_walk using wpAny_loadPart' hl)
      | (refine wpAny_ite_false (decide_eq_false (by rw [c1]; exact Bool.false_ne_true)) ?_; wp_walk using wpAny_loadPart' hl)
      | (refine wpAny_ite_true (decide_eq_true c2) ?_; wp_walk using wpAny_loadPart' hl))
    exact ⟨_, rfl, h⟩
def rRepZ (K : PySem.W.Frag) : R2 := fun x y H Q => ∃ l xs, x = .ref l ∧ y = .int 0 ∧ SqT K H l xs ∧ xs ≠ [] ∧ ∀ p, H p = none → Q (.ref p) (upd H p (.tup []))
theorem op_repZ {X : Cx} : OpR X (binaryOp .Mult) (rRepZ X.K) := by
  intro pins s σ H x y v u Q I rx ry h
  obtain ⟨l, xs, rfl, rfl, hT, hne, q⟩ := h
  cases rx
  obtain ⟨t, rfl⟩ := ry
  obtain ⟨its, r, ⟨⟨cls, dd, data, sl⟩, ho, hc, n, hd⟩, hs⟩ := I.tuple hT
  simp only at hc hd
  subst hc hd
  have hle : its.length = xs.length := r.length.symm
  have hn : its ≠ [] := fun e => hne (by
    rw [e] at hle
    exact List.eq_nil_of_length_eq_zero hle.symm)
  have hi : its.toArray.isEmpty = false := by
    cases its with
    | nil => exact absurd rfl hn
    | cons a b => rfl
  have c1 : (its.toArray.isEmpty || (0 : Int) == 1) = false := by
    rw [hi, Bool.false_or]; decide
  have c2 : (decide ((0 : Int) ≤ 0) || its.toArray.isEmpty) = true := by
    rw [hi, Bool.or_false]; decide
  refine wpAny_binaryOp_repeat_ref (T := "tuple") (U := "int") (by decide) ⟨_, ho, rfl⟩ (fun s' => typeIs_int s' 0 t) noFill_tuple_mul F.fills_int_mul F.slot_int_rmul repeat_tuple F.slot_int_index.lookup
    (call_meets F.slot_int_rmul (typeIs_int s 0 t) F.entry_int_rmul (F.args_int_rmul_2 _ _) (int_rmul_tuple 0 t l its.toArray n dd sl)
      ⟨ho, rfl, ⟨_, ho, rfl⟩, call_meets F.slot_tuple_mul ⟨_, ho, rfl⟩ F.entry_tuple_mul (F.args_tuple_mul_2 _ _) (tuple_mulZ l its.toArray n dd sl t c1 c2) ⟨ho, ?_⟩⟩)
  refine ⟨.ref s.heap.objs.size, _, I.laid (t' := s.toks) (o := .tup []) (fun b ob q => Heap.get?_push_of_some _ q) (Nat.le_refl _) ?_, rfl, q _ (I.hok.fresh (Nat.le_refl _))⟩
  exact ⟨by rw [sizeLine_eq]; decide, [], .nil, IsTup.new _ _⟩
end L2
end

section
set_option linter.all false
/-! An interpreter of the small Python of the linked texts: values without a heap. A slot of the frame may own a list or a dict (o), or the caller's (p); whatever is handed on is fixed from then on. -/
namespace Iv
open PySem (Str)

abbrev Ky := Sum Int Str

inductive W where
  | non | bl (b : Bool) | int (i : Int) | str (s : Str)
  | tup (xs : List W) | lst (xs : List W)
  | dK (ks : List Ky) (vs : List W)
  | dT (ks : List (List Ky)) (vs : List W)
  | ins (c : Nat) (ns : List Nat) (vs : List W)
  | fn (f : Nat)
  | scr (xs : List W)
  deriving Inhabited

inductive Sl where
  | n | v (w : W) | o (w : W) | p (w : W)
  deriving Inhabited
abbrev En := List Sl

inductive R1 where
  | w (w : W) | s (i : Nat) | f (w : W) | l (rs : List R1)
  deriving Inhabited

structure Exn where
  cls : Nat
  fld : Option W
  deriving Inhabited

inductive RE (α : Type) where
  | ok (a : α) (env : En) | exn (x : Exn) (env : En) | err
  deriving Inhabited
/-- a call's end: the value (fr: a list, a dict that nobody else holds), the first slot -/
inductive RF where
  | ok (fr : Bool) (w : W) (s0 : Sl) | exn (x : Exn) (s0 : Sl) | err
  deriving Inhabited

@[reducible] def RE.bind {α β : Type} (r : RE α) (f : α → En → RE β) : RE β := match r with
  | .ok a e => f a e
  | .exn x e => .exn x e
  | .err => .err
@[reducible] def ofO {α : Type} (o : Option α) (e : En) : RE α := match o with
  | some a => .ok a e
  | none => .err

/-! ### reading, handing on -/
def peek (r : R1) (e : En) : Option W := match r with
  | .w w => some w
  | .f w => some w
  | .s i => match e[i]? with
    | some (.v w) => some w
    | some (.o w) => some w
    | some (.p w) => some w
    | _ => none
  | .l _ => none
/-- what may be handed on for good (a dict not yet) -/
def canFz : W → Bool
  | .dK _ _ => false
  | .dT _ _ => false
  | _ => true
def use (r : R1) (e : En) : Option (W × En) := match r with
  | .w w => some (w, e)
  | .f w => if canFz w then some (w, e) else none
  | .s i => match e[i]? with
    | some (.v w) => some (w, e)
    | some (.o w) => if canFz w then some (w, e.set i (.v w)) else none
    | _ => none
  | .l _ => none

/-! ### keys -/
def toKy : W → Option Ky
  | .int i => some (.inl i)
  | .str s => some (.inr s)
  | _ => none
def ofKy : Ky → W
  | .inl i => .int i
  | .inr s => .str s
def toKys : List W → Option (List Ky)
  | [] => some []
  | x :: xs => match toKy x, toKys xs with
    | some k, some r => some (k :: r)
    | _, _ => none
def kyEq : Ky → Ky → Bool
  | .inl a, .inl b => decide (a = b)
  | .inr a, .inr b => decide (a = b)
  | _, _ => false
def kysEq : List Ky → List Ky → Bool
  | [], [] => true
  | a :: r, b :: s => kyEq a b && kysEq r s
  | _, _ => false
/-- what stands under k -/
def getK : List Ky → List W → Ky → Option W
  | k :: ks, v :: vs, x => if kyEq k x then some v else getK ks vs x
  | _, _, _ => none
def putV : List Ky → List W → Ky → W → List W
  | k :: ks, v :: vs, x, y => (if kyEq k x then y else v) :: putV ks vs x y
  | _, _, _, _ => []
def putK (ks : List Ky) (vs : List W) (x : Ky) (y : W) : List Ky × List W := if ks.any fun k => kyEq k x then (ks, putV ks vs x y) else (ks ++ [x], vs ++ [y])
def getT : List (List Ky) → List W → List Ky → Option W
  | k :: ks, v :: vs, x => if kysEq k x then some v else getT ks vs x
  | _, _, _ => none
def putTV : List (List Ky) → List W → List Ky → W → List W
  | k :: ks, v :: vs, x, y => (if kysEq k x then y else v) :: putTV ks vs x y
  | _, _, _, _ => []
def putT (ks : List (List Ky)) (vs : List W) (x : List Ky) (y : W) : List (List Ky) × List W := if ks.any fun k => kysEq k x then (ks, putTV ks vs x y) else (ks ++ [x], vs ++ [y])

/-! ### equality of data -/
mutual
/-- plain data of a depth below n -/
def isD : Nat → W → Bool
  | _, .non => true
  | _, .bl _ => true
  | _, .int _ => true
  | _, .str s => s.cps.all (· < 1114112)
  | n + 1, .tup xs => isDs n xs
  | n + 1, .lst xs => isDs n xs
  | _, _ => false
def isDs : Nat → List W → Bool
  | _, [] => true
  | n, x :: xs => isD n x && isDs n xs
end
mutual
def eqD : W → W → Bool
  | .non, .non => true
  | .bl a, .bl b => a == b
  | .bl a, .int j => (if a then 1 else 0) == j
  | .int i, .bl b => i == (if b then 1 else 0)
  | .int i, .int j => i == j
  | .str x, .str y => x == y
  | .lst xs, .lst ys => eqDs xs ys
  | .tup xs, .tup ys => eqDs xs ys
  | _, _ => false
def eqDs : List W → List W → Bool
  | [], [] => true
  | x :: xs, y :: ys => eqD x y && eqDs xs ys
  | _, _ => false
end
def eqW (x y : W) : Option Bool := if isD 60 x && isD 60 y then some (eqD x y) else none

/-! ### order -/
def intsW : List W → Option (List Int)
  | [] => some []
  | .int i :: xs => match intsW xs with
    | some r => some (i :: r)
    | none => none
  | _ => none
def lexL : List Int → List Int → Bool
  | [], [] => false
  | [], _ :: _ => true
  | _ :: _, [] => false
  | x :: xs, y :: ys => if x = y then lexL xs ys else decide (x < y)
/-- x < y: intsW, tuples of intsW -/
def ltW (x y : W) : Option Bool := match x, y with
  | .int i, .int j => some (decide (i < j))
  | .tup xs, .tup ys => match intsW xs, intsW ys with
    | some a, some b => some (lexL a b)
    | _, _ => none
  | _, _ => none
def insI (x : Int) : List Int → List Int
  | [] => [x]
  | y :: ys => if x ≤ y then x :: y :: ys else y :: insI x ys
def sortI : List Int → List Int
  | [] => []
  | x :: xs => insI x (sortI xs)
def minI : Int → List Int → Int
  | m, [] => m
  | m, x :: xs => if x < m then minI x xs else minI m xs
def maxI : Int → List Int → Int
  | m, [] => m
  | m, x :: xs => if m < x then maxI x xs else maxI m xs

/-! ### operators -/
inductive BOp where
  | add | sub | mul | fdiv | mod
  deriving DecidableEq
inductive COp where
  | eq | ne | lt | le | gt | ge | is | isn | inn | nin
  deriving DecidableEq
def lim : Nat := 16777216
def mulOk (i j : Int) : Bool := decide (i.natAbs < 18446744073709551616) || decide (j.natAbs < 18446744073709551616) || decide (i.natAbs.log2 + j.natAbs.log2 < 1000000)
def reps (k : Nat) (xs : List W) : List W := (List.replicate k xs).flatten
def binW (o : BOp) (x y : W) : Option R1 := match o, x, y with
  | .add, .int i, .int j => some (.w (.int (i + j)))
  | .sub, .int i, .int j => some (.w (.int (i - j)))
  | .mul, .int i, .int j => if mulOk i j then some (.w (.int (i * j))) else none
  | .fdiv, .int i, .int j => if 0 < j ∧ j.natAbs.log2 < 9000 then some (.w (.int (i / j))) else none
  | .mod, .int i, .int j => if 0 < j then some (.w (.int (i % j))) else none
  | .add, .lst xs, .lst ys => if xs.length + ys.length ≤ lim then some (.f (.lst (xs ++ ys))) else none
  | .add, .tup xs, .tup ys => if xs.length + ys.length ≤ lim then some (.w (.tup (xs ++ ys))) else none
  | .add, .str s, .str t => if s.length + t.length ≤ lim then some (.w (.str (s ++ t))) else none
  | .mul, .lst xs, .int k => if -9223372036854775808 ≤ k ∧ k < 9223372036854775808 ∧ xs.length * k.toNat ≤ lim then some (.f (.lst (reps k.toNat xs))) else none
  | .mul, .tup xs, .int k => if 2 ≤ k ∧ k ≤ 1000 ∧ xs.isEmpty = false ∧ xs.length ≤ 1000 then some (.w (.tup (reps k.toNat xs))) else if k = 0 ∧ xs.isEmpty = false then some (.w (.tup [])) else none
  | _, _, _ => none

/-- x in xs -/
def inL (x : W) : List W → Bool
  | [] => false
  | y :: ys => eqD y x || inL x ys
def inW (x y : W) : Option Bool := match y with
  | .lst ys => if isD 59 x && isDs 58 ys then some (inL x ys) else none
  | .tup ys => if isD 59 x && isDs 58 ys then some (inL x ys) else none
  | .dK ks vs => match toKy x with
    | some k => some (getK ks vs k).isSome
    | none => none
  | .dT ks vs => match x with
    | .tup xs => match toKys xs with
      | some k => some (getT ks vs k).isSome
      | none => none
    | _ => none
  | _ => none
def isNon : W → Bool
  | .non => true
  | _ => false
def cmpW (o : COp) (x y : W) : Option Bool := match o with
  | .eq => eqW x y
  | .ne => (eqW x y).map (!·)
  | .lt => ltW x y
  | .le => match x, y with
    | .int i, .int j => some (decide (i ≤ j))
    | _, _ => none
  | .gt => match x, y with
    | .int i, .int j => some (decide (j < i))
    | _, _ => none
  | .ge => match x, y with
    | .int i, .int j => some (decide (j ≤ i))
    | _, _ => none
  | .is => if isNon y then some (isNon x) else none
  | .isn => if isNon y then some (!isNon x) else none
  | .inn => inW x y
  | .nin => (inW x y).map (!·)
def truth : W → Option Bool
  | .non => some false
  | .bl b => some b
  | .int i => some (i != 0)
  | .str s => if s.length ≤ lim then some ((s.length : Int) != 0) else none
  | .tup xs => some (!xs.isEmpty)
  | .lst xs => some (!xs.isEmpty)
  | .dK ks _ => some (!ks.isEmpty)
  | _ => none

/-! ### places and cuts -/
def ixN (n : Nat) (i : Int) : Option Nat := if 0 ≤ i then (if i < n then some i.toNat else none) else if -(n : Int) ≤ i then some (i + n).toNat else none
def atL {α : Type} (xs : List α) (i : Int) : Option α := match ixN xs.length i with
  | some j => xs[j]?
  | none => none
def sIx (n d : Nat) : Option Int → Nat
  | none => d
  | some v => if v < 0 then (v + (n : Int)).toNat else min v.toNat n
def cut {α : Type} (xs : List α) (lo hi : Option Int) : List α := (xs.drop (sIx xs.length 0 lo)).take (sIx xs.length xs.length hi - sIx xs.length 0 lo)
def ixW (x y : W) : Option W := match x, y with
  | .lst xs, .int i => atL xs i
  | .tup xs, .int i => atL xs i
  | .dK ks vs, y => match toKy y with
    | some k => getK ks vs k
    | none => none
  | .dT ks vs, .tup ys => match toKys ys with
    | some k => getT ks vs k
    | none => none
  | _, _ => none
def cutW (x : W) (lo hi : Option Int) : Option R1 := match x with
  | .lst xs => some (.f (.lst (cut xs lo hi)))
  | .tup xs => some (.w (.tup (cut xs lo hi)))
  | .scr xs => some (.f (.lst (cut xs lo hi)))
  | _ => none
def revW (x : W) : Option R1 := match x with
  | .lst xs => some (.f (.lst xs.reverse))
  | _ => none

/-! ### built-in functions -/
inductive B1 where
  | len | abs | int | tuple | list | sum | all | any | min | max | sorted | dict | set | str
  deriving DecidableEq
inductive B2 where
  | min | max
  deriving DecidableEq
def boolsW : List W → Option (List Bool)
  | [] => some []
  | .bl i :: xs => match boolsW xs with
    | some r => some (i :: r)
    | none => none
  | _ => none
def seqOf : W → Option (List W)
  | .lst xs => some xs
  | .tup xs => some xs
  | _ => none
def sumI : List Int → Int
  | [] => 0
  | x :: xs => x + sumI xs
def b1W (f : B1) (x : W) : Option R1 := match f with
  | .len => match x with
    | .lst xs => some (.w (.int xs.length))
    | .tup xs => some (.w (.int xs.length))
    | .dK ks _ => some (.w (.int ks.length))
    | .dT ks _ => some (.w (.int ks.length))
    | .str s => if s.length ≤ lim then some (.w (.int s.length)) else none
    | _ => none
  | .abs => match x with
    | .int i => some (.w (.int (if i < 0 then -i else i)))
    | _ => none
  | .int => match x with
    | .int i => some (.w (.int i))
    | .bl b => some (.w (.int (if b then 1 else 0)))
    | _ => none
  | .tuple => match x with
    | .lst xs => some (.w (.tup xs))
    | .tup xs => some (.w (.tup xs))
    | _ => none
  | .list => match x with
    | .lst xs => some (.f (.lst xs))
    | .tup xs => some (.f (.lst xs))
    | _ => none
  | .sum => match x with
    | .lst xs => (intsW xs).map fun r => .w (.int (sumI r))
    | .tup xs => (intsW xs).map fun r => .w (.int (sumI r))
    | _ => none
  | .all => match x with
    | .lst xs => (boolsW xs).map fun r => .w (.bl (r.all id))
    | _ => none
  | .any => match x with
    | .lst xs => (boolsW xs).map fun r => .w (.bl (r.any id))
    | _ => none
  | .min => match x with
    | .lst xs => match intsW xs with
      | some (y :: ys) => some (.w (.int (minI y ys)))
      | _ => none
    | _ => none
  | .max => match x with
    | .lst xs => match intsW xs with
      | some (y :: ys) => some (.w (.int (maxI y ys)))
      | _ => none
    | _ => none
  | .sorted => match x with
    | .lst xs => match intsW xs with
      | some ys => some (.f (.lst ((sortI ys).map .int)))
      | none => none
    | _ => none
  | .dict => none
  | .set => none
  | .str => none
def b2W (f : B2) (x y : W) : Option R1 := match f, x, y with
  | .min, .int i, .int j => some (.w (.int (if j < i then j else i)))
  | .max, .int i, .int j => some (.w (.int (if j > i then j else i)))
  | _, _, _ => none
/-- classes in isinstance -/
inductive Ty where
  | int | bool | str | list | tuple | dict | cls (c : Nat)
  deriving DecidableEq
def isTy (t : Ty) (w : W) : Option Bool := match t with
  | .cls _ => none
  | t => match w with
    | .non => some false
    | .bl _ => some (match t with | .int => true | .bool => true | _ => false)
    | .int _ => some (match t with | .int => true | _ => false)
    | .str _ => some (match t with | .str => true | _ => false)
    | .tup _ => some (match t with | .tuple => true | _ => false)
    | .lst _ => some (match t with | .list => true | _ => false)
    | .dK _ _ => some (match t with | .dict => true | _ => false)
    | .dT _ _ => some (match t with | .dict => true | _ => false)
    | _ => none
def isTys : List Ty → W → Option Bool
  | [], _ => some false
  | t :: ts, w => match isTy t w with
    | some true => some true
    | some false => isTys ts w
    | none => none

/-! ### what is walked -/
def rangeL (a : Int) : Nat → List W
  | 0 => []
  | n + 1 => .int a :: rangeL (a + 1) n
def rangeC (a c : Int) : Nat → List W
  | 0 => []
  | n + 1 => .int a :: rangeC (a + c) c n
def big (i : Int) : Bool := decide (-1000000000 < i) && decide (i < 1000000000)
def turns (a b c : Int) : Nat := if 0 < c then ((b - a + c - 1) / c).toNat else ((a - b + (-c) - 1) / (-c)).toNat
/-- the items of a value that stands in the place of an iterable (true: a list) -/
def itemsW (r : R1) (e : En) : Option ((Bool × List W) × En) := match use r e with
  | some (.lst xs, e') => some ((true, xs), e')
  | some (.tup xs, e') => some ((false, xs), e')
  | _ => none
def num (k : Int) : List W → List W
  | [] => []
  | x :: xs => .tup [.int k, x] :: num (k + 1) xs
def zipL : List W → List W → List W
  | x :: xs, y :: ys => .tup [x, y] :: zipL xs ys
  | _, _ => []

/-! ### targets -/
inductive Pt where
  | n (i : Nat) | t2 (a b : Pt) | t3 (a b c : Pt)
  deriving Inhabited
/-- a slot takes a value; the caller's own stays -/
def store (i : Nat) (s : Sl) (e : En) : Option En := match e[i]? with
  | some (.p _) => none
  | some _ => some (e.set i s)
  | none => none
def two (w : W) (k : W → W → Option En) : Option En := match w with
  | .tup [x, y] => k x y
  | _ => none
def three (w : W) (k : W → W → W → Option En) : Option En := match w with
  | .tup [x, y, z] => k x y z
  | _ => none
def bindP : Pt → W → En → Option En
  | .n i => fun w e => store i (.v w) e
  | .t2 a b => fun w e => two w fun x y => match bindP a x e with
    | some e' => bindP b y e'
    | none => none
  | .t3 a b c => fun w e => three w fun x y z => match bindP a x e with
    | some e' => match bindP b y e' with
      | some e'' => bindP c z e''
      | none => none
    | none => none
def wipeE (e : En) : List Nat → En
  | [] => e
  | v :: vs => (wipeE e vs).set v .n
/-- the block's own names are as they were (saved) -/
def backE (e saved : En) : List Nat → En
  | [] => e
  | v :: vs => (backE e saved vs).set v (saved.getD v .n)

/-! ### expressions -/
inductive E where
  | v (i : Nat) | k (w : W) | g (x : Str) (i : Int) | fn (f : Nat)
  | bin (o : BOp) (a b : E) | neg (a : E) | not (a : E)
  | and (a b : E) | or (a b : E)
  | cmp (o : COp) (a b : E) | cmp2 (o p : COp) (a b c : E) | cmp3 (o p q : COp) (a b c d : E)
  | ite (c a b : E)
  | ix (a b : E) | sl (a lo hi : E) | rev (a : E)
  | tup (es : E) | lst (es : E) | d0 (t : Bool) | dd (ks vs : E)
  | b1 (f : B1) (a : E) | b2 (f : B2) (a b : E) | isi (a : E) (ts : List Ty) (tp : Bool)
  | lrng (a : E) | trng (a : E) | trng3 (a b c : E)
  | rng1 (a : E) | rng2 (a b : E) | rng3 (a b c : E) | enu (a : E) | zip (a b : E)
  | lc (own : List Nat) (p : Pt) (it c el : E)
  | lc2 (own own1 : List Nat) (p : Pt) (it c : E) (p1 : Pt) (it1 c1 el : E)
  | dc (t : Bool) (own : List Nat) (p : Pt) (it c kx vx : E)
  | call (f : Nat) (es : E) | callIo (f i : Nat) (es : E) | callV (i : Nat) (es : E)
  | meth (m : Nat) (a es : E) | make (c : Nat) (es : E) (ds : List W)
  | at (a : E) (f : Nat)
  | pop0 (i : Nat) | pop1 (i : Nat) (a : E) | index (a b : E) | get (a b c : E)
  | nil | cons (a es : E) | consR (a es : E)
  deriving Inhabited

/-- class c's method m; class c's __init__ -/
structure Tb where
  meth : Nat → Nat → Option Nat
  init : Nat → Option Nat
  has : Nat → Bool
  xcl : Nat → Bool

def getF : List Nat → List W → Nat → Option W
  | n :: ns, v :: vs, f => if n = f then some v else getF ns vs f
  | _, _, _ => none
def putF : List Nat → List W → Nat → W → List Nat × List W
  | n :: ns, v :: vs, f, y => if n = f then (n :: ns, y :: vs) else let r := putF ns vs f y; (n :: r.1, v :: r.2)
  | _, _, f, y => ([f], [y])

def optI (r : RE (Option R1)) : RE (Option Int) := match r with
  | .ok none e => .ok none e
  | .ok (some r) e => match peek r e with
    | some (.int i) => .ok (some i) e
    | _ => .err
  | .exn x e => .exn x e
  | .err => .err
def got (fr : Bool) (w : W) : R1 := match fr with
  | true => .f w
  | false => .w w
/-- a call's end, in the caller's frame -/
def landed (r : RF) (e : En) : RE R1 := match r with
  | .ok fr w _ => .ok (got fr w) e
  | .exn x _ => .exn x e
  | .err => .err
def landedIo (r : RF) (i : Nat) (e : En) : RE R1 := match r with
  | .ok fr w (.p z) => .ok (got fr w) (e.set i (.o z))
  | .exn x (.p z) => .exn x (e.set i (.o z))
  | _ => .err
def landedIoP (r : RF) (i : Nat) (e : En) : RE R1 := match r with
  | .ok fr w (.p z) => .ok (got fr w) (e.set i (.p z))
  | .exn x (.p z) => .exn x (e.set i (.p z))
  | _ => .err
def landedMk (r : RF) (e : En) : RE R1 := match r with
  | .ok _ .non (.p z) => .ok (.f z) e
  | .exn x _ => .exn x e
  | _ => .err
def wsOf : List R1 → Option (List W)
  | [] => some []
  | .w x :: rs => match wsOf rs with
    | some r => some (x :: r)
    | none => none
  | _ => none
/-- the loop of a list's comprehension: turn gives the items that one item brings -/
def lcLoop {α : Type} (own : List Nat) (turn : W → En → RE (List α)) : List W → En → RE (List α)
  | [], e => .ok [] e
  | x :: xs, e => match turn x e with
    | .ok ys e' => match lcLoop own turn xs (backE e' e own) with
      | .ok zs e'' => .ok (ys ++ zs) e''
      | _ => .err
    | _ => .err
def iteE {α : Type} (c : RE Bool) (a b : En → RE α) : RE α := match c with
  | .ok true e1 => a e1
  | .ok false e1 => b e1
  | .exn x e => .exn x e
  | .err => .err
/-- a test's outcome -/
def tst (a : RE R1) : RE Bool := match a with
  | .ok r e => match peek r e with
    | some x => ofO (truth x) e
    | none => .err
  | .exn x e => .exn x e
  | .err => .err
def condE (c : Option (En → RE R1)) (e : En) : RE Bool := match c with
  | none => .ok true e
  | some t => tst (t e)
/-- one turn: the target, the test, the element -/
def lcTurn {α : Type} (own : List Nat) (p : Pt) (c : Option (En → RE R1)) (el : En → RE (List α)) (x : W) (e : En) : RE (List α) :=
  match bindP p x (wipeE e own) with
  | none => .err
  | some e1 => iteE (condE c e1) el fun e2 => .ok [] e2
def lcEl (el : En → RE R1) (e : En) : RE (List W) := match el e with
  | .ok r e' => match use r e' with
    | some (w, e'') => .ok [w] e''
    | none => .err
  | _ => .err
def seqI (r : RE R1) : RE (Bool × List W) := match r with
  | .ok r e => match itemsW r e with
    | some (xs, e') => .ok xs e'
    | none => .err
  | .exn x e => .exn x e
  | .err => .err
def itE {α β : Type} (a : RE α) (k : α → En → RE β) : RE β := match a with
  | .ok xs e1 => k xs e1
  | .exn x e => .exn x e
  | .err => .err
def asItems (r : RE R1) : RE (List W) := match r with
  | .ok (.l rs) e => match wsOf rs with
    | some ws => .ok ws e
    | none => .err
  | r => itE (seqI r) fun q e => .ok q.2 e
def lcRun (own : List Nat) (items : RE (List W)) (turn : W → En → RE (List W)) : RE (List W) := match items with
  | .ok xs e => match lcLoop own turn xs e with
    | .ok ws e' => if ws.length < lim then .ok ws e' else .err
    | _ => .err
  | .exn x e => .exn x e
  | .err => .err
def dGo : List (W × W) → List Ky → List W → Option (List Ky × List W)
  | [], ks, vs => some (ks, vs)
  | (a, b) :: r, ks, vs => match toKy a with
    | some k => if ks.length < lim then dGo r (putK ks vs k b).1 (putK ks vs k b).2 else none
    | none => none
def dcEl (kx vx : En → RE R1) (e : En) : RE (List (W × W)) := match kx e with
  | .ok r e1 => match use r e1 with
    | some (a, e2) => match vx e2 with
      | .ok r2 e3 => match use r2 e3 with
        | some (b, e4) => .ok [(a, b)] e4
        | none => .err
      | _ => .err
    | none => .err
  | _ => .err
def dcRun (own : List Nat) (items : RE (List W)) (turn : W → En → RE (List (W × W))) : RE R1 := match items with
  | .ok xs e => match lcLoop own turn xs e with
    | .ok ws e' => match dGo ws [] [] with
      | some (ks, vs) => .ok (.f (.dK ks vs)) e'
      | none => .err
    | _ => .err
  | .exn x e => .exn x e
  | .err => .err

def un1 (f : W → Option R1) (a : RE R1) : RE R1 := match a with
  | .ok r e => match peek r e with
    | some x => ofO (f x) e
    | none => .err
  | .exn x e => .exn x e
  | .err => .err
def un2 (f : W → W → Option R1) (a : RE R1) (b : En → RE R1) : RE R1 := match a with
  | .ok r e => match b e with
    | .ok r2 e2 => match peek r e2, peek r2 e2 with
      | some x, some y => ofO (f x y) e2
      | _, _ => .err
    | .exn x e => .exn x e
    | .err => .err
  | .exn x e => .exn x e
  | .err => .err
def un3 (f : W → W → W → Option R1) (a : RE R1) (b c : En → RE R1) : RE R1 := match a with
  | .ok r e => match b e with
    | .ok r2 e2 => match c e2 with
      | .ok r3 e3 => match peek r e3, peek r2 e3, peek r3 e3 with
        | some x, some y, some z => ofO (f x y z) e3
        | _, _, _ => .err
      | .exn x e => .exn x e
      | .err => .err
    | .exn x e => .exn x e
    | .err => .err
  | .exn x e => .exn x e
  | .err => .err
def bl (b : Option Bool) : Option R1 := b.map fun b => .w (.bl b)
def getD1 (x y z : W) : Option R1 := match x with
  | .dK ks vs => match toKy y with
    | some k => some (.w ((getK ks vs k).getD z))
    | none => none
  | .dT ks vs => match y with
    | .tup ys => match toKys ys with
      | some k => some (.w ((getT ks vs k).getD z))
      | none => none
    | _ => none
  | _ => none
def indexL (x : W) : List W → Nat → Option Nat
  | [], _ => none
  | y :: ys, k => if eqD y x then some k else indexL x ys (k + 1)
def indexW (x y : W) : Option R1 := match x with
  | .lst ys => if isD 59 y && isDs 58 ys then (indexL y ys 0).map fun k => .w (.int k) else none
  | .tup ys => if isD 59 y && isDs 58 ys then (indexL y ys 0).map fun k => .w (.int k) else none
  | _ => none

def evV (i : Nat) (e : En) : RE R1 := match e[i]? with
  | some (.v w) => .ok (.w w) e
  | some (.o _) => .ok (.s i) e
  | some (.p _) => .ok (.s i) e
  | _ => .err
def notE (r : RE Bool) : RE R1 := match r with
  | .ok b e' => .ok (.w (.bl (!b))) e'
  | .exn x e => .exn x e
  | .err => .err
def andE (a : RE R1) (b : En → RE R1) : RE R1 := match a with
  | .ok r e1 => match peek r e1 with
    | some x => match truth x with
      | some true => b e1
      | some false => .ok r e1
      | none => .err
    | none => .err
  | .exn x e => .exn x e
  | .err => .err
def orE (a : RE R1) (b : En → RE R1) : RE R1 := match a with
  | .ok r e1 => match peek r e1 with
    | some x => match truth x with
      | some true => .ok r e1
      | some false => b e1
      | none => .err
    | none => .err
  | .exn x e => .exn x e
  | .err => .err
/-- y stands (as r2 in e); y p c .. -/
def cmpT (p : W → W → Option Bool) (r2 : R1) (c : RE R1) (k : R1 → En → RE R1) : RE R1 := match c with
  | .ok r3 e3 => match peek r2 e3, peek r3 e3 with
    | some y, some z => match p y z with
      | some true => k r3 e3
      | some false => .ok (.w (.bl false)) e3
      | none => .err
    | _, _ => .err
  | .exn x e => .exn x e
  | .err => .err
def cmpL (p : W → W → Option Bool) (r2 : R1) (c : RE R1) : RE R1 := match c with
  | .ok r3 e3 => match peek r2 e3, peek r3 e3 with
    | some y, some z => ofO (bl (p y z)) e3
    | _, _ => .err
  | .exn x e => .exn x e
  | .err => .err
def cmp2E (o p : W → W → Option Bool) (a : RE R1) (b c : En → RE R1) : RE R1 := match a with
  | .ok r e1 => cmpT o r (b e1) fun r2 e2 => cmpL p r2 (c e2)
  | .exn x e => .exn x e
  | .err => .err
def cmp3E (o p q : W → W → Option Bool) (a : RE R1) (b c d : En → RE R1) : RE R1 := match a with
  | .ok r e1 => cmpT o r (b e1) fun r2 e2 => cmpT p r2 (c e2) fun r3 e3 => cmpL q r3 (d e3)
  | .exn x e => .exn x e
  | .err => .err
/-- a cut's end -/
def partE (nil : Bool) (f : En → RE R1) (e : En) : RE (Option Int) := match nil with
  | true => .ok none e
  | false => match f e with
    | .ok r e => match peek r e with
      | some (.int i) => .ok (some i) e
      | _ => .err
    | .exn x e => .exn x e
    | .err => .err
def slE (a : RE R1) (lo hi : En → RE (Option Int)) : RE R1 := match a with
  | .ok r e1 => match lo e1 with
    | .ok l e2 => match hi e2 with
      | .ok h e3 => match peek r e3 with
        | some x => ofO (cutW x l h) e3
        | _ => .err
      | .exn x e => .exn x e
      | .err => .err
    | .exn x e => .exn x e
    | .err => .err
  | .exn x e => .exn x e
  | .err => .err
def argsE {α : Type} (a : RE R1) (k : List W → En → RE α) : RE α := match a with
  | .ok (.l rs) e' => match wsOf rs with
    | some ws => k ws e'
    | none => .err
  | .exn x e => .exn x e
  | _ => .err
def valE {α : Type} (a : RE R1) (k : W → En → RE α) : RE α := match a with
  | .ok r e1 => match use r e1 with
    | some (x, e2) => k x e2
    | none => .err
  | .exn x e => .exn x e
  | .err => .err
def rsE {α : Type} (a : RE R1) (k : List R1 → En → RE α) : RE α := match a with
  | .ok (.l rs) e' => k rs e'
  | .exn x e => .exn x e
  | _ => .err
def walked (xs : List W) (e : En) : RE R1 := .ok (.l (xs.map .w)) e
def isNil : E → Bool
  | .nil => true
  | _ => false
def cond (n : Bool) (f : En → RE R1) : Option (En → RE R1) := if n then none else some f
def tupE (ws : List W) (e : En) : RE R1 := if ws.length ≤ lim then .ok (.w (.tup ws)) e else .err
def lstE (ws : List W) (e : En) : RE R1 := if ws.length ≤ lim then .ok (.f (.lst ws)) e else .err
def rngF (x : W) : Option (List W) := match x with
  | .int n => if big n then some (rangeL 0 n.toNat) else none
  | _ => none
def rngS (x : W) : Option (List W) := match x with
  | .int n => if big n && decide (n ≤ 1000000) then some (rangeL 0 n.toNat) else none
  | _ => none
def rng2F (x y : W) : Option (List W) := match x, y with
  | .int a, .int b => if big a && big b then some (rangeL a (b - a).toNat) else none
  | _, _ => none
def rng3F (x y z : W) : Option (List W) := match x, y, z with
  | .int a, .int b, .int c => if big a && big b && c == -1 then some (rangeC a c (a - b).toNat) else none
  | _, _, _ => none
def negF (x : W) : Option R1 := match x with | .int i => some (.w (.int (-i))) | _ => none
def fldF (f : Nat) (x : W) : Option R1 := match x with | .ins _ ns vs => (getF ns vs f).map .w | _ => none
def lOf (o : Option (List W)) : Option R1 := o.map fun xs => .l (xs.map .w)
def useS (r : R1) (e : En) : Option (R1 × En) := match r with
  | .s i => match use (.s i) e with
    | some (x, e2) => some (.w x, e2)
    | none => none
  | r => some (r, e)
def consE (a : RE R1) (es : En → RE R1) : RE R1 := valE a fun x e2 => rsE (es e2) fun rs e3 => .ok (.l (.w x :: rs)) e3
def consRE (a : RE R1) (es : En → RE R1) : RE R1 := match a with
  | .ok r e1 => match useS r e1 with
    | some (r, e2) => rsE (es e2) fun rs e3 => .ok (.l (r :: rs)) e3
    | none => .err
  | .exn x e => .exn x e
  | .err => .err
def pop0E (i : Nat) (e : En) : RE R1 := match e[i]? with
  | some (.o (.lst xs)) => match xs.getLast? with
    | some x => .ok (.w x) (e.set i (.o (.lst xs.dropLast)))
    | none => .err
  | _ => .err
def pop1E (i : Nat) (a : RE R1) : RE R1 := match a with
  | .ok r e1 => match peek r e1, e1[i]? with
    | some (.int j), some (.o (.lst xs)) => match ixN xs.length j with
      | some k => match xs[k]? with
        | some x => .ok (.w x) (e1.set i (.o (.lst (xs.eraseIdx k))))
        | none => .err
      | none => .err
    | _, _ => .err
  | .exn x e => .exn x e
  | .err => .err
section
variable (T : Tb) (K : Nat → List Sl → RF)
def ioE (f i : Nat) (ws : List W) (e' : En) : RE R1 := match e'[i]? with
  | some (.o z) => landedIo (K f (.p z :: ws.map .v)) i e'
  | some (.p z) => landedIoP (K f (.p z :: ws.map .v)) i e'
  | some (.v z) => landed (K f ((z :: ws).map .v)) e'
  | _ => .err
def hasE {α : Type} (i : Nat) (e : En) (r : RE α) : RE α := match e[i]? with
  | some (.v _) => r
  | some (.o _) => r
  | some (.p _) => r
  | _ => .err
def cvE (i : Nat) (e : En) (r : RE R1) : RE R1 := match e[i]? with
  | some (.v (.fn f)) => if T.has f then argsE r fun ws e' => landed (K f (ws.map .v)) e' else .err
  | _ => .err
def methE (m : Nat) (x : W) (ws : List W) (e3 : En) : RE R1 := match x with
  | .ins c ns vs => match T.meth c m with
    | some f => landed (K f ((x :: ws).map .v)) e3
    | none => .err
  | _ => .err
def makeE (c : Nat) (ws : List W) (e' : En) : RE R1 := match T.init c with
  | some f => landedMk (K f (.p (.ins c [] []) :: ws.map .v)) e'
  | none => .err
def ev : E → En → RE R1
  | .v i, e => evV i e
  | .k w, e => .ok (.w w) e
  | .g _ i, e => .ok (.w (.int i)) e
  | .fn f, e => .ok (.w (.fn f)) e
  | .bin o a b, e => un2 (binW o) (ev a e) (ev b)
  | .neg a, e => un1 negF (ev a e)
  | .not a, e => notE (tst (ev a e))
  | .and a b, e => andE (ev a e) (ev b)
  | .or a b, e => orE (ev a e) (ev b)
  | .cmp o a b, e => un2 (fun x y => bl (cmpW o x y)) (ev a e) (ev b)
  | .cmp2 o p a b c, e => cmp2E (cmpW o) (cmpW p) (ev a e) (ev b) (ev c)
  | .cmp3 o p q a b c d, e => cmp3E (cmpW o) (cmpW p) (cmpW q) (ev a e) (ev b) (ev c) (ev d)
  | .ite c a b, e => iteE (tst (ev c e)) (ev a) (ev b)
  | .ix a b, e => un2 (fun x y => (ixW x y).map .w) (ev a e) (ev b)
  | .sl a lo hi, e => slE (ev a e) (partE (isNil lo) (ev lo)) (partE (isNil hi) (ev hi))
  | .rev a, e => un1 revW (ev a e)
  | .tup es, e => argsE (ev es e) tupE
  | .lst es, e => argsE (ev es e) lstE
  | .d0 t, e => .ok (.f (if t then .dT [] [] else .dK [] [])) e
  | .dd ks vs, e => .err
  | .b1 f a, e => un1 (b1W f) (ev a e)
  | .b2 f a b, e => un2 (b2W f) (ev a e) (ev b)
  | .isi a ts _, e => un1 (fun x => bl (isTys ts x)) (ev a e)
  | .lrng a, e => un1 (fun x => (rngS x).map fun l => .f (.lst l)) (ev a e)
  | .trng a, e => un1 (fun x => (rngS x).map fun l => .w (.tup l)) (ev a e)
  | .trng3 a b c, e => un3 (fun x y z => (rng3F x y z).map fun l => .w (.tup l)) (ev a e) (ev b) (ev c)
  | .rng1 a, e => un1 (fun x => lOf (rngF x)) (ev a e)
  | .rng2 a b, e => un2 (fun x y => lOf (rng2F x y)) (ev a e) (ev b)
  | .rng3 a b c, e => un3 (fun x y z => lOf (rng3F x y z)) (ev a e) (ev b) (ev c)
  | .enu a, e => itE (seqI (ev a e)) fun q e' => walked (num 0 q.2) e'
  | .zip a b, e => itE (seqI (ev a e)) fun q e1 => itE (seqI (ev b e1)) fun q2 e2 => if q.1 == q2.1 then walked (zipL q.2 q2.2) e2 else .err
  | .lc own p it c el, e => itE (lcRun own (asItems (ev it e)) (lcTurn own p (cond (isNil c) (ev c)) (lcEl (ev el)))) fun ws e' => .ok (.f (.lst ws)) e'
  | .lc2 own own1 p it c p1 it1 c1 el, e => itE (lcRun own (asItems (ev it e)) (lcTurn own p (cond (isNil c) (ev c)) (fun e1 =>
        match asItems (ev it1 e1) with
        | .ok ys e2 => lcLoop own1 (lcTurn own1 p1 (cond (isNil c1) (ev c1)) (lcEl (ev el))) ys e2
        | _ => .err))) fun ws e' => .ok (.f (.lst ws)) e'
  | .dc t own p it c kx vx, e => dcRun own (asItems (ev it e)) (lcTurn own p (cond (isNil c) (ev c)) (dcEl (ev kx) (ev vx)))
  | .call f es, e => argsE (ev es e) fun ws e' => landed (K f (ws.map .v)) e'
  | .callIo f i es, e => hasE i e (argsE (ev es e) (ioE K f i))
  | .callV i es, e => cvE T K i e (ev es e)
  | .meth m a es, e => valE (ev a e) fun x e2 => argsE (ev es e2) (methE T K m x)
  | .make c es ds, e => argsE (ev es e) fun ws e' => makeE T K c (ws ++ ds) e'
  | .at a f, e => un1 (fldF f) (ev a e)
  | .pop0 i, e => pop0E i e
  | .pop1 i a, e => pop1E i (ev a e)
  | .index a b, e => un2 indexW (ev a e) (ev b)
  | .get a b c, e => un3 getD1 (ev a e) (ev b) (ev c)
  | .nil, e => .ok (.l []) e
  | .cons a es, e => consE (ev a e) (ev es)
  | .consR a es, e => consRE (ev a e) (ev es)
end

/-! ### statements -/
inductive Tg where
  | p (p : Pt) | s (i : Nat) (a : E) | f (i : Nat) (f : Nat)
  deriving Inhabited
/-- what an except clause hands back: a written value, the error's field, a pair, texts joined -/
inductive HE where
  | k (w : W) | fld | t2 (a b : HE) | add (a b : HE)
  deriving Inhabited
def hv (f : Option W) : HE → Option W
  | .k w => some w
  | .fld => none
  | .t2 a b => match hv f a, hv f b with
    | some x, some y => some (.tup [x, y])
    | _, _ => none
  | .add a b => match hv f a, hv f b with
    | some (.str x), some (.str y) => if x.length + y.length ≤ lim then some (.str (x ++ y)) else none
    | _, _ => none
def catch_ (x : Exn) : List (Nat × Option Nat × HE) → Option (Option W)
  | [] => none
  | (c, none, h) :: r => if x.cls = c then some (hv x.fld h) else catch_ x r
  | (c, some _, h) :: r => if x.cls = c then some none else catch_ x r
inductive Fl where
  | next | ret (fr : Bool) (w : W) | brk | cont
  deriving Inhabited
inductive S where
  | asg (t : Tg) (a : E) | par (ts : List Tg) (es : E)
  | aug (i : Nat) (o : BOp) (a b : E)
  | app (i : Nat) (a : E) | ext (i : Nat) (a : E) | expr (a : E)
  | ret (a : E) | ite (c : E) (a b : S) | for (p : Pt) (it : E) (b : S) | while (c : E) (b : S)
  | raise (c : Nat) | raiseF (c : Nat) (a : E)
  | try (b : S) (hs : List (Nat × Option Nat × HE))
  | pass | brk | cont
  | nil | cons (a b : S)
  deriving Inhabited

def fuel : Nat := 1000000000000

def setW (x y z : W) : Option W := match x with
  | .lst xs => match y with
    | .int i => match ixN xs.length i with
      | some j => some (.lst (xs.set j z))
      | none => none
    | _ => none
  | .dK ks vs => match toKy y with
    | some k => if ks.length < lim then some (.dK (putK ks vs k z).1 (putK ks vs k z).2) else none
    | none => none
  | .dT ks vs => match y with
    | .tup ys => match toKys ys with
      | some k => if ks.length < lim then some (.dT (putT ks vs k z).1 (putT ks vs k z).2) else none
      | none => none
    | _ => none
  | _ => none
/-- a changed object, in its slot -/
def chg (i : Nat) (g : W → Option W) (e : En) : Option En := match e[i]? with
  | some (.o x) => match g x with
    | some y => some (e.set i (.o y))
    | none => none
  | some (.p x) => match g x with
    | some y => some (e.set i (.p y))
    | none => none
  | _ => none
def ofU (o : Option En) : RE Unit := match o with
  | some e => .ok () e
  | none => .err
def nxt (o : Option En) : RE Fl := match o with
  | some e => .ok .next e
  | none => .err
def resE {α : Type} (a : RE R1) (k : R1 → En → RE α) : RE α := match a with
  | .ok r e1 => k r e1
  | .exn x e => .exn x e
  | .err => .err
def putP (q : Pt) (r : R1) (e : En) : RE Unit := match q, r with
  | .n i, .f w => ofU (store i (.o w) e)
  | q, r => match use r e with
    | some (w, e') => ofU (bindP q w e')
    | none => .err
def putS2 (i : Nat) (w : W) (r2 : R1) (e2 : En) : RE Unit := match peek r2 e2 with
  | some y => ofU (chg i (fun x => setW x y w) e2)
  | none => .err
def putS (i : Nat) (fa : En → RE R1) (r : R1) (e : En) : RE Unit := match use r e with
  | some (w, e1) => hasE i e1 (resE (fa e1) (putS2 i w))
  | none => .err
def insSet (g : Nat) (w x : W) : Option W := match x with
  | .ins c ns vs => if ns.length < 900 then some (.ins c (putF ns vs g w).1 (putF ns vs g w).2) else none
  | _ => none
def putA (i g : Nat) (r : R1) (e : En) : RE Unit := match use r e with
  | some (w, e1) => ofU (chg i (insSet g w) e1)
  | none => .err
def put (V : E → En → RE R1) : Tg → R1 → En → RE Unit
  | .p q, r, e => putP q r e
  | .s i a, r, e => putS i (V a) r e
  | .f i g, r, e => putA i g r e
def puts (V : E → En → RE R1) : List Tg → List R1 → En → RE Unit
  | [], [], e => .ok () e
  | t :: ts, r :: rs, e => match put V t r e with
    | .ok _ e' => puts V ts rs e'
    | .exn x e => .exn x e
    | .err => .err
  | _, _, _ => .err
def forL (bind : W → En → Option En) (body : En → RE Fl) : List W → En → RE Fl
  | [], e => .ok .next e
  | x :: xs, e => match bind x e with
    | some e1 => match body e1 with
      | .ok .next e2 => forL bind body xs e2
      | .ok .cont e2 => forL bind body xs e2
      | .ok .brk e2 => .ok .next e2
      | .ok (.ret fr w) e2 => .ok (.ret fr w) e2
      | .exn x e => .exn x e
      | .err => .err
    | none => .err
def whileL (test : En → RE Bool) (body : En → RE Fl) : Nat → En → RE Fl
  | 0, _ => .err
  | n + 1, e => match test e with
    | .ok true e1 => match body e1 with
      | .ok .next e2 => whileL test body n e2
      | .ok .cont e2 => whileL test body n e2
      | .ok .brk e2 => .ok .next e2
      | .ok (.ret fr w) e2 => .ok (.ret fr w) e2
      | .exn x e => .exn x e
      | .err => .err
    | .ok false e1 => .ok .next e1
    | .exn x e => .exn x e
    | .err => .err
/-- what is handed back: a list or dict of the frame's own goes along -/
def back (r : R1) (e : En) : Option (Bool × W) := match r with
  | .w w => some (false, w)
  | .f w => some (true, w)
  | .s i => match e[i]? with
    | some (.v w) => some (false, w)
    | some (.o w) => some (true, w)
    | _ => none
  | .l _ => none
def retE (r : R1) (e : En) : RE Fl := match back r e with
  | some (fr, w) => .ok (.ret fr w) e
  | none => .err
def unitF (r : RE Unit) : RE Fl := match r with
  | .ok _ e => .ok .next e
  | .exn x e => .exn x e
  | .err => .err
def augOp (o : BOp) (x y : Int) : Option Int := match o with
  | .add => some (x + y)
  | .sub => some (x - y)
  | _ => none
/-- xs[y] o= b, the place's value an int -/
def augE2 (i : Nat) (o : BOp) (old : Int) (y : W) (r2 : R1) (e2 : En) : RE Fl := match peek r2 e2 with
  | some (.int z) => match augOp o old z with
    | some new => nxt (chg i (fun x => setW x y (.int new)) e2)
    | none => .err
  | _ => .err
def mutAt (i : Nat) (e : En) : Option W := match e[i]? with
  | some (.o x) => some x
  | some (.p x) => some x
  | _ => none
def augE (i : Nat) (o : BOp) (fb : En → RE R1) (r : R1) (e1 : En) : RE Fl := match r with
  | .w y => match mutAt i e1 with
    | some x => match ixW x y with
      | some (.int old) => resE (fb e1) (augE2 i o old y)
      | _ => .err
    | none => .err
  | _ => .err
def noSB : List R1 → Bool
  | [] => true
  | r :: rs => (match r with | .s _ => false | _ => true) && noSB rs
def parE (V : E → En → RE R1) (ts : List Tg) (rs : List R1) (e : En) : RE Fl := if noSB rs && rs.length == ts.length && decide (ts.length ≤ 100) then unitF (puts V ts rs e) else .err
def hasL {α : Type} (i : Nat) (e : En) (r : RE α) : RE α := match mutAt i e with
  | some (.lst _) => r
  | _ => .err
def appW (w x : W) : Option W := match x with
  | .lst xs => if xs.length < lim then some (.lst (xs ++ [w])) else none
  | _ => none
def extW (w x : W) : Option W := match w, x with
  | .lst ys, .lst xs => if xs.length + ys.length ≤ lim then some (.lst (xs ++ ys)) else none
  | _, _ => none
def tryE (xcl : Nat → Bool) (r : RE Fl) (hs : List (Nat × Option Nat × HE)) : RE Fl := match r with
  | .exn x e1 => if xcl x.cls then (match catch_ x hs with
    | some (some w) => .ok (.ret false w) e1
    | some none => .err
    | none => .exn x e1) else .err
  | r => r
def seqE (a : RE Fl) (b : En → RE Fl) : RE Fl := match a with
  | .ok .next e1 => b e1
  | r => r
section
variable (T : Tb) (K : Nat → List Sl → RF)
def ex : S → En → RE Fl
  | .asg t a, e => resE (ev T K a e) fun r e1 => unitF (put (ev T K) t r e1)
  | .par ts es, e => rsE (ev T K es e) (parE (ev T K) ts)
  | .aug i o a b, e => hasE i e (resE (ev T K a e) (augE i o (ev T K b)))
  | .app i a, e => hasL i e (valE (ev T K a e) fun w e2 => nxt (chg i (appW w) e2))
  | .ext i a, e => hasL i e (valE (ev T K a e) fun w e2 => nxt (chg i (extW w) e2))
  | .expr a, e => resE (ev T K a e) fun _ e1 => .ok .next e1
  | .ret a, e => resE (ev T K a e) retE
  | .ite c a b, e => iteE (tst (ev T K c e)) (ex a) (ex b)
  | .for p it b, e => itE (asItems (ev T K it e)) (forL (bindP p) (ex b))
  | .while c b, e => whileL (fun e => tst (ev T K c e)) (ex b) fuel e
  | .raise c, e => .exn ⟨c, none⟩ e
  | .raiseF c a, e => valE (ev T K a e) fun w e2 => .exn ⟨c, some w⟩ e2
  | .try b hs, e => tryE T.xcl (ex b e) hs
  | .pass, e => .ok .next e
  | .brk, e => .ok .brk e
  | .cont, e => .ok .cont e
  | .nil, e => .ok .next e
  | .cons a b, e => seqE (ex a e) (ex b)
end

structure FD where
  np : Nat
  ns : Nat
  body : S
/-- the first slot at the end -/
def endS (io : Bool) (e : En) : Option Sl := match io with
  | false => some .n
  | true => match e with
    | .p w :: _ => some (.p w)
    | _ => none
def isP : List Sl → Bool
  | .p _ :: _ => true
  | _ => false
def fin (io : Bool) (r : RE Fl) : RF := match r with
  | .ok (.ret fr w) e => match endS io e with
    | some s => .ok fr w s
    | none => .err
  | .ok .next e => match endS io e with
    | some s => .ok false .non s
    | none => .err
  | .exn x e => match endS io e with
    | some s => .exn x s
    | none => .err
  | _ => .err
def run (T : Tb) (P : Nat → Option FD) : Nat → Nat → List Sl → RF
  | 0, _, _ => .err
  | n + 1, f, args => match P f with
    | some d => if args.length = d.np then fin (isP args) (ex T (run T P n) d.body (args ++ List.replicate (d.ns - d.np) .n)) else .err
    | none => .err
end Iv
end

section
set_option Elab.async false
set_option linter.all false
set_option maxRecDepth 100000
namespace Iv
open PySem L2
set_option autoImplicit false

/-- where the text's defs and classes stand; the names of fields -/
structure Bd where
  fa : Nat → Addr
  ca : Nat → Addr
  fld : Nat → Str
  sk : Addr → List V → Prop

/-! ### values, read over what is fixed (G) -/
mutual
inductive Rep (B : Bd) (G : Hp) : W → V → Prop
  | non : Rep B G .non .non
  | bl (b : Bool) : Rep B G (.bl b) (.bl b)
  | int (i : Int) : Rep B G (.int i) (.int i)
  | str (s : Str) : Rep B G (.str s) (.str s)
  | fn (f : Nat) : Rep B G (.fn f) (.ref (B.fa f))
  | obj {w : W} {a : Addr} {o : HO} : G a = some o → HoRep B G w o → Rep B G w (.ref a)
  | skr {xs : List W} {a : Addr} {vs : List V} : B.sk a vs → Reps B G xs vs → Rep B G (.scr xs) (.ref a)
inductive HoRep (B : Bd) (G : Hp) : W → HO → Prop
  | tup {xs : List W} {vs : List V} : Reps B G xs vs → HoRep B G (.tup xs) (.tup vs)
  | lst {xs : List W} {vs : List V} : Reps B G xs vs → HoRep B G (.lst xs) (.lst vs)
  | scr {xs : List W} {vs : List V} {o : Obj} : Reps B G xs vs → HoRep B G (.scr xs) (.frz o (.lst vs))
  | dK {ks : List Ky} {ws : List W} {kvs : List (Key × V)} : kvs.map (·.1) = ks → Reps B G ws (kvs.map (·.2)) → HoRep B G (.dK ks ws) (.dK kvs)
  | dT {ks : List (List Ky)} {ws : List W} {kvs : List (List Key × V)} : kvs.map (·.1) = ks → Reps B G ws (kvs.map (·.2)) → HoRep B G (.dT ks ws) (.dT kvs)
  | ins {c : Nat} {ns : List Nat} {ws : List W} {dx : Addr} {fs : List (Str × V)} : fs.map (·.1) = ns.map B.fld → Reps B G ws (fs.map (·.2)) → HoRep B G (.ins c ns ws) (.ins (B.ca c) dx fs)
inductive Reps (B : Bd) (G : Hp) : List W → List V → Prop
  | nil : Reps B G [] []
  | cons {x : W} {xs : List W} {v : V} {vs : List V} : Rep B G x v → Reps B G xs vs → Reps B G (x :: xs) (v :: vs)
end

abbrev Sub (G H : Hp) : Prop := ∀ a o, G a = some o → H a = some o
variable {B : Bd}

mutual
theorem Rep.mono {G G' : Hp} (k : Sub G G') : ∀ (w : W) (v : V), Rep B G w v → Rep B G' w v
  | .non, _, h => by
    cases h with
    | non => exact .non
    | obj e r => cases r
  | .bl b, _, h => by
    cases h with
    | bl => exact .bl b
    | obj e r => cases r
  | .int i, _, h => by
    cases h with
    | int => exact .int i
    | obj e r => cases r
  | .str s, _, h => by
    cases h with
    | str => exact .str s
    | obj e r => cases r
  | .fn f, _, h => by
    cases h with
    | fn => exact .fn f
    | obj e r => cases r
  | .tup xs, _, h => by
    cases h with
    | obj e r => cases r with | tup r => exact .obj (k _ _ e) (.tup (Reps.mono k xs _ r))
  | .lst xs, _, h => by
    cases h with
    | obj e r => cases r with | lst r => exact .obj (k _ _ e) (.lst (Reps.mono k xs _ r))
  | .scr xs, _, h => by
    cases h with
    | obj e r => cases r with | scr r => exact .obj (k _ _ e) (.scr (Reps.mono k xs _ r))
    | skr e r => exact .skr e (Reps.mono k xs _ r)
  | .dK ks ws, _, h => by
    cases h with
    | obj e r => cases r with | dK q r => exact .obj (k _ _ e) (.dK q (Reps.mono k ws _ r))
  | .dT ks ws, _, h => by
    cases h with
    | obj e r => cases r with | dT q r => exact .obj (k _ _ e) (.dT q (Reps.mono k ws _ r))
  | .ins c ns ws, _, h => by
    cases h with
    | obj e r => cases r with | ins q r => exact .obj (k _ _ e) (.ins q (Reps.mono k ws _ r))
theorem Reps.mono {G G' : Hp} (k : Sub G G') : ∀ (ws : List W) (vs : List V), Reps B G ws vs → Reps B G' ws vs
  | [], _, h => by cases h; exact .nil
  | x :: xs, _, h => by
    cases h with
    | cons r t => exact .cons (Rep.mono k x _ r) (Reps.mono k xs _ t)
end
theorem HoRep.mono {G G' : Hp} (k : Sub G G') {w : W} {o : HO} (h : HoRep B G w o) : HoRep B G' w o := by
  cases h with
  | tup r => exact .tup (Reps.mono k _ _ r)
  | lst r => exact .lst (Reps.mono k _ _ r)
  | scr r => exact .scr (Reps.mono k _ _ r)
  | dK q r => exact .dK q (Reps.mono k _ _ r)
  | dT q r => exact .dT q (Reps.mono k _ _ r)
  | ins q r => exact .ins q (Reps.mono k _ _ r)

theorem Reps.length {G : Hp} : ∀ {ws : List W} {vs : List V}, Reps B G ws vs → ws.length = vs.length
  | _, _, .nil => rfl
  | _, _, .cons _ t => congrArg (· + 1) t.length
theorem Reps.append {G : Hp} : ∀ {ws ws' : List W} {vs vs' : List V}, Reps B G ws vs → Reps B G ws' vs' → Reps B G (ws ++ ws') (vs ++ vs')
  | _, _, _, _, .nil, s => s
  | _, _, _, _, .cons r t, s => .cons r (t.append s)
theorem Reps.get {G : Hp} : ∀ {ws : List W} {vs : List V} {i : Nat} {w : W}, Reps B G ws vs → ws[i]? = some w → ∃ v, vs[i]? = some v ∧ Rep B G w v
  | _, _, _, _, .nil, e => by simp at e
  | _, _, 0, _, .cons r _, e => by simp at e; subst e; exact ⟨_, rfl, r⟩
  | _, _, i + 1, _, .cons _ t, e => by
    obtain ⟨v, h1, h2⟩ := Reps.get (i := i) t (by simpa using e)
    exact ⟨v, by simpa using h1, h2⟩
theorem Reps.take {G : Hp} : ∀ {ws : List W} {vs : List V} (n : Nat), Reps B G ws vs → Reps B G (ws.take n) (vs.take n)
  | _, _, 0, _ => .nil
  | _, _, _ + 1, .nil => .nil
  | _, _, n + 1, .cons r t => .cons r (t.take n)
theorem Reps.drop {G : Hp} : ∀ {ws : List W} {vs : List V} (n : Nat), Reps B G ws vs → Reps B G (ws.drop n) (vs.drop n)
  | _, _, 0, r => r
  | _, _, _ + 1, .nil => .nil
  | _, _, n + 1, .cons _ t => t.drop n
theorem Reps.set {G : Hp} {w : W} {v : V} (r : Rep B G w v) : ∀ {ws : List W} {vs : List V} (n : Nat), Reps B G ws vs → Reps B G (ws.set n w) (vs.set n v)
  | _, _, _, .nil => .nil
  | _, _, 0, .cons _ t => .cons r t
  | _, _, n + 1, .cons q t => .cons q (t.set r n)
theorem Reps.eraseIdx {G : Hp} : ∀ {ws : List W} {vs : List V} (n : Nat), Reps B G ws vs → Reps B G (ws.eraseIdx n) (vs.eraseIdx n)
  | _, _, _, .nil => .nil
  | _, _, 0, .cons _ t => t
  | _, _, n + 1, .cons q t => .cons q (t.eraseIdx n)
theorem Reps.reverse {G : Hp} : ∀ {ws : List W} {vs : List V}, Reps B G ws vs → Reps B G ws.reverse vs.reverse
  | _, _, .nil => .nil
  | _, _, .cons r t => by
    rw [List.reverse_cons, List.reverse_cons]
    exact t.reverse.append (.cons r .nil)
theorem Reps.replicate {G : Hp} {ws : List W} {vs : List V} (r : Reps B G ws vs) : ∀ k : Nat, Reps B G (reps k ws) (List.replicate k vs).flatten
  | 0 => .nil
  | k + 1 => by
    show Reps B G (List.replicate (k + 1) ws).flatten (List.replicate (k + 1) vs).flatten
    rw [List.replicate_succ, List.replicate_succ, List.flatten_cons, List.flatten_cons]
    exact r.append (r.replicate k)

/-! ### frames -/
/-- what may change -/
def isMut : W → Bool
  | .lst _ => true
  | .dK _ _ => true
  | .dT _ _ => true
  | .ins _ _ _ => true
  | _ => false
/-- w is what stands at a, not fixed -/
structure Own (B : Bd) (G H : Hp) (w : W) (a : Addr) : Prop where
  ex : ∃ o, H a = some o ∧ HoRep B G w o
  no : G a = none
  mu : isMut w = true
def SlOk (B : Bd) (G H : Hp) (z : Option Addr) (s : Sl) (x : Option V) : Prop := match s with
  | .n => True
  | .v w => ∃ v, x = some v ∧ Rep B G w v
  | .o w => ∃ a, x = some (.ref a) ∧ Own B G H w a ∧ z ≠ some a
  | .p w => ∃ a, x = some (.ref a) ∧ Own B G H w a ∧ z = some a
def OwnAt (e : En) (σ : St) (i : Nat) (a : Addr) : Prop := (∃ w, e[i]? = some (.o w) ∨ e[i]? = some (.p w)) ∧ σ[i]? = some (some (.ref a))
def Owned (e : En) (σ : St) (a : Addr) : Prop := ∃ i, OwnAt e σ i a
structure StOk (B : Bd) (z : Option Addr) (G H : Hp) (e : En) (σ : St) : Prop where
  sub : Sub G H
  len : e.length = σ.length
  sl : ∀ (i : Nat) (s : Sl), e[i]? = some s → ∃ x, σ[i]? = some x ∧ SlOk B G H z s x
  inj : ∀ (i j : Nat) (a : Addr), OwnAt e σ i a → OwnAt e σ j a → i = j
  zin : ∀ a : Addr, z = some a → H a ≠ none
/-- what one step may change: its own, and what is new -/
structure Fr (G H : Hp) (e : En) (σ : St) (G' H' : Hp) (e' : En) (σ' : St) : Prop where
  g : Sub G G'
  keep : ∀ a o, H a = some o → ¬ Owned e σ a → H' a = some o ∧ G' a = G a
  tr : ∀ a, H a ≠ none → H' a ≠ none
  own : ∀ a, Owned e' σ' a → Owned e σ a ∨ H a = none
variable {z : Option Addr} {G H G' H' G1 H1 G2 H2 : Hp} {e e' e1 e2 : En} {σ σ' σ1 σ2 : St} {w : W} {v : V} {a : Addr} {r : R1} {Q : VK}
theorem Fr.refl : Fr G H e σ G H e σ := ⟨fun _ _ h => h, fun _ _ h _ => ⟨h, rfl⟩, fun _ h => h, fun _ h => .inl h⟩
theorem Fr.trans (x : Fr G H e σ G1 H1 e1 σ1) (y : Fr G1 H1 e1 σ1 G2 H2 e2 σ2) : Fr G H e σ G2 H2 e2 σ2 where
  g := fun a o h => y.g a o (x.g a o h)
  keep := fun a o h n => by
    obtain ⟨h1, h2⟩ := x.keep a o h n
    have n1 : ¬ Owned e1 σ1 a := fun q => (x.own a q).elim n fun q => by rw [h] at q; cases q
    obtain ⟨h3, h4⟩ := y.keep a o h1 n1
    exact ⟨h3, h4.trans h2⟩
  tr := fun a h => y.tr a (x.tr a h)
  own := fun a h => by
    rcases y.own a h with h | h
    · exact x.own a h
    · refine .inr ?_
      cases q : H a with
      | none => rfl
      | some o => exact absurd h (x.tr a (by rw [q]; exact fun z => nomatch z))
theorem Fr.free (x : Fr G H e σ G' H' e' σ') (h : H' a = none) : H a = none := by
  cases q : H a with
  | none => rfl
  | some o => exact absurd h (x.tr a (by rw [q]; exact fun z => nomatch z))
theorem Own.there (x : Own B G H w a) : H a ≠ none := fun h => by
  obtain ⟨o, q, _⟩ := x.ex
  rw [h] at q; cases q
theorem Own.fr (x : Own B G H w a) (n : ¬ Owned e σ a) (f : Fr G H e σ G' H' e' σ') : Own B G' H' w a := by
  obtain ⟨o, q, h⟩ := x.ex
  obtain ⟨h1, h2⟩ := f.keep a o q n
  exact ⟨⟨o, h1, h.mono f.g⟩, h2.trans x.no, x.mu⟩
theorem Fr.notOwned (f : Fr G H e σ G' H' e' σ') (n : ¬ Owned e σ a) (h : H a ≠ none) : ¬ Owned e' σ' a := fun q => (f.own a q).elim n h

/-- the result r of an expression is v -/
def RepR (B : Bd) (z : Option Addr) (G H : Hp) (e : En) (σ : St) (r : R1) (v : V) : Prop := match r with
  | .w w => Rep B G w v
  | .s i => σ[i]? = some (some v)
  | .f w => ∃ a, v = .ref a ∧ Own B G H w a ∧ ¬ Owned e σ a ∧ z ≠ some a
  | .l _ => False
theorem RepR.fr (h : RepR B z G H e σ r v) (f : Fr G H e σ G' H' e' σ) : RepR B z G' H' e' σ r v := by
  cases r with
  | w w => exact Rep.mono f.g _ _ h
  | s i => exact h
  | f w =>
    obtain ⟨a, rfl, o, n, z⟩ := h
    exact ⟨a, rfl, o.fr n f, f.notOwned n o.there, z⟩
  | l rs => exact h
/-- a list, a dict that is made within -/
def New (H : Hp) (r : R1) (v : V) : Prop := ∀ w a, r = .f w → v = .ref a → H a = none

/-- what is read at v now -/
def RdW (B : Bd) (G H : Hp) (w : W) (v : V) : Prop := Rep B G w v ∨ ∃ a o, v = .ref a ∧ H a = some o ∧ HoRep B G w o ∧ isMut w = true
theorem StOk.at (S : StOk B z G H e σ) {i : Nat} (h : σ[i]? = some (some v)) (p : (∃ w, e[i]? = some (.v w)) ∨ (∃ w, e[i]? = some (.o w)) ∨ ∃ w, e[i]? = some (.p w)) :
    ∃ w, (e[i]? = some (.v w) ∨ e[i]? = some (.o w) ∨ e[i]? = some (.p w)) ∧ RdW B G H w v := by
  rcases p with ⟨w, p⟩ | ⟨w, p⟩ | ⟨w, p⟩
  · obtain ⟨x, h1, v', rfl, h2⟩ := S.sl i _ p
    rw [h] at h1; cases h1
    exact ⟨w, .inl p, .inl h2⟩
  · obtain ⟨x, h1, a, rfl, h2, _⟩ := S.sl i _ p
    rw [h] at h1; cases h1
    obtain ⟨o, q, r⟩ := h2.ex
    exact ⟨w, .inr (.inl p), .inr ⟨a, o, rfl, q, r, h2.mu⟩⟩
  · obtain ⟨x, h1, a, rfl, h2, _⟩ := S.sl i _ p
    rw [h] at h1; cases h1
    obtain ⟨o, q, r⟩ := h2.ex
    exact ⟨w, .inr (.inr p), .inr ⟨a, o, rfl, q, r, h2.mu⟩⟩
theorem peek_ok (S : StOk B z G H e σ) (h : RepR B z G H e σ r v) (p : peek r e = some w) : RdW B G H w v := by
  cases r with
  | w w' => cases p; exact .inl h
  | f w' =>
    cases p
    obtain ⟨a, rfl, o, _⟩ := h
    obtain ⟨o', q, r⟩ := o.ex
    exact .inr ⟨a, o', rfl, q, r, o.mu⟩
  | s i =>
    have h' : σ[i]? = some (some v) := h
    unfold peek at p
    dsimp only at p
    split at p
    · rename_i w' q; cases p
      obtain ⟨w2, c, d⟩ := S.at h' (.inl ⟨_, q⟩)
      rw [q] at c
      rcases c with c | c | c <;> cases c
      exact d
    · rename_i w' q; cases p
      obtain ⟨w2, c, d⟩ := S.at h' (.inr (.inl ⟨_, q⟩))
      rw [q] at c
      rcases c with c | c | c <;> cases c
      exact d
    · rename_i w' q; cases p
      obtain ⟨w2, c, d⟩ := S.at h' (.inr (.inr ⟨_, q⟩))
      rw [q] at c
      rcases c with c | c | c <;> cases c
      exact d
    · cases p
  | l rs => exact h.elim

/-! ### reading by kinds -/
theorem RdW.non (h : RdW B G H .non v) : v = .non := by
  rcases h with h | ⟨a, o, rfl, h, r, mu⟩
  · cases h with
    | non => rfl
    | obj _ r => cases r
  · cases r
theorem RdW.bl {b : Bool} (h : RdW B G H (.bl b) v) : v = .bl b := by
  rcases h with h | ⟨a, o, rfl, h, r, mu⟩
  · cases h with
    | bl => rfl
    | obj _ r => cases r
  · cases r
theorem RdW.int {i : Int} (h : RdW B G H (.int i) v) : v = .int i := by
  rcases h with h | ⟨a, o, rfl, h, r, mu⟩
  · cases h with
    | int => rfl
    | obj _ r => cases r
  · cases r
theorem RdW.str {x : Str} (h : RdW B G H (.str x) v) : v = .str x := by
  rcases h with h | ⟨a, o, rfl, h, r, mu⟩
  · cases h with
    | str => rfl
    | obj _ r => cases r
  · cases r
theorem RdW.fn {f : Nat} (h : RdW B G H (.fn f) v) : v = .ref (B.fa f) := by
  rcases h with h | ⟨a, o, rfl, h, r, mu⟩
  · cases h with
    | fn => rfl
    | obj _ r => cases r
  · cases r
theorem RdW.tup {xs : List W} (h : RdW B G H (.tup xs) v) : ∃ a vs, v = .ref a ∧ G a = some (.tup vs) ∧ Reps B G xs vs := by
  rcases h with h | ⟨a, o, rfl, h, r, mu⟩
  · cases h with
    | obj q r => cases r with | tup r => exact ⟨_, _, rfl, q, r⟩
  · cases mu
theorem RdW.lst (s : Sub G H) {xs : List W} (h : RdW B G H (.lst xs) v) : ∃ a vs, v = .ref a ∧ H a = some (.lst vs) ∧ Reps B G xs vs := by
  rcases h with h | ⟨a, o, rfl, h, r, mu⟩
  · cases h with
    | obj q r => cases r with | lst r => exact ⟨_, _, rfl, s _ _ q, r⟩
  · cases r with | lst r => exact ⟨_, _, rfl, h, r⟩
theorem RdW.scr {xs : List W} (h : RdW B G H (.scr xs) v) : ∃ a vs, v = .ref a ∧ ((∃ o, G a = some (.frz o (.lst vs))) ∨ B.sk a vs) ∧ Reps B G xs vs := by
  rcases h with h | ⟨a, o, rfl, h, r, mu⟩
  · cases h with
    | obj q r => cases r with | scr r => exact ⟨_, _, rfl, .inl ⟨_, q⟩, r⟩
    | skr q r => exact ⟨_, _, rfl, .inr q, r⟩
  · cases mu
theorem RdW.dK (s : Sub G H) {ks : List Ky} {ws : List W} (h : RdW B G H (.dK ks ws) v) : ∃ a kvs, v = .ref a ∧ H a = some (.dK kvs) ∧ kvs.map (·.1) = ks ∧ Reps B G ws (kvs.map (·.2)) := by
  rcases h with h | ⟨a, o, rfl, h, r, mu⟩
  · cases h with
    | obj q r => cases r with | dK q2 r => exact ⟨_, _, rfl, s _ _ q, q2, r⟩
  · cases r with | dK q2 r => exact ⟨_, _, rfl, h, q2, r⟩
theorem RdW.dT (s : Sub G H) {ks : List (List Ky)} {ws : List W} (h : RdW B G H (.dT ks ws) v) : ∃ a kvs, v = .ref a ∧ H a = some (.dT kvs) ∧ kvs.map (·.1) = ks ∧ Reps B G ws (kvs.map (·.2)) := by
  rcases h with h | ⟨a, o, rfl, h, r, mu⟩
  · cases h with
    | obj q r => cases r with | dT q2 r => exact ⟨_, _, rfl, s _ _ q, q2, r⟩
  · cases r with | dT q2 r => exact ⟨_, _, rfl, h, q2, r⟩
theorem RdW.ins (s : Sub G H) {c : Nat} {ns : List Nat} {ws : List W} (h : RdW B G H (.ins c ns ws) v) : ∃ a dx fs, v = .ref a ∧ H a = some (.ins (B.ca c) dx fs) ∧ fs.map (·.1) = ns.map B.fld ∧ Reps B G ws (fs.map (·.2)) := by
  rcases h with h | ⟨a, o, rfl, h, r, mu⟩
  · cases h with
    | obj q r => cases r with | ins q2 r => exact ⟨_, _, _, rfl, s _ _ q, q2, r⟩
  · cases r with | ins q2 r => exact ⟨_, _, _, rfl, h, q2, r⟩

/-! ### what is made, what is fixed -/
/-- a new object, fixed at once -/
theorem StOk.made {o : HO} (S : StOk B z G H e σ) (hp : H a = none) : StOk B z (upd G a o) (upd H a o) e σ ∧ Fr G H e σ (upd G a o) (upd H a o) e σ ∧ upd G a o a = some o := by
  have hg : G a = none := by
    cases q : G a with
    | none => rfl
    | some u => have := S.sub a u q; rw [hp] at this; cases this
  have sg : Sub G (upd G a o) := fun b u q => by rw [upd_ne (ne_of_none q hg)]; exact q
  have nh : ∀ b, H b ≠ none → upd H a o b = H b := fun b q => upd_ne fun e => q (e ▸ hp)
  have ow : ∀ w b, Own B G H w b → Own B (upd G a o) (upd H a o) w b := fun w b x => by
    obtain ⟨u, q, r⟩ := x.ex
    have nb : b ≠ a := ne_of_none q hp
    exact ⟨⟨u, by rw [upd_ne nb]; exact q, r.mono sg⟩, by rw [upd_ne nb]; exact x.no, x.mu⟩
  refine ⟨⟨fun b u q => ?_, S.len, fun i s q => ?_, S.inj, fun b q => by rw [nh b (S.zin b q)]; exact S.zin b q⟩, ⟨sg, fun b u q n => ?_, fun b q => by rw [nh b q]; exact q, fun b q => .inl q⟩, upd_same⟩
  · by_cases hb : b = a
    · subst hb; rw [upd_same] at q ⊢; exact q
    · rw [upd_ne hb] at q ⊢; exact S.sub b u q
  · obtain ⟨x, h1, h2⟩ := S.sl i s q
    refine ⟨x, h1, ?_⟩
    cases s with
    | n => trivial
    | v w => obtain ⟨v, h3, h4⟩ := h2; exact ⟨v, h3, Rep.mono sg _ _ h4⟩
    | o w => obtain ⟨b, h3, h4, h5⟩ := h2; exact ⟨b, h3, ow _ _ h4, h5⟩
    | p w => obtain ⟨b, h3, h4, h5⟩ := h2; exact ⟨b, h3, ow _ _ h4, h5⟩
  · have nb : b ≠ a := ne_of_none q hp
    exact ⟨by rw [upd_ne nb]; exact q, by rw [upd_ne nb]⟩
/-- a new object, nobody's yet -/
theorem StOk.laid {o : HO} (S : StOk B z G H e σ) (hp : H a = none) : StOk B z G (upd H a o) e σ ∧ Fr G H e σ G (upd H a o) e σ ∧ G a = none ∧ ¬ Owned e σ a ∧ z ≠ some a := by
  have hg : G a = none := by
    cases q : G a with
    | none => rfl
    | some u => have := S.sub a u q; rw [hp] at this; cases this
  have nh : ∀ b, H b ≠ none → upd H a o b = H b := fun b q => upd_ne fun e => q (e ▸ hp)
  have ow : ∀ w b, Own B G H w b → Own B G (upd H a o) w b := fun w b x => by
    obtain ⟨u, q, r⟩ := x.ex
    have nb : b ≠ a := ne_of_none q hp
    exact ⟨⟨u, by rw [upd_ne nb]; exact q, r⟩, x.no, x.mu⟩
  refine ⟨⟨fun b u q => ?_, S.len, fun i s q => ?_, S.inj, fun b q => by rw [nh b (S.zin b q)]; exact S.zin b q⟩, ⟨fun _ _ q => q, fun b u q n => ?_, fun b q => by rw [nh b q]; exact q, fun b q => .inl q⟩, hg, ?_, ?_⟩
  · rw [upd_ne (ne_of_none q hg)]; exact S.sub b u q
  · obtain ⟨x, h1, h2⟩ := S.sl i s q
    refine ⟨x, h1, ?_⟩
    cases s with
    | n => trivial
    | v w => obtain ⟨v, h3, h4⟩ := h2; exact ⟨v, h3, h4⟩
    | o w => obtain ⟨b, h3, h4, h5⟩ := h2; exact ⟨b, h3, ow _ _ h4, h5⟩
    | p w => obtain ⟨b, h3, h4, h5⟩ := h2; exact ⟨b, h3, ow _ _ h4, h5⟩
  · exact ⟨by rw [upd_ne (ne_of_none q hp)]; exact q, rfl⟩
  · rintro ⟨i, ⟨w, c⟩, d⟩
    rcases c with c | c
    · obtain ⟨x, h1, b, rfl, h2, _⟩ := S.sl i _ c
      rw [d] at h1; cases h1
      exact h2.there hp
    · obtain ⟨x, h1, b, rfl, h2, _⟩ := S.sl i _ c
      rw [d] at h1; cases h1
      exact h2.there hp
  · exact fun q => S.zin a q hp
/-- what nobody holds is fixed -/
theorem StOk.fixF (S : StOk B z G H e σ) {o : HO} (h : H a = some o) (hg : G a = none) (n : ¬ Owned e σ a) : StOk B z (upd G a o) H e σ := by
  have sg : Sub G (upd G a o) := fun b u q => by rw [upd_ne (ne_of_none q hg)]; exact q
  refine ⟨fun b u q => ?_, S.len, fun i s q => ?_, S.inj, S.zin⟩
  · by_cases hb : b = a
    · subst hb; rw [upd_same] at q; cases q; exact h
    · rw [upd_ne hb] at q; exact S.sub b u q
  · obtain ⟨x, h1, h2⟩ := S.sl i s q
    refine ⟨x, h1, ?_⟩
    have ow : ∀ w b, Own B G H w b → b ≠ a → Own B (upd G a o) H w b := fun w b x nb => by
      obtain ⟨u, q, r⟩ := x.ex
      exact ⟨⟨u, q, r.mono sg⟩, by rw [upd_ne nb]; exact x.no, x.mu⟩
    cases s with
    | n => trivial
    | v w => obtain ⟨v, h3, h4⟩ := h2; exact ⟨v, h3, Rep.mono sg _ _ h4⟩
    | o w =>
      obtain ⟨b, rfl, h4, h5⟩ := h2
      exact ⟨b, rfl, ow _ _ h4 (fun e => n ⟨i, ⟨w, .inl q⟩, e ▸ h1⟩), h5⟩
    | p w =>
      obtain ⟨b, rfl, h4, h5⟩ := h2
      exact ⟨b, rfl, ow _ _ h4 (fun e => n ⟨i, ⟨w, .inr q⟩, e ▸ h1⟩), h5⟩
end Iv
end

section
set_option Elab.async false
set_option linter.all false
set_option maxRecDepth 100000
namespace Iv
open PySem L2
set_option autoImplicit false
variable {B : Bd} {z : Option Addr} {G H G' H' G0 H0 G1 H1 G2 H2 : Hp} {e e' e0 e1 e2 : En} {σ σ' σ0 σ1 σ2 : St} {w x y : W} {v v1 v2 : V} {a : Addr} {r r1 : R1} {Q Q' : VK} {W' : WX}

/-- an exception of the text, its dict at d -/
def ExR (B : Bd) (G H : Hp) (x : Exn) (cls : Value) (d : Option Addr) : Prop := cls = .ref (B.ca x.cls) ∧ match x.fld with
  | none => True
  | some w => ∃ (dd : Addr) (f : Str) (v : V), d = some dd ∧ H dd = some (.xd [(f, v)]) ∧ Rep B G w v

/-- what follows a result, seen from the start -/
def PostE (B : Bd) (z : Option Addr) (W' : WX) (σ : St) (G H : Hp) (e : En) (r : RE R1) (Q : VK) : Prop := match r with
  | .err => False
  | .ok r e' => ∀ G' H' v, Fr G H e σ G' H' e' σ → StOk B z G' H' e' σ → RepR B z G' H' e' σ r v → New H r v → Q v H'
  | .exn x e' => ∀ G' H' cls d, Fr G H e σ G' H' e' σ → StOk B z G' H' e' σ → ExR B G' H' x cls d → W' cls d σ H'
/-- the reading of an expression -/
def tE (B : Bd) (z : Option Addr) (W' : WX) (f : En → RE R1) : TE := fun σ H Q => ∃ G e, StOk B z G H e σ ∧ PostE B z W' σ G H e (f e) Q
def PostT (B : Bd) (z : Option Addr) (W' : WX) (σ : St) (G H : Hp) (e : En) (r : RE Bool) (Q : Bool → Hp → Prop) : Prop := match r with
  | .err => False
  | .ok b e' => ∀ G' H', Fr G H e σ G' H' e' σ → StOk B z G' H' e' σ → Q b H'
  | .exn x e' => ∀ G' H' cls d, Fr G H e σ G' H' e' σ → StOk B z G' H' e' σ → ExR B G' H' x cls d → W' cls d σ H'
def tT (B : Bd) (z : Option Addr) (W' : WX) (f : En → RE Bool) : TT := fun σ H Q => ∃ G e, StOk B z G H e σ ∧ PostT B z W' σ G H e (f e) Q
def RepRs (B : Bd) (z : Option Addr) (G H : Hp) (e : En) (σ : St) : List R1 → List V → Prop
  | [], [] => True
  | r :: rs, v :: vs => RepR B z G H e σ r v ∧ RepRs B z G H e σ rs vs ∧ (∀ w a, r = .f w → v = .ref a → ∀ w', (R1.f w', V.ref a) ∉ rs.zip vs)
  | _, _ => False
def PostA (B : Bd) (z : Option Addr) (W' : WX) (σ : St) (G H : Hp) (e : En) (r : RE R1) (Q : List V → Hp → Prop) : Prop := match r with
  | .err => False
  | .ok r e' => ∃ rs, r = .l rs ∧ ∀ G' H' vs, Fr G H e σ G' H' e' σ → StOk B z G' H' e' σ → RepRs B z G' H' e' σ rs vs → (∀ w a, (R1.f w, V.ref a) ∈ rs.zip vs → H a = none) → Q vs H'
  | .exn x e' => ∀ G' H' cls d, Fr G H e σ G' H' e' σ → StOk B z G' H' e' σ → ExR B G' H' x cls d → W' cls d σ H'
def tA (B : Bd) (z : Option Addr) (W' : WX) (f : En → RE R1) : TA := fun σ H Q => ∃ G e, StOk B z G H e σ ∧ PostA B z W' σ G H e (f e) Q

theorem PostE.mono {r : RE R1} (h : PostE B z W' σ G H e r Q) (k : ∀ v H', Q v H' → Q' v H') : PostE B z W' σ G H e r Q' := by
  cases r with
  | err => exact h
  | ok r e' => exact fun G' H' v a b c d => k _ _ (h G' H' v a b c d)
  | exn x e' => exact h

/-- the one expression that comes next -/
theorem PostE.bind {α : Type} {f : RE R1} {g : R1 → En → α} {hx : Exn → En → α} {he : α} {P : α → Prop} (F : Fr G0 H0 e0 σ G H e σ)
    (h : P (match f with | .ok r e1 => g r e1 | .exn x e1 => hx x e1 | .err => he))
    (herr : ¬ P he) (hexn : ∀ x e1, P (hx x e1) → ∀ G' H' cls d, Fr G0 H0 e0 σ G' H' e1 σ → StOk B z G' H' e1 σ → ExR B G' H' x cls d → W' cls d σ H')
    (k : ∀ r e1 G1 H1 v, Fr G H e σ G1 H1 e1 σ → Fr G0 H0 e0 σ G1 H1 e1 σ → StOk B z G1 H1 e1 σ → RepR B z G1 H1 e1 σ r v → New H r v → P (g r e1) → Q v H1) :
    PostE B z W' σ G H e f Q := by
  cases f with
  | err => exact absurd h herr
  | ok r e1 => exact fun G' H' v a b c d => k r e1 G' H' v a (F.trans a) b c d h
  | exn x e1 => exact fun G' H' cls d a b c => hexn x e1 h G' H' cls d (F.trans a) b c

section
variable {X : Cx}
theorem pe_imp {ex : Expr} {t t' : TE} (h : PE X ex t) (k : ∀ σ H Q, t' σ H Q → t σ H Q) : PE X ex t' := ⟨fun p s σ H Q I q => h.run p s σ H Q I (k σ H Q q)⟩
theorem pt_imp {ex : Expr} {t t' : TT} (h : PT X ex t) (k : ∀ σ H Q, t' σ H Q → t σ H Q) : PT X ex t' := ⟨fun p s σ H Q I q => h.run p s σ H Q I (k σ H Q q)⟩
theorem pw_imp {ex : Expr} {t t' : TT} (h : PW X ex t) (k : ∀ σ H Q, t' σ H Q → t σ H Q) : PW X ex t' := ⟨fun wh p s σ H Q I q => h.run wh p s σ H Q I (k σ H Q q)⟩
theorem pa_imp {ex : List Expr} {t t' : TA} (h : PA X ex t) (k : ∀ σ H Q, t' σ H Q → t σ H Q) : PA X ex t' := ⟨fun ps p s σ H Q I q => h.run ps p s σ H Q I (k σ H Q q)⟩
theorem pi_imp {tg ex : Expr} {t t' : TI} (h : PI X tg ex t) (k : ∀ σ H Q, t' σ H Q → t σ H Q) : PI X tg ex t' := ⟨fun p s σ H Q I q => h.run p s σ H Q I (k σ H Q q)⟩
end

/-! ### what is handed on -/
theorem use_ok (F : Fr G0 H0 e0 σ G H e σ) (S : StOk B z G H e σ) (h : RepR B z G H e σ r v) (nw : New H0 r v) {e' : En} (u : use r e = some (w, e')) :
    ∃ G', Fr G0 H0 e0 σ G' H e' σ ∧ StOk B z G' H e' σ ∧ Rep B G' w v := by
  cases r with
  | w w' => cases u; exact ⟨G, F, S, h⟩
  | l rs => cases u
  | f w' =>
    unfold use at u
    dsimp only at u
    split at u
    · cases u
      obtain ⟨a, rfl, o, n, zn⟩ := h
      obtain ⟨ob, q, hr⟩ := o.ex
      have sg : Sub G (upd G a ob) := fun b u q => by rw [upd_ne (ne_of_none q o.no)]; exact q
      have ha : H0 a = none := nw _ _ rfl rfl
      refine ⟨upd G a ob, ⟨fun b u q => sg b u (F.g b u q), fun b u q nb => ?_, F.tr, F.own⟩, S.fixF q o.no n, .obj upd_same (hr.mono sg)⟩
      obtain ⟨h1, h2⟩ := F.keep b u q nb
      exact ⟨h1, (upd_ne (ne_of_none q ha)).trans h2⟩
    · cases u
  | s i =>
    have h' : σ[i]? = some (some v) := h
    unfold use at u
    dsimp only at u
    split at u
    · rename_i w' q
      cases u
      obtain ⟨x, h1, v', rfl, h2⟩ := S.sl i _ q
      rw [h'] at h1; cases h1
      exact ⟨G, F, S, h2⟩
    · rename_i w' q
      split at u
      · cases u
        obtain ⟨x, h1, a, rfl, o, zn⟩ := S.sl i _ q
        rw [h'] at h1; cases h1
        obtain ⟨ob, qo, hr⟩ := o.ex
        have sg : Sub G (upd G a ob) := fun b u q => by rw [upd_ne (ne_of_none q o.no)]; exact q
        have own : ∀ b, Owned (e.set i (.v w)) σ b → Owned e σ b ∧ b ≠ a := by
          rintro b ⟨j, ⟨w2, c⟩, d⟩
          have hj : j ≠ i := by
            rintro rfl
            have hl : j < e.length := (List.getElem?_eq_some_iff.mp q).1
            rw [List.getElem?_set_self hl] at c
            rcases c with c | c <;> cases c
          rw [List.getElem?_set_ne (Ne.symm hj)] at c
          refine ⟨⟨j, ⟨w2, c⟩, d⟩, fun e => hj ?_⟩
          subst e
          exact S.inj j i _ ⟨⟨w2, c⟩, d⟩ ⟨⟨w, .inl q⟩, h'⟩
        have oi : Owned e σ a := ⟨i, ⟨w, .inl q⟩, h'⟩
        refine ⟨upd G a ob, ⟨fun b u q => sg b u (F.g b u q), fun b u q nb => ?_, F.tr, fun b hb => F.own b (own b hb).1⟩, ?_, .obj upd_same (hr.mono sg)⟩
        · obtain ⟨h1, h2⟩ := F.keep b u q nb
          refine ⟨h1, (upd_ne fun e => ?_).trans h2⟩
          subst e
          rcases F.own b oi with k | k
          · exact nb k
          · rw [q] at k; cases k
        · refine ⟨fun b u q2 => ?_, by simpa using S.len, fun j s qs => ?_, fun j k b c d => ?_, S.zin⟩
          · by_cases hb : b = a
            · subst hb; rw [upd_same] at q2; cases q2; exact qo
            · rw [upd_ne hb] at q2; exact S.sub b u q2
          · by_cases hj : j = i
            · subst hj
              have hl : j < e.length := (List.getElem?_eq_some_iff.mp q).1
              rw [List.getElem?_set_self hl] at qs
              cases qs
              exact ⟨_, h', _, rfl, .obj upd_same (hr.mono sg)⟩
            · rw [List.getElem?_set_ne (Ne.symm hj)] at qs
              obtain ⟨x, h1, h2⟩ := S.sl j s qs
              refine ⟨x, h1, ?_⟩
              have ow : ∀ w b, Own B G H w b → b ≠ a → Own B (upd G a ob) H w b := fun w b x nb => by
                obtain ⟨u, q, r⟩ := x.ex
                exact ⟨⟨u, q, r.mono sg⟩, by rw [upd_ne nb]; exact x.no, x.mu⟩
              cases s with
              | n => trivial
              | v w => obtain ⟨v, h3, h4⟩ := h2; exact ⟨v, h3, Rep.mono sg _ _ h4⟩
              | o w2 =>
                obtain ⟨b, rfl, h4, h5⟩ := h2
                exact ⟨b, rfl, ow _ _ h4 (fun e => hj (S.inj j i b ⟨⟨w2, .inl qs⟩, h1⟩ ⟨⟨w, .inl q⟩, e ▸ h'⟩)), h5⟩
              | p w2 =>
                obtain ⟨b, rfl, h4, h5⟩ := h2
                exact ⟨b, rfl, ow _ _ h4 (fun e => hj (S.inj j i b ⟨⟨w2, .inr qs⟩, h1⟩ ⟨⟨w, .inl q⟩, e ▸ h'⟩)), h5⟩
          · have tr : ∀ {j b}, OwnAt (e.set i (.v w)) σ j b → OwnAt e σ j b := by
              rintro j b ⟨⟨w2, c⟩, d⟩
              by_cases hj : j = i
              · subst hj
                have hl : j < e.length := (List.getElem?_eq_some_iff.mp q).1
                rw [List.getElem?_set_self hl] at c
                rcases c with c | c <;> cases c
              · rw [List.getElem?_set_ne (Ne.symm hj)] at c
                exact ⟨⟨w2, c⟩, d⟩
            exact S.inj j k b (tr c) (tr d)
      · cases u
    · cases u

/-! ### what a rule by values hands on -/
/-- whatever comes as r1 is wanted -/
def Yd (B : Bd) (z : Option Addr) (G H : Hp) (e : En) (σ : St) (r1 : R1) (Q : VK) : Prop :=
  ∀ G' H' v, Fr G H e σ G' H' e σ → StOk B z G' H' e σ → RepR B z G' H' e σ r1 v → New H r1 v → Q v H'
theorem Yd.val (y : Yd B z G H e σ (.w w) Q) (S : StOk B z G H e σ) (h : Rep B G w v) : Q v H := y G H v .refl S h fun _ _ q => by cases q
theorem Yd.new {o : HO} {p : Addr} (y : Yd B z G H e σ (.f w) Q) (S : StOk B z G H e σ) (hp : H p = none) (h : HoRep B G w o) (mu : isMut w = true) : Q (.ref p) (upd H p o) := by
  obtain ⟨S', F, hg, n, zn⟩ := S.laid (o := o) hp
  exact y G _ _ F S' ⟨p, rfl, ⟨⟨o, upd_same, h⟩, hg, mu⟩, n, zn⟩ fun _ _ _ q => by cases q; exact hp
theorem Yd.fix {o : HO} {p : Addr} (y : Yd B z G H e σ (.w w) Q) (S : StOk B z G H e σ) (hp : H p = none) (h : HoRep B G w o) : Q (.ref p) (upd H p o) := by
  obtain ⟨S', F, q⟩ := S.made (o := o) hp
  exact y _ _ _ F S' (.obj q (h.mono F.g)) fun _ _ q => by cases q
/-- what is wanted of a step from (G, H, e) on, wanted from the start -/
theorem Yd.of (F : Fr G0 H0 e0 σ G H e σ) (h : PostE B z W' σ G0 H0 e0 (.ok r1 e) Q) : Yd B z G H e σ r1 Q := fun G' H' v F' S' R n => h G' H' v (F.trans F') S' R fun w a e1 e2 => F.free (n w a e1 e2)

section
variable {X : Cx}
/-- one operand, a rule by values -/
theorem snd_un1 {ea : Expr} {pe : Expr} {fa : En → RE R1} {f : W → Option R1} {rr : V → Hp → VK → Prop} (ha : PE X ea (tE B z W' fa)) (rule : ∀ {ta : TE}, PE X ea ta → PE X pe (fun σ H Q => ta σ H fun x H1 => rr x H1 Q))
    (hop : ∀ G H e σ v x r1 Q, StOk B z G H e σ → RdW B G H x v → f x = some r1 → Yd B z G H e σ r1 Q → rr v H Q) : PE X pe (tE B z W' fun e => un1 f (fa e)) := by
  refine pe_imp (rule ha) fun σ H Q ⟨G, e, S, h⟩ => ⟨G, e, S, ?_⟩
  refine PostE.bind (P := fun r => PostE B z W' σ G H e r Q) .refl h (fun q => q) (fun _ _ q => q) fun r e1 G1 H1 v F F0 S1 R n q => ?_
  split at q
  · rename_i x hx
    have rd := peek_ok S1 R hx
    unfold ofO at q
    split at q
    · rename_i r1 hf
      exact hop G1 H1 e1 σ v x r1 Q S1 rd hf (Yd.of F0 q)
    · exact q.elim
  · exact q.elim
theorem snd_un2 {ea eb : Expr} {pe : Expr} {fa fb : En → RE R1} {f : W → W → Option R1} {rr : R2} (ha : PE X ea (tE B z W' fa)) (hb : PE X eb (tE B z W' fb)) (rule : ∀ {ta tb : TE}, PE X ea ta → PE X eb tb → PE X pe (tOp rr ta tb))
    (hop : ∀ G H e σ v1 v2 x y r1 Q, StOk B z G H e σ → RdW B G H x v1 → RdW B G H y v2 → f x y = some r1 → Yd B z G H e σ r1 Q → rr v1 v2 H Q) : PE X pe (tE B z W' fun e => un2 f (fa e) fb) := by
  refine pe_imp (rule ha hb) fun σ H Q ⟨G, e, S, h⟩ => ⟨G, e, S, ?_⟩
  refine PostE.bind (P := fun r => PostE B z W' σ G H e r Q) .refl h (fun q => q) (fun _ _ q => q) fun r e1 G1 H1 v F F0 S1 R n q => ⟨G1, e1, S1, ?_⟩
  refine PostE.bind (P := fun r => PostE B z W' σ G H e r Q) F0 q (fun q => q) (fun _ _ q => q) fun r2 e2 G2 H2 v2 F2 F02 S2 R2 n2 q => ?_
  split at q
  · rename_i x y hx hy
    have rd := peek_ok S2 (R.fr F2) hx
    have rd2 := peek_ok S2 R2 hy
    unfold ofO at q
    split at q
    · rename_i r1 hf
      exact hop G2 H2 e2 σ v v2 x y r1 Q S2 rd rd2 hf (Yd.of F02 q)
    · exact q.elim
  · exact q.elim
end
end Iv
end

section
set_option Elab.async false
set_option linter.all false
set_option maxRecDepth 100000
namespace Iv
open PySem L2
set_option autoImplicit false
variable {B : Bd} {z : Option Addr} {G H : Hp} {e : En} {σ : St} {w x y : W} {v v1 v2 : V} {a : Addr} {r r1 : R1} {Q : VK} {X : Cx} {k : Nat}

/-! ### data -/
mutual
def toD : W → PyData
  | .bl b => .bool b
  | .int i => .int i
  | .str s => .str s
  | .tup xs => .tuple (toDs xs)
  | .lst xs => .list (toDs xs)
  | _ => .none
def toDs : List W → List PyData
  | [] => []
  | x :: xs => toD x :: toDs xs
end
mutual
theorem isD_ok : ∀ (n : Nat) (w : W), isD n w = true → (toD w).canLay0 = true ∧ (toD w).depth ≤ n
  | _, .non, _ => by simp [toD, PyData.canLay0, PyData.depth]
  | _, .bl _, _ => by simp [toD, PyData.canLay0, PyData.depth]
  | _, .int _, _ => by simp [toD, PyData.canLay0, PyData.depth]
  | n, .str s, h => by
    have h' : s.cps.all (· < 1114112) = true := by cases n <;> simpa [isD] using h
    refine ⟨?_, by simp [toD, PyData.depth]⟩
    simp only [toD, PyData.canLay0]
    exact h'
  | 0, .tup xs, h => by simp [isD] at h
  | 0, .lst xs, h => by simp [isD] at h
  | n + 1, .tup xs, h => by
    have q := isDs_ok n xs (by simpa [isD] using h)
    simp only [toD, PyData.canLay0, PyData.depth]
    exact ⟨q.1, by omega⟩
  | n + 1, .lst xs, h => by
    have q := isDs_ok n xs (by simpa [isD] using h)
    simp only [toD, PyData.canLay0, PyData.depth]
    exact ⟨q.1, by omega⟩
  | n, .dK _ _, h => by cases n <;> simp [isD] at h
  | n, .dT _ _, h => by cases n <;> simp [isD] at h
  | n, .ins _ _ _, h => by cases n <;> simp [isD] at h
  | n, .fn _, h => by cases n <;> simp [isD] at h
  | n, .scr _, h => by cases n <;> simp [isD] at h
theorem isDs_ok : ∀ (n : Nat) (ws : List W), isDs n ws = true → PyData.canLayAll0 (toDs ws) = true ∧ PyData.depthAll (toDs ws) ≤ n
  | n, [], _ => by simp [toDs, PyData.canLayAll0, PyData.depthAll]
  | n, x :: xs, h => by
    have h' : isD n x = true ∧ isDs n xs = true := by simpa [isDs] using h
    have q1 := isD_ok n x h'.1
    have q2 := isDs_ok n xs h'.2
    simp only [toDs, PyData.canLayAll0, PyData.depthAll, Bool.and_eq_true]
    exact ⟨⟨q1.1, q2.1⟩, by omega⟩
end
theorem isD_shaped {n : Nat} (h : isD n w = true) (hn : n ≤ 64) : SeqAt.shaped (toD w) = true := by
  obtain ⟨h1, h2⟩ := isD_ok n w h
  show ((toD w).canLay0 && decide ((toD w).depth ≤ 64)) = true
  rw [h1, decide_eq_true (by omega)]; rfl
mutual
theorem eqD_ok : ∀ (x y : W) (n m : Nat), isD n x = true → isD m y = true → eqD x y = PyData.eqv (toD x) (toD y)
  | .non, y, n, m, _, h => by cases y <;> first | (simp [eqD, toD, PyData.eqv]; done) | (cases m <;> simp [isD] at h)
  | .bl a, y, n, m, _, h => by cases y <;> first | (simp [eqD, toD, PyData.eqv]; done) | (cases m <;> simp [isD] at h)
  | .int a, y, n, m, _, h => by cases y <;> first | (simp [eqD, toD, PyData.eqv]; done) | (cases m <;> simp [isD] at h)
  | .str a, y, n, m, _, h => by cases y <;> first | (simp [eqD, toD, PyData.eqv]; done) | (cases m <;> simp [isD] at h)
  | .tup xs, .tup ys, 0, _, h, _ => by simp [isD] at h
  | .tup xs, .tup ys, _ + 1, 0, _, h => by simp [isD] at h
  | .tup xs, .tup ys, n + 1, m + 1, h1, h2 => by
    simp only [eqD, toD, PyData.eqv]
    exact eqDs_ok xs ys n m (by simpa [isD] using h1) (by simpa [isD] using h2)
  | .lst xs, .lst ys, 0, _, h, _ => by simp [isD] at h
  | .lst xs, .lst ys, _ + 1, 0, _, h => by simp [isD] at h
  | .lst xs, .lst ys, n + 1, m + 1, h1, h2 => by
    simp only [eqD, toD, PyData.eqv]
    exact eqDs_ok xs ys n m (by simpa [isD] using h1) (by simpa [isD] using h2)
  | .tup xs, .non, _, _, _, _ => by simp [eqD, toD, PyData.eqv]
  | .tup xs, .bl _, _, _, _, _ => by simp [eqD, toD, PyData.eqv]
  | .tup xs, .int _, _, _, _, _ => by simp [eqD, toD, PyData.eqv]
  | .tup xs, .str _, _, _, _, _ => by simp [eqD, toD, PyData.eqv]
  | .tup xs, .lst _, _, _, _, _ => by simp [eqD, toD, PyData.eqv]
  | .tup xs, .dK _ _, _, m, _, h => by cases m <;> simp [isD] at h
  | .tup xs, .dT _ _, _, m, _, h => by cases m <;> simp [isD] at h
  | .tup xs, .ins _ _ _, _, m, _, h => by cases m <;> simp [isD] at h
  | .tup xs, .fn _, _, m, _, h => by cases m <;> simp [isD] at h
  | .tup xs, .scr _, _, m, _, h => by cases m <;> simp [isD] at h
  | .lst xs, .non, _, _, _, _ => by simp [eqD, toD, PyData.eqv]
  | .lst xs, .bl _, _, _, _, _ => by simp [eqD, toD, PyData.eqv]
  | .lst xs, .int _, _, _, _, _ => by simp [eqD, toD, PyData.eqv]
  | .lst xs, .str _, _, _, _, _ => by simp [eqD, toD, PyData.eqv]
  | .lst xs, .tup _, _, _, _, _ => by simp [eqD, toD, PyData.eqv]
  | .lst xs, .dK _ _, _, m, _, h => by cases m <;> simp [isD] at h
  | .lst xs, .dT _ _, _, m, _, h => by cases m <;> simp [isD] at h
  | .lst xs, .ins _ _ _, _, m, _, h => by cases m <;> simp [isD] at h
  | .lst xs, .fn _, _, m, _, h => by cases m <;> simp [isD] at h
  | .lst xs, .scr _, _, m, _, h => by cases m <;> simp [isD] at h
  | .dK _ _, _, n, _, h, _ => by cases n <;> simp [isD] at h
  | .dT _ _, _, n, _, h, _ => by cases n <;> simp [isD] at h
  | .ins _ _ _, _, n, _, h, _ => by cases n <;> simp [isD] at h
  | .fn _, _, n, _, h, _ => by cases n <;> simp [isD] at h
  | .scr _, _, n, _, h, _ => by cases n <;> simp [isD] at h
theorem eqDs_ok : ∀ (xs ys : List W) (n m : Nat), isDs n xs = true → isDs m ys = true → eqDs xs ys = PyData.eqvAll (toDs xs) (toDs ys)
  | [], [], _, _, _, _ => by simp [eqDs, toDs, PyData.eqvAll]
  | [], _ :: _, _, _, _, _ => by simp [eqDs, toDs, PyData.eqvAll]
  | _ :: _, [], _, _, _, _ => by simp [eqDs, toDs, PyData.eqvAll]
  | x :: xs, y :: ys, n, m, h1, h2 => by
    have h1' : isD n x = true ∧ isDs n xs = true := by simpa [isDs] using h1
    have h2' : isD m y = true ∧ isDs m ys = true := by simpa [isDs] using h2
    simp only [eqDs, toDs, PyData.eqvAll]
    rw [eqD_ok x y n m h1'.1 h2'.1, eqDs_ok xs ys n m h1'.2 h2'.2]
end
mutual
theorem Rep.dp (s : Sub G H) (K : PySem.W.Frag) : ∀ (w : W) (v : V) (n : Nat), Rep B G w v → isD n w = true → Dp K H v (toD w)
  | .non, _, _, h, _ => by cases h with
    | non => simp only [toD]; exact .non
    | obj _ r => cases r
  | .bl b, _, _, h, _ => by cases h with
    | bl => simp only [toD]; exact .bl b
    | obj _ r => cases r
  | .int b, _, _, h, _ => by cases h with
    | int => simp only [toD]; exact .int b
    | obj _ r => cases r
  | .str b, _, _, h, _ => by cases h with
    | str => simp only [toD]; exact .str b
    | obj _ r => cases r
  | .tup xs, _, 0, _, h => by simp [isD] at h
  | .lst xs, _, 0, _, h => by simp [isD] at h
  | .tup xs, _, n + 1, h, d => by cases h with
    | obj q r => cases r with | tup r => simp only [toD]; exact .tup (.of (s _ _ q)) (Reps.dp s K xs _ n r (by simpa [isD] using d))
  | .lst xs, _, n + 1, h, d => by cases h with
    | obj q r => cases r with | lst r => simp only [toD]; exact .lst (.of (s _ _ q)) (Reps.dp s K xs _ n r (by simpa [isD] using d))
  | .dK _ _, _, n, _, h => by cases n <;> simp [isD] at h
  | .dT _ _, _, n, _, h => by cases n <;> simp [isD] at h
  | .ins _ _ _, _, n, _, h => by cases n <;> simp [isD] at h
  | .fn _, _, n, _, h => by cases n <;> simp [isD] at h
  | .scr _, _, n, _, h => by cases n <;> simp [isD] at h
theorem Reps.dp (s : Sub G H) (K : PySem.W.Frag) : ∀ (ws : List W) (vs : List V) (n : Nat), Reps B G ws vs → isDs n ws = true → DpAll K H vs (toDs ws)
  | [], _, _, h, _ => by cases h; simp only [toDs]; exact .nil
  | x :: xs, _, n, h, d => by
    have d' : isD n x = true ∧ isDs n xs = true := by simpa [isDs] using d
    cases h with
    | cons r t => simp only [toDs]; exact .cons (Rep.dp s K x _ n r d'.1) (Reps.dp s K xs _ n t d'.2)
end
theorem RdW.dp (s : Sub G H) (K : PySem.W.Frag) {n : Nat} (h : RdW B G H w v) (d : isD n w = true) : Dp K H v (toD w) := by
  rcases h with h | ⟨a, o, rfl, q, r, mu⟩
  · exact Rep.dp s K w v n h d
  · cases r with
    | lst r =>
      cases n with
      | zero => simp [isD] at d
      | succ n => simp only [toD]; exact .lst (.of q) (Reps.dp s K _ _ n r (by simpa [isD] using d))
    | tup r => cases mu
    | scr r => cases mu
    | dK _ r => cases n <;> simp [isD] at d
    | dT _ r => cases n <;> simp [isD] at d
    | ins _ r => cases n <;> simp [isD] at d

/-! ### operators -/
/-- any reading by values that the operator keeps -/
def rOp (X : Cx) (f : Value → Value → Sem Value) : R2 := fun x y H Q => ∃ rr : R2, OpR X f rr ∧ rr x y H Q
theorem rOp_ok {f : Value → Value → Sem Value} : OpR X f (rOp X f) := fun pins s σ H x y v u Q I rx ry ⟨rr, h, q⟩ => h pins s σ H x y v u Q I rx ry q
def bop : BOp → Operator
  | .add => .Add
  | .sub => .Sub
  | .mul => .Mult
  | .fdiv => .FloorDiv
  | .mod => .Mod
def cop : COp → CmpOp
  | .eq => .Eq
  | .ne => .NotEq
  | .lt => .Lt
  | .le => .LtE
  | .gt => .Gt
  | .ge => .GtE
  | .is => .Is
  | .isn => .IsNot
  | .inn => .In
  | .nin => .NotIn
theorem lim_eq : lim = sizeLine := by rw [sizeLine_eq]; rfl
theorem bin_ok {o : BOp} (S : StOk B z G H e σ) (hx : RdW B G H x v1) (hy : RdW B G H y v2) (h : binW o x y = some r1) (y' : Yd B z G H e σ r1 Q) : rOp X (binaryOp (bop o)) v1 v2 H Q := by
  unfold binW at h
  split at h
  · cases h; rw [hx.int, hy.int]
    exact ⟨_, op_add, _, _, rfl, rfl, y'.val S (.int _)⟩
  · cases h; rw [hx.int, hy.int]
    exact ⟨_, op_sub, _, _, rfl, rfl, y'.val S (.int _)⟩
  · rename_i i j
    split at h
    · rename_i c
      cases h; rw [hx.int, hy.int]
      unfold mulOk at c
      rw [Bool.or_eq_true, Bool.or_eq_true] at c
      rcases c with (c | c) | c
      · exact ⟨_, op_mul, _, _, rfl, rfl, .inl (by have := of_decide_eq_true c; omega), y'.val S (.int _)⟩
      · exact ⟨_, op_mul, _, _, rfl, rfl, .inr (by have := of_decide_eq_true c; omega), y'.val S (.int _)⟩
      · exact ⟨_, op_mulW, _, _, rfl, rfl, (by unfold CMulW; exact of_decide_eq_true c), y'.val S (.int _)⟩
    · cases h
  · split at h
    · rename_i c
      cases h; rw [hx.int, hy.int]
      exact ⟨_, op_fdivW, _, _, rfl, rfl, c, y'.val S (.int _)⟩
    · cases h
  · split at h
    · rename_i c
      cases h; rw [hx.int, hy.int]
      exact ⟨_, op_mod, _, _, rfl, rfl, c, y'.val S (.int _)⟩
    · cases h
  · split at h
    · rename_i c
      cases h
      obtain ⟨p, vs, rfl, hp, rs⟩ := hx.lst S.sub
      obtain ⟨q, us, rfl, hq, rt⟩ := hy.lst S.sub
      refine ⟨_, op_cat, p, q, vs, us, rfl, rfl, hp, hq, ?_, fun l hl => y'.new S hl (.lst (rs.append rt)) rfl⟩
      rw [← rs.length, ← rt.length, ← lim_eq]; exact c
    · cases h
  · split at h
    · rename_i xs ys c
      cases h
      obtain ⟨p, vs, rfl, hp, rs⟩ := hx.tup
      obtain ⟨q, us, rfl, hq, rt⟩ := hy.tup
      refine ⟨_, op_catA, p, q, vs, us, rfl, rfl, .of (S.sub _ _ hp), .of (S.sub _ _ hq), ?_, fun e1 => ?_, fun _ e2 => ?_, fun _ _ l hl => y'.fix S hl (.tup (rs.append rt))⟩
      · rw [← rs.length, ← rt.length, ← lim_eq]; exact c
      · subst e1
        cases rs
        exact y'.val S (.obj hq (.tup rt))
      · subst e2
        cases rt
        refine y'.val S ?_
        rw [List.append_nil]
        exact .obj hp (.tup rs)
    · cases h
  · split at h
    · rename_i c
      cases h; rw [hx.str, hy.str]
      refine ⟨_, op_add_str, _, _, rfl, rfl, ?_, y'.val S (.str _)⟩
      rw [← lim_eq]; exact c
    · cases h
  · split at h
    · rename_i c
      cases h
      obtain ⟨p, vs, rfl, hp, rs⟩ := hx.lst S.sub
      rw [hy.int]
      refine ⟨_, op_rep, p, _, vs, rfl, rfl, hp, by omega, by omega, ?_, fun l hl => y'.new S hl (.lst (rs.replicate _)) rfl⟩
      rw [← rs.length, ← lim_eq]; exact c.2.2
    · cases h
  · split at h
    · rename_i xs kk c
      cases h
      obtain ⟨p, vs, rfl, hp, rs⟩ := hx.tup
      rw [hy.int]
      refine ⟨_, op_repT, p, _, vs, rfl, rfl, .of (S.sub _ _ hp), ?_, c.1, c.2.1, by rw [← rs.length]; exact c.2.2.2, fun l hl => y'.fix S hl (.tup (rs.replicate _))⟩
      rintro rfl
      cases rs
      exact absurd c.2.2.1 (by decide)
    · split at h
      · rename_i c
        cases h
        obtain ⟨p, vs, rfl, hp, rs⟩ := hx.tup
        rw [hy.int, c.1]
        refine ⟨_, op_repZ, p, _, rfl, rfl, .of (S.sub _ _ hp), ?_, fun l hl => y'.fix S hl (.tup .nil)⟩
        rintro rfl
        cases rs
        exact absurd c.2 (by decide)
      · cases h
  · cases h
end Iv
end

section
set_option Elab.async false
set_option linter.all false
set_option maxRecDepth 100000
namespace Iv
open PySem L2
set_option autoImplicit false
variable {B : Bd} {z : Option Addr} {G H : Hp} {e : En} {σ : St} {w x y : W} {v v1 v2 : V} {a : Addr} {r r1 : R1} {Q : VK} {X : Cx} {k : Nat}

/-! ### lists of intsW, of truths, keys -/
theorem ints_ok : ∀ {xs : List W} {ns : List Int} {vs : List V}, intsW xs = some ns → Reps B G xs vs → vs = ns.map V.int
  | [], _, _, h, r => by cases h; cases r; rfl
  | x :: xs, ns, _, h, r => by
    unfold intsW at h
    split at h
    · rename_i q; cases q
    · rename_i i xs' heq
      cases heq
      split at h
      · rename_i r' hr
        cases h
        cases r with
        | cons q t =>
          have e1 := (show RdW B G G (.int i) _ from .inl q).int
          rw [e1, ints_ok hr t]; rfl
      · cases h
    · cases h
theorem bools_ok : ∀ {xs : List W} {ns : List Bool} {vs : List V}, boolsW xs = some ns → Reps B G xs vs → vs = ns.map V.bl
  | [], _, _, h, r => by cases h; cases r; rfl
  | x :: xs, ns, _, h, r => by
    unfold boolsW at h
    split at h
    · rename_i q; cases q
    · rename_i i xs' heq
      cases heq
      split at h
      · rename_i r' hr
        cases h
        cases r with
        | cons q t =>
          have e1 := (show RdW B G G (.bl i) _ from .inl q).bl
          rw [e1, bools_ok hr t]; rfl
      · cases h
    · cases h
theorem reps_ints : ∀ ns : List Int, Reps B G (ns.map W.int) (ns.map V.int)
  | [] => .nil
  | n :: ns => .cons (.int n) (reps_ints ns)
theorem toKy_ok {ky : Ky} (h : toKy x = some ky) (r : RdW B G H x v) : v = kV ky := by
  unfold toKy at h
  split at h
  · cases h; exact r.int
  · cases h; exact r.str
  · cases h
theorem toKys_ok : ∀ {xs : List W} {ks : List Ky} {vs : List V}, toKys xs = some ks → Reps B G xs vs → vs = ks.map kV
  | [], _, _, h, r => by cases h; cases r; rfl
  | x :: xs, ns, _, h, r => by
    unfold toKys at h
    split at h
    · rename_i ky r' h1 h2
      cases h
      cases r with
      | cons q t => rw [toKy_ok h1 (show RdW B G G x _ from .inl q), toKys_ok h2 t]; rfl
    · cases h
theorem kyEq_eq (a b : Ky) : kyEq a b = decide (a = b) := by
  cases a <;> cases b <;> simp [kyEq]
theorem kysEq_eq : ∀ a b : List Ky, kysEq a b = decide (a = b)
  | [], [] => rfl
  | [], _ :: _ => rfl
  | _ :: _, [] => rfl
  | x :: xs, y :: ys => by
    unfold kysEq
    rw [kyEq_eq, kysEq_eq xs ys]
    by_cases h1 : x = y <;> by_cases h2 : xs = ys <;> simp [h1, h2]
theorem getK_ok : ∀ {kvs : List (Key × V)} {ws : List W} {ky : Ky}, Reps B G ws (kvs.map (·.2)) →
    (getK (kvs.map (·.1)) ws ky = none ∧ valV kvs ky = none) ∨ ∃ w v, getK (kvs.map (·.1)) ws ky = some w ∧ valV kvs ky = some v ∧ Rep B G w v
  | [], _, _, h => by cases h; exact .inl ⟨rfl, rfl⟩
  | (k0, v0) :: kvs, _, ky, h => by
    cases h with
    | cons q t =>
      rename_i w ws
      simp only [valV, List.map_cons, getK, kyEq_eq, List.find?_cons]
      by_cases hk : k0 = ky
      · subst hk
        refine .inr ⟨w, v0, by simp, by simp, q⟩
      · simp only [hk, decide_false, Bool.false_eq_true, if_false]
        exact getK_ok (kvs := kvs) t
theorem getT_ok : ∀ {kvs : List (List Key × V)} {ws : List W} {ky : List Ky}, Reps B G ws (kvs.map (·.2)) →
    (getT (kvs.map (·.1)) ws ky = none ∧ valV kvs ky = none) ∨ ∃ w v, getT (kvs.map (·.1)) ws ky = some w ∧ valV kvs ky = some v ∧ Rep B G w v
  | [], _, _, h => by cases h; exact .inl ⟨rfl, rfl⟩
  | (k0, v0) :: kvs, _, ky, h => by
    cases h with
    | cons q t =>
      rename_i w ws
      simp only [valV, List.map_cons, getT, kysEq_eq, List.find?_cons]
      by_cases hk : k0 = ky
      · subst hk
        refine .inr ⟨w, v0, by simp, by simp, q⟩
      · simp only [hk, decide_false, Bool.false_eq_true, if_false]
        exact getT_ok (kvs := kvs) t
theorem lexL_eq : ∀ a b : List Int, lexL a b = HT.lexLt a b
  | [], [] => rfl
  | [], _ :: _ => rfl
  | _ :: _, [] => rfl
  | x :: xs, y :: ys => by
    unfold lexL HT.lexLt
    rw [lexL_eq xs ys]

/-! ### comparisons -/
def rInTD (K : PySem.W.Frag) (neg : Bool) : R2 := fun x y H Q => ∃ d ds, Dp K H x d ∧ Dp K H y (.tuple ds) ∧ SeqAt.shaped d = true ∧ SeqAt.shaped (.tuple ds) = true ∧ Q (.bl (if neg then !ds.any fun z => PyData.eqv z d else ds.any fun z => PyData.eqv z d)) H
theorem room_inT {A : Around} {d : PyData} {ds : List PyData} (sd : SeqAt.shaped d = true) (hu : A.units + 65 < cLine) : A.units + 1 + min (PyData.depthAll ds) d.depth < cLine := by
  have h1 := SeqAt.depth_of_shaped sd
  have h2 : min (PyData.depthAll ds) d.depth ≤ d.depth := Nat.min_le_right _ _
  omega
theorem op_inTD (hu : X.A.units + 65 < cLine) : OpR X (compareOp .In) (rInTD X.K false) := by
  intro pins s σ H x y v u Q I rx ry h
  obtain ⟨d, ds, hd, he, sd, se, q⟩ := h
  obtain ⟨as, r1⟩ := Dp.reads I d x v hd rx
  obtain ⟨bs, r2⟩ := Dp.reads I (.tuple ds) y u he ry
  exact SeqAt.in_tuple_reads r2 r1 (SeqAt.canLay_of_shaped se) (SeqAt.canLay_of_shaped sd) (room_inT sd hu) ⟨.bl _, H, I, rfl, q⟩
theorem op_notInTD (hu : X.A.units + 65 < cLine) : OpR X (compareOp .NotIn) (rInTD X.K true) := by
  intro pins s σ H x y v u Q I rx ry h
  obtain ⟨d, ds, hd, he, sd, se, q⟩ := h
  obtain ⟨as, r1⟩ := Dp.reads I d x v hd rx
  obtain ⟨bs, r2⟩ := Dp.reads I (.tuple ds) y u he ry
  exact SeqAt.notIn_tuple_reads r2 r1 (SeqAt.canLay_of_shaped se) (SeqAt.canLay_of_shaped sd) (room_inT sd hu) ⟨.bl _, H, I, rfl, q⟩
def rInDict (neg : Bool) : R2 := fun x y H Q => ∃ a o, y = .ref a ∧ DGet H a x o ∧ Q (.bl (if neg then !o.isSome else o.isSome)) H
theorem op_inDict (hu : X.A.units + 1 < cLine) : OpR X (compareOp .In) (rInDict false) := by
  intro pins s σ H x y v u Q I rx ry h
  obtain ⟨a, o, rfl, g, q⟩ := h
  cases ry
  exact d_in hu I g rx fun s' I' => ⟨.bl _, H, I', rfl, q⟩
theorem op_notInDict (hu : X.A.units + 1 < cLine) : OpR X (compareOp .NotIn) (rInDict true) := by
  intro pins s σ H x y v u Q I rx ry h
  obtain ⟨a, o, rfl, g, q⟩ := h
  cases ry
  exact d_notIn hu I g rx fun s' I' => ⟨.bl _, H, I', rfl, q⟩

theorem any_eqv : ∀ {ys : List W} {n m : Nat}, isD n x = true → isDs m ys = true → (toDs ys).any (fun z => PyData.eqv z (toD x)) = inL x ys
  | [], _, _, _, _ => rfl
  | y :: ys, n, m, h1, h2 => by
    have h2' : isD m y = true ∧ isDs m ys = true := by simpa [isDs] using h2
    unfold toDs inL
    rw [List.any_cons, ← eqD_ok y x m n h2'.1 h1, any_eqv h1 h2'.2]
theorem in_ok {c : Bool} (hr : Room k X.A) (S : StOk B z G H e σ) (hx : RdW B G H x v1) (hy : RdW B G H y v2) (h : inW x y = some c) :
    (∀ Q : VK, Q (.bl c) H → rOp X (compareOp .In) v1 v2 H Q) ∧ (∀ Q : VK, Q (.bl (!c)) H → rOp X (compareOp .NotIn) v1 v2 H Q) := by
  have hu : X.A.units + 65 < cLine := by have := hr.un; omega
  have hu1 : X.A.units + 1 < cLine := by omega
  unfold inW at h
  split at h
  · rename_i ys
    split at h
    · rename_i c0
      rw [Bool.and_eq_true] at c0
      cases h
      have d1 := hx.dp S.sub X.K c0.1
      have iy : isD 59 (.lst ys) = true := by simpa [isD] using c0.2
      have d2 := hy.dp S.sub X.K iy
      have e := any_eqv (x := x) c0.1 c0.2
      have s1 := isD_shaped c0.1 (by decide)
      have s2 := isD_shaped iy (by decide)
      simp only [toD] at d2 s2
      refine ⟨fun Q q => ⟨_, op_inD hu, _, _, d1, d2, s1, s2, ?_⟩, fun Q q => ⟨_, op_notInD hu, _, _, d1, d2, s1, s2, ?_⟩⟩
      · rw [e]; exact q
      · rw [e]; exact q
    · cases h
  · rename_i ys
    split at h
    · rename_i c0
      rw [Bool.and_eq_true] at c0
      cases h
      have d1 := hx.dp S.sub X.K c0.1
      have iy : isD 59 (.tup ys) = true := by simpa [isD] using c0.2
      have d2 := hy.dp S.sub X.K iy
      have e := any_eqv (x := x) c0.1 c0.2
      have s1 := isD_shaped c0.1 (by decide)
      have s2 := isD_shaped iy (by decide)
      simp only [toD] at d2 s2
      refine ⟨fun Q q => ⟨_, op_inTD hu, _, _, d1, d2, s1, s2, ?_⟩, fun Q q => ⟨_, op_notInTD hu, _, _, d1, d2, s1, s2, ?_⟩⟩
      · rw [e]; exact q
      · rw [e]; exact q
    · cases h
  · split at h
    · rename_i ks vs _ ky hky
      cases h
      obtain ⟨a, kvs, rfl, ha, rfl, rs⟩ := hy.dK S.sub
      have ev := toKy_ok hky hx
      have g : DGet H a v1 (valV kvs ky) := by rw [ev]; exact DGet.k ha
      have e : (getK (kvs.map (·.1)) vs ky).isSome = (valV kvs ky).isSome := by
        rcases getK_ok (ky := ky) rs with ⟨h1, h2⟩ | ⟨w, v, h1, h2, _⟩ <;> rw [h1, h2] <;> rfl
      refine ⟨fun Q q => ⟨_, op_inDict hu1, a, _, rfl, g, ?_⟩, fun Q q => ⟨_, op_notInDict hu1, a, _, rfl, g, ?_⟩⟩
      · rw [← e]; exact q
      · rw [← e]; exact q
    · cases h
  · split at h
    · rename_i xs
      split at h
      · rename_i ks vs _ _ ky hky
        cases h
        obtain ⟨a, kvs, rfl, ha, rfl, rs⟩ := hy.dT S.sub
        obtain ⟨b, us, rfl, hb, rt⟩ := hx.tup
        have ev := toKys_ok hky rt
        have g : DGet H a (.ref b) (valV kvs ky) := DGet.t ha (by rw [← ev]; exact S.sub _ _ hb)
        have e : (getT (kvs.map (·.1)) vs ky).isSome = (valV kvs ky).isSome := by
          rcases getT_ok (ky := ky) rs with ⟨h1, h2⟩ | ⟨w, v, h1, h2, _⟩ <;> rw [h1, h2] <;> rfl
        refine ⟨fun Q q => ⟨_, op_inDict hu1, a, _, rfl, g, ?_⟩, fun Q q => ⟨_, op_notInDict hu1, a, _, rfl, g, ?_⟩⟩
        · rw [← e]; exact q
        · rw [← e]; exact q
      · cases h
    · cases h
  · cases h
theorem isNon_ok (h : RdW B G H x v) : decide (v = .non) = isNon x := by
  cases x with
  | non => rw [h.non]; rfl
  | bl b => rw [h.bl]; rfl
  | int i => rw [h.int]; rfl
  | str s => rw [h.str]; rfl
  | fn f => rw [h.fn]; rfl
  | _ =>
    rcases h with h | ⟨a, o, rfl, _⟩
    · cases h <;> rfl
    · rfl
theorem cmp_ok {o : COp} {c : Bool} (hr : Room k X.A) (S : StOk B z G H e σ) (hx : RdW B G H x v1) (hy : RdW B G H y v2) (h : cmpW o x y = some c) (q : Q (.bl c) H) : rOp X (compareOp (cop o)) v1 v2 H Q := by
  have hu : X.A.units + 64 < cLine := hr.units
  have eq : ∀ d : Bool, eqW x y = some d → (∀ Q : VK, Q (.bl d) H → rOp X (compareOp .Eq) v1 v2 H Q) ∧ (∀ Q : VK, Q (.bl (!d)) H → rOp X (compareOp .NotEq) v1 v2 H Q) := by
    intro d hd
    unfold eqW at hd
    split at hd
    · rename_i c0
      rw [Bool.and_eq_true] at c0
      cases hd
      have d1 := hx.dp S.sub X.K c0.1
      have d2 := hy.dp S.sub X.K c0.2
      have s1 := isD_shaped c0.1 (by decide)
      have s2 := isD_shaped c0.2 (by decide)
      have e := eqD_ok x y _ _ c0.1 c0.2
      exact ⟨fun Q q => ⟨_, op_eqD hu, _, _, d1, d2, s1, s2, by rw [← e]; exact q⟩, fun Q q => ⟨_, op_neD hu, _, _, d1, d2, s1, s2, by rw [← e]; exact q⟩⟩
    · cases hd
  cases o with
  | eq => exact (eq c h).1 Q q
  | ne =>
    unfold cmpW at h
    dsimp only at h
    cases hd : eqW x y with
    | none => rw [hd] at h; cases h
    | some d => rw [hd] at h; cases h; exact (eq d hd).2 Q q
  | lt =>
    unfold cmpW ltW at h
    dsimp only at h
    split at h
    · cases h; rw [hx.int, hy.int]; exact ⟨_, op_lt, _, _, rfl, rfl, q⟩
    · split at h
      · rename_i xs ys a b h1 h2
        cases h
        obtain ⟨p, vs, rfl, hp, rs⟩ := hx.tup
        obtain ⟨p2, us, rfl, hq, rt⟩ := hy.tup
        have e1 := ints_ok h1 rs
        have e2 := ints_ok h2 rt
        subst e1 e2
        refine ⟨_, op_ltT hr.units0, p, p2, _, _, rfl, rfl, .of (S.sub _ _ hp), .of (S.sub _ _ hq), ?_⟩
        rw [← lexL_eq]; exact q
      · cases h
    · cases h
  | le =>
    unfold cmpW at h
    dsimp only at h
    split at h
    · cases h; rw [hx.int, hy.int]; exact ⟨_, op_le, _, _, rfl, rfl, q⟩
    · cases h
  | gt =>
    unfold cmpW at h
    dsimp only at h
    split at h
    · cases h; rw [hx.int, hy.int]; exact ⟨_, op_gt, _, _, rfl, rfl, q⟩
    · cases h
  | ge =>
    unfold cmpW at h
    dsimp only at h
    split at h
    · cases h; rw [hx.int, hy.int]; exact ⟨_, op_ge, _, _, rfl, rfl, q⟩
    · cases h
  | is =>
    unfold cmpW at h
    dsimp only at h
    split at h
    · rename_i hn
      cases h
      refine ⟨_, op_isN, ?_, by rw [isNon_ok hx]; exact q⟩
      have := isNon_ok hy
      rw [hn] at this
      exact of_decide_eq_true this
    · cases h
  | isn =>
    unfold cmpW at h
    dsimp only at h
    split at h
    · rename_i hn
      cases h
      refine ⟨_, op_notN, ?_, by rw [isNon_ok hx]; exact q⟩
      have := isNon_ok hy
      rw [hn] at this
      exact of_decide_eq_true this
    · cases h
  | inn => exact (in_ok hr S hx hy h).1 Q q
  | nin =>
    unfold cmpW at h
    dsimp only at h
    cases hd : inW x y with
    | none => rw [hd] at h; cases h
    | some d => rw [hd] at h; cases h; exact (in_ok hr S hx hy hd).2 Q q
end Iv
end

section
set_option Elab.async false
set_option linter.all false
set_option maxRecDepth 100000
namespace Iv
open PySem L2
set_option autoImplicit false
variable {B : Bd} {z : Option Addr} {G H : Hp} {e : En} {σ : St} {w x y : W} {v v1 v2 : V} {a : Addr} {r r1 : R1} {Q : VK} {X : Cx} {k : Nat}

/-! ### places -/
theorem ixN_eq : ixN = L2.ixN := rfl
theorem atL_ok {ws : List W} {vs : List V} {i : Int} (h : atL ws i = some w) (rs : Reps B G ws vs) : ∃ v, L2.atI vs i = some v ∧ Rep B G w v := by
  unfold atL at h
  split at h
  · rename_i j hj
    obtain ⟨v, h1, h2⟩ := rs.get h
    refine ⟨v, ?_, h2⟩
    unfold L2.atI
    rw [← rs.length, ← ixN_eq, hj]
    exact h1
  · cases h
def rIxD : R2 := fun x y H Q => ∃ a v, x = .ref a ∧ DGet H a y (some v) ∧ Q v H
theorem ix_dict (hu : X.A.units + 1 < cLine) : IxR X rIxD := by
  intro value slice pins s σ H x y v u Q I rx ry h hs
  obtain ⟨a, z, rfl, g, q⟩ := h
  cases rx
  exact PyProof.Rows.tail_any (dict_typeIs I g) PySem.F.slot_dict_getitem.lookup (d_getItem hu I g ry fun w' s3 I3 rw' => ⟨z, H, I3, rw', q⟩) hs
def rIxA (X : Cx) : R2 := fun x y H Q => ∃ rr : R2, IxR X rr ∧ rr x y H Q
theorem rIxA_ok : IxR X (rIxA X) := fun value slice pins s σ H x y v u Q I rx ry ⟨rr, h, q⟩ hs => h value slice pins s σ H x y v u Q I rx ry q hs
theorem ix_ok (hr : Room k X.A) (S : StOk B z G H e σ) (hx : RdW B G H x v1) (hy : RdW B G H y v2) (h : ixW x y = some w) (q : ∀ v, Rep B G w v → Q v H) : rIxA X v1 v2 H Q := by
  have hu : X.A.units + 1 < cLine := by have := hr.un; omega
  unfold ixW at h
  split at h
  · obtain ⟨p, vs, rfl, hp, rs⟩ := hx.lst S.sub
    obtain ⟨v, h1, h2⟩ := atL_ok h rs
    rw [hy.int]
    exact ⟨_, ix_list, p, vs, _, v, rfl, rfl, .of hp, h1, q v h2⟩
  · obtain ⟨p, vs, rfl, hp, rs⟩ := hx.tup
    obtain ⟨v, h1, h2⟩ := atL_ok h rs
    rw [hy.int]
    exact ⟨_, ix_tup, p, vs, _, v, rfl, rfl, .of (S.sub _ _ hp), h1, q v h2⟩
  · split at h
    · rename_i ks vs _ ky hky
      obtain ⟨a, kvs, rfl, ha, rfl, rs⟩ := hx.dK S.sub
      have ev := toKy_ok hky hy
      rcases getK_ok (ky := ky) rs with ⟨h1, h2⟩ | ⟨w', v, h1, h2, h3⟩
      · rw [h1] at h; cases h
      · rw [h1] at h; cases h
        exact ⟨_, ix_dict hu, a, v, rfl, by rw [ev, ← h2]; exact DGet.k ha, q v h3⟩
    · cases h
  · split at h
    · rename_i ks vs _ _ ky hky
      obtain ⟨a, kvs, rfl, ha, rfl, rs⟩ := hx.dT S.sub
      obtain ⟨b, us, rfl, hb, rt⟩ := hy.tup
      have ev := toKys_ok hky rt
      rcases getT_ok (ky := ky) rs with ⟨h1, h2⟩ | ⟨w', v, h1, h2, h3⟩
      · rw [h1] at h; cases h
      · rw [h1] at h; cases h
        exact ⟨_, ix_dict hu, a, v, rfl, by rw [← h2]; exact DGet.t ha (by rw [← ev]; exact S.sub _ _ hb), q v h3⟩
    · cases h
  · cases h

/-! ### cuts -/
theorem cut_ok {ws : List W} {vs : List V} (rs : Reps B G ws vs) (lo hi : Option Int) : Reps B G (cut ws lo hi) (cutV vs lo hi) := by
  unfold cut cutV
  rw [← rs.length]
  exact (rs.drop _).take _
theorem cut_whole {ws : List W} {lo hi : Option Int} (h : HT.sIx ws.length 0 lo = 0 ∧ HT.sIx ws.length ws.length hi = ws.length) : cut ws lo hi = ws := by
  have e : cut ws lo hi = (ws.drop (HT.sIx ws.length 0 lo)).take (HT.sIx ws.length ws.length hi - HT.sIx ws.length 0 lo) := rfl
  rw [e, h.1, h.2]
  simp
abbrev RSl := V → Option Int → Option Int → Hp → VK → Prop
def rSlX (X : Cx) : RSl := fun x lo hi H Q => ∃ rr : RSl, SlR X rr ∧ rr x lo hi H Q
theorem rSlX_ok : SlR X (rSlX X) := fun pins s σ H x v vl vu lo hi sl Q I rx hs pl pu ⟨rr, h, q⟩ => h pins s σ H x v vl vu lo hi sl Q I rx hs pl pu q
theorem cutW_ok {lo hi : Option Int} (hsk : ∀ a vs, B.sk a vs → ∀ H : Hp, SqL X.K H a vs) (S : StOk B z G H e σ) (hx : RdW B G H x v1) (h : cutW x lo hi = some r1) (y' : Yd B z G H e σ r1 Q) : rSlX X v1 lo hi H Q := by
  unfold cutW at h
  split at h
  · cases h
    obtain ⟨p, vs, rfl, hp, rs⟩ := hx.lst S.sub
    exact ⟨_, sl_list, p, vs, rfl, .of hp, fun l hl => y'.new S hl (.lst (cut_ok rs lo hi)) rfl⟩
  · cases h
    obtain ⟨p, vs, rfl, hp, rs⟩ := hx.tup
    refine ⟨_, sl_tupA, p, vs, rfl, .of (S.sub _ _ hp), fun hw => ?_, fun _ l hl => y'.fix S hl (.tup (cut_ok rs lo hi))⟩
    rw [← rs.length] at hw
    refine y'.val S ?_
    rw [cut_whole hw]
    exact .obj hp (.tup rs)
  · cases h
    obtain ⟨p, vs, rfl, hp, rs⟩ := hx.scr
    refine ⟨_, sl_list, p, vs, rfl, ?_, fun l hl => y'.new S hl (.lst (cut_ok rs lo hi)) rfl⟩
    rcases hp with ⟨o, hp⟩ | hp
    · exact .inl (.inr ⟨o, S.sub _ _ hp⟩)
    · exact hsk _ _ hp H
  · cases h

/-! ### built-in functions -/
def rCl (X : Cx) (f : Value) : List V → Hp → VK → Prop := fun xs H Q => ∃ rr : List V → Hp → VK → Prop, CallR X f rr ∧ rr xs H Q
theorem rCl_ok {f : Value} : CallR X f (rCl X f) := fun pins s σ H xs us Q I r ⟨rr, h, q⟩ => h pins s σ H xs us Q I r q
def b1V : B1 → Value
  | .len => .builtin "len"
  | .abs => .builtin "abs"
  | .int => .type "int"
  | .tuple => .type "tuple"
  | .list => .type "list"
  | .sum => .builtin "sum"
  | .all => .builtin "all"
  | .any => .builtin "any"
  | .min => .builtin "min"
  | .max => .builtin "max"
  | .sorted => .builtin "sorted"
  | .dict => .type "dict"
  | .set => .type "set"
  | .str => .type "str"
theorem sumI_eq : ∀ ns : List Int, sumI ns = ns.sum
  | [] => rfl
  | n :: ns => by unfold sumI; rw [sumI_eq ns, List.sum_cons]
theorem minI_ok : ∀ (ns : List Int) (m m' : Int), (m' = m ∨ m' ∈ ns) → (m' ≤ m ∧ ∀ y ∈ ns, m' ≤ y) → m' = minI m ns
  | [], m, m', h, _ => by rcases h with h | h; exact h; cases h
  | n :: ns, m, m', h, l => by
    unfold minI
    have l1 := l.1
    have l2 := l.2 n List.mem_cons_self
    by_cases c : n < m
    · rw [if_pos c]
      refine minI_ok ns n m' ?_ ⟨l2, fun y hy => l.2 y (List.mem_cons_of_mem _ hy)⟩
      rcases h with h | h
      · omega
      · rcases List.mem_cons.mp h with h | h
        · exact .inl h
        · exact .inr h
    · rw [if_neg c]
      refine minI_ok ns m m' ?_ ⟨l1, fun y hy => l.2 y (List.mem_cons_of_mem _ hy)⟩
      rcases h with h | h
      · exact .inl h
      · rcases List.mem_cons.mp h with h | h
        · exact .inl (by omega)
        · exact .inr h
theorem maxI_ok : ∀ (ns : List Int) (m m' : Int), (m' = m ∨ m' ∈ ns) → (m ≤ m' ∧ ∀ y ∈ ns, y ≤ m') → m' = maxI m ns
  | [], m, m', h, _ => by rcases h with h | h; exact h; cases h
  | n :: ns, m, m', h, l => by
    unfold maxI
    have l1 := l.1
    have l2 := l.2 n List.mem_cons_self
    by_cases c : m < n
    · rw [if_pos c]
      refine maxI_ok ns n m' ?_ ⟨l2, fun y hy => l.2 y (List.mem_cons_of_mem _ hy)⟩
      rcases h with h | h
      · omega
      · rcases List.mem_cons.mp h with h | h
        · exact .inl h
        · exact .inr h
    · rw [if_neg c]
      refine maxI_ok ns m m' ?_ ⟨l1, fun y hy => l.2 y (List.mem_cons_of_mem _ hy)⟩
      rcases h with h | h
      · exact .inl h
      · rcases List.mem_cons.mp h with h | h
        · exact .inl (by omega)
        · exact .inr h
theorem insI_perm (n : Int) : ∀ ns : List Int, (insI n ns).Perm (n :: ns)
  | [] => .refl _
  | m :: ns => by
    unfold insI
    split
    · exact .refl _
    · exact ((insI_perm n ns).cons m).trans (List.Perm.swap n m ns)
theorem insI_le (n : Int) : ∀ ns : List Int, ns.Pairwise (· ≤ ·) → (insI n ns).Pairwise (· ≤ ·)
  | [], _ => by simp [insI]
  | m :: ns, h => by
    unfold insI
    obtain ⟨h1, h2⟩ := List.pairwise_cons.mp h
    split
    · rename_i c
      refine List.pairwise_cons.mpr ⟨fun y hy => ?_, h⟩
      rcases List.mem_cons.mp hy with e | hy
      · rw [e]; exact c
      · exact Int.le_trans c (h1 y hy)
    · rename_i c
      refine List.pairwise_cons.mpr ⟨fun y hy => ?_, insI_le n ns h2⟩
      rcases List.mem_cons.mp ((insI_perm n ns).mem_iff.mp hy) with e | hy
      · rw [e]; omega
      · exact h1 y hy
theorem sortI_ok : ∀ ns : List Int, (sortI ns).Perm ns ∧ (sortI ns).Pairwise (· ≤ ·)
  | [] => ⟨.refl _, .nil⟩
  | n :: ns => by
    obtain ⟨h1, h2⟩ := sortI_ok ns
    unfold sortI
    exact ⟨(insI_perm n _).trans (h1.cons n), insI_le n _ h2⟩
theorem sorted_one {a b : List Int} (h : a.Perm b) (ha : a.Pairwise (· ≤ ·)) (hb : b.Pairwise (· ≤ ·)) : a = b := h.eq_of_pairwise (fun x y _ _ h1 h2 => Int.le_antisymm h1 h2) ha hb
theorem cr_sumT (hc : X.calm = true) : CallR X (.builtin "sum") (fun vs H Q => ∃ (a : Addr) (ns : List Int), vs = [V.ref a] ∧ SqT X.K H a (ns.map V.int) ∧ Q (.int ns.sum) H) := by
  intro pins s σ H vs us Q I r h
  obtain ⟨a, ns, rfl, hs, q⟩ := h
  obtain ⟨its, rv, hl, _⟩ := I.tuple hs
  rw [Vals.ref1 r]
  have hi := rv.ints
  obtain ⟨xs, e⟩ := hi.allInts.items
  have hn : numsOf (intItems xs).toList = ns := by rw [← e]; exact hi.numsOf
  rw [nums_intItems] at hn
  have hl' : s.heap.IsTuple a its.toArray := hl
  rw [e] at hl'
  refine PySem.W.ktm_sumG (I.ok.hd hc) hl' fun h' tk t' hk => ?_
  refine ⟨.int _, H, I.kept hk, ⟨t', rfl⟩, ?_⟩
  rw [preSum_eq, List.take_of_length_le (by simp), hn]; exact q
theorem len_dK : CallR X (.builtin "len") (fun xs H Q => ∃ a kvs, xs = [V.ref a] ∧ H a = some (.dK kvs) ∧ Q (.int kvs.length) H) := call_lenD
theorem b1_ok {f : B1} (hc : X.calm = true) (hr : Room k X.A) (S : StOk B z G H e σ) (hx : RdW B G H x v1) (h : b1W f x = some r1) (y' : Yd B z G H e σ r1 Q) : rCl X (b1V f) [v1] H Q := by
  cases f with
  | len =>
    unfold b1W at h
    dsimp only at h
    split at h
    · cases h
      obtain ⟨p, vs, rfl, hp, rs⟩ := hx.lst S.sub
      refine ⟨_, call_len_seq, p, vs, rfl, .inl (.of hp), ?_⟩
      rw [← rs.length]; exact y'.val S (.int _)
    · cases h
      obtain ⟨p, vs, rfl, hp, rs⟩ := hx.tup
      refine ⟨_, call_len_seq, p, vs, rfl, .inr (.of (S.sub _ _ hp)), ?_⟩
      rw [← rs.length]; exact y'.val S (.int _)
    · cases h
      obtain ⟨a, kvs, rfl, ha, rfl, rs⟩ := hx.dK S.sub
      refine ⟨_, call_lenD, a, kvs, rfl, ha, ?_⟩
      rw [List.length_map] at y'; exact y'.val S (.int _)
    · cases h
      obtain ⟨a, kvs, rfl, ha, rfl, rs⟩ := hx.dT S.sub
      refine ⟨_, call_len_dT, a, kvs, rfl, ha, ?_⟩
      rw [List.length_map] at y'; exact y'.val S (.int _)
    · split at h
      · rename_i c
        cases h
        rw [hx.str]
        exact ⟨_, call_len_str, _, rfl, by rw [← lim_eq]; exact c, y'.val S (.int _)⟩
      · cases h
    · cases h
  | abs =>
    unfold b1W at h
    dsimp only at h
    split at h
    · cases h; rw [hx.int]; exact ⟨_, call_abs, _, rfl, y'.val S (.int _)⟩
    · cases h
  | int =>
    unfold b1W at h
    dsimp only at h
    split at h
    · cases h; rw [hx.int]; exact ⟨_, call_int1, .inl ⟨_, rfl, y'.val S (.int _)⟩⟩
    · cases h; rw [hx.bl]; exact ⟨_, call_int1, .inr ⟨_, rfl, y'.val S (.int _)⟩⟩
    · cases h
  | tuple =>
    unfold b1W at h
    dsimp only at h
    split at h
    · cases h
      obtain ⟨p, vs, rfl, hp, rs⟩ := hx.lst S.sub
      exact ⟨_, call_tuple_of, p, vs, rfl, .inl ⟨.of hp, fun l hl => y'.fix S hl (.tup rs)⟩⟩
    · cases h
      obtain ⟨p, vs, rfl, hp, rs⟩ := hx.tup
      exact ⟨_, call_tuple_of, p, vs, rfl, .inr ⟨.of (S.sub _ _ hp), y'.val S (.obj hp (.tup rs))⟩⟩
    · cases h
  | list =>
    unfold b1W at h
    dsimp only at h
    split at h
    · cases h
      obtain ⟨p, vs, rfl, hp, rs⟩ := hx.lst S.sub
      exact ⟨_, call_list_of, p, vs, rfl, .inl (.of hp), fun l hl => y'.new S hl (.lst rs) rfl⟩
    · cases h
      obtain ⟨p, vs, rfl, hp, rs⟩ := hx.tup
      exact ⟨_, call_list_of, p, vs, rfl, .inr (.of (S.sub _ _ hp)), fun l hl => y'.new S hl (.lst rs) rfl⟩
    · cases h
  | sum =>
    unfold b1W at h
    dsimp only at h
    split at h
    · rename_i xs
      cases hi : intsW xs with
      | none => rw [hi] at h; cases h
      | some ns =>
        rw [hi] at h; cases h
        obtain ⟨p, vs, rfl, hp, rs⟩ := hx.lst S.sub
        have e1 := ints_ok hi rs
        subst e1
        refine ⟨_, cr_sum hc, p, ns, rfl, .of hp, ?_⟩
        rw [← sumI_eq]; exact y'.val S (.int _)
    · rename_i xs
      cases hi : intsW xs with
      | none => rw [hi] at h; cases h
      | some ns =>
        rw [hi] at h; cases h
        obtain ⟨p, vs, rfl, hp, rs⟩ := hx.tup
        have e1 := ints_ok hi rs
        subst e1
        refine ⟨_, cr_sumT hc, p, ns, rfl, .of (S.sub _ _ hp), ?_⟩
        rw [← sumI_eq]; exact y'.val S (.int _)
    · cases h
  | all =>
    unfold b1W at h
    dsimp only at h
    split at h
    · rename_i xs
      cases hi : boolsW xs with
      | none => rw [hi] at h; cases h
      | some ns =>
        rw [hi] at h; cases h
        obtain ⟨p, vs, rfl, hp, rs⟩ := hx.lst S.sub
        have e1 := bools_ok hi rs
        subst e1
        exact ⟨_, cr_all hc, p, ns, rfl, .of hp, y'.val S (.bl _)⟩
    · cases h
  | any =>
    unfold b1W at h
    dsimp only at h
    split at h
    · rename_i xs
      cases hi : boolsW xs with
      | none => rw [hi] at h; cases h
      | some ns =>
        rw [hi] at h; cases h
        obtain ⟨p, vs, rfl, hp, rs⟩ := hx.lst S.sub
        have e1 := bools_ok hi rs
        subst e1
        exact ⟨_, cr_any hc, p, ns, rfl, .of hp, y'.val S (.bl _)⟩
    · cases h
  | min =>
    unfold b1W at h
    dsimp only at h
    split at h
    · rename_i xs
      split at h
      · rename_i n ns hi
        cases h
        obtain ⟨p, vs, rfl, hp, rs⟩ := hx.lst S.sub
        have e1 := ints_ok hi rs
        subst e1
        refine ⟨_, cr_min hc, p, n :: ns, rfl, .of hp, by simp, fun m hm hl => ?_⟩
        rw [minI_ok ns n m (by simpa using hm) ⟨hl n List.mem_cons_self, fun y hy => hl y (List.mem_cons_of_mem _ hy)⟩]
        exact y'.val S (.int _)
      · cases h
    · cases h
  | max =>
    unfold b1W at h
    dsimp only at h
    split at h
    · rename_i xs
      split at h
      · rename_i n ns hi
        cases h
        obtain ⟨p, vs, rfl, hp, rs⟩ := hx.lst S.sub
        have e1 := ints_ok hi rs
        subst e1
        refine ⟨_, cr_max hc, p, n :: ns, rfl, .of hp, by simp, fun m hm hl => ?_⟩
        rw [maxI_ok ns n m (by simpa using hm) ⟨hl n List.mem_cons_self, fun y hy => hl y (List.mem_cons_of_mem _ hy)⟩]
        exact y'.val S (.int _)
      · cases h
    · cases h
  | sorted =>
    unfold b1W at h
    dsimp only at h
    split at h
    · rename_i xs
      split at h
      · rename_i ns hi
        cases h
        obtain ⟨p, vs, rfl, hp, rs⟩ := hx.lst S.sub
        have e1 := ints_ok hi rs
        subst e1
        refine ⟨_, cr_sortedI, p, ns, rfl, .of hp, fun ns' l hperm hpw hl => ?_⟩
        have e2 : ns' = sortI ns := sorted_one (hperm.trans (sortI_ok ns).1.symm) hpw (sortI_ok ns).2
        subst e2
        exact y'.new S hl (.lst (reps_ints _)) rfl
      · cases h
    · cases h
  | dict => cases h
  | set => cases h
  | str => cases h
def b2V : B2 → Value
  | .min => .builtin "min"
  | .max => .builtin "max"
theorem b2_ok {f : B2} (hc : X.calm = true) (S : StOk B z G H e σ) (hx : RdW B G H x v1) (hy : RdW B G H y v2) (h : b2W f x y = some r1) (y' : Yd B z G H e σ r1 Q) : rCl X (b2V f) [v1, v2] H Q := by
  unfold b2W at h
  split at h
  · cases h; rw [hx.int, hy.int]; exact ⟨_, call_min2 hc, _, _, rfl, y'.val S (.int _)⟩
  · cases h; rw [hx.int, hy.int]; exact ⟨_, call_max2 hc, _, _, rfl, y'.val S (.int _)⟩
  · cases h
/-! ### isinstance -/
def tyN : Ty → String
  | .int => "int"
  | .bool => "bool"
  | .str => "str"
  | .list => "list"
  | .tuple => "tuple"
  | .dict => "dict"
  | .cls _ => ""
theorem isTy_ok {t : Ty} {c : Bool} (S : StOk B z G H e σ) (hx : RdW B G H x v) (h : isTy t x = some c) : ∃ u, TyX X.K H v u ∧ PySem.W.kitOne X.K u (.type (tyN t)) = some c := by
  cases t with
  | cls _ => cases h
  | _ =>
    unfold isTy at h
    dsimp only at h
    split at h
    · cases h; rw [hx.non]; exact ⟨_, .base .non, kit_ty (by decide +kernel)⟩
    · cases h; rw [hx.bl]; exact ⟨_, .base (.bl _), kit_ty (by decide +kernel)⟩
    · cases h; rw [hx.int]; exact ⟨_, .base (.int _), kit_ty (by decide +kernel)⟩
    · cases h; rw [hx.str]; exact ⟨_, .base (.str _), kit_ty (by decide +kernel)⟩
    · cases h
      obtain ⟨p, vs, rfl, hp, rs⟩ := hx.tup
      exact ⟨_, .base (.tup (S.sub _ _ hp)), kit_ty (by decide +kernel)⟩
    · cases h
      obtain ⟨p, vs, rfl, hp, rs⟩ := hx.lst S.sub
      exact ⟨_, .base (.lst hp), kit_ty (by decide +kernel)⟩
    · cases h
      obtain ⟨a, kvs, rfl, ha, rfl, rs⟩ := hx.dK S.sub
      exact ⟨_, .base (.dK ha), kit_ty (by decide +kernel)⟩
    · cases h
      obtain ⟨a, kvs, rfl, ha, rfl, rs⟩ := hx.dT S.sub
      exact ⟨_, .base (.dT ha), kit_ty (by decide +kernel)⟩
    · cases h
end Iv
end

section
set_option Elab.async false
set_option linter.all false
set_option maxRecDepth 100000
namespace Iv
open PySem L2
set_option autoImplicit false
variable {B : Bd} {z : Option Addr} {G H G' H' G0 H0 G1 H1 : Hp} {e e' e0 e1 : En} {σ σ' : St} {w x y : W} {v v1 v2 : V} {a : Addr} {r r1 : R1} {Q Q' : VK} {W' : WX}

/-! ### calls -/
structure FrC (z : Option Addr) (G H G' H' : Hp) : Prop where
  g : Sub G G'
  h : Sub G' H'
  keep : ∀ a o, H a = some o → z ≠ some a → H' a = some o ∧ G' a = G a
  tr : ∀ a, H a ≠ none → H' a ≠ none
def EndC (B : Bd) (z : Option Addr) (G H : Hp) (s : Sl) : Prop := match z with
  | none => True
  | some a => ∃ w, s = .p w ∧ Own B G H w a
def ResC (B : Bd) (G' H' H : Hp) (fr : Bool) (w : W) (v : V) : Prop := match fr with
  | true => ∃ a, v = .ref a ∧ Own B G' H' w a ∧ H a = none
  | false => Rep B G' w v
def PostC (B : Bd) (z : Option Addr) (G H : Hp) (r : RF) (Q : VK) (E : XK) : Prop := match r with
  | .err => False
  | .ok fr w s => ∀ G' H' v, FrC z G H G' H' → EndC B z G' H' s → ResC B G' H' H fr w v → Q v H'
  | .exn x s => ∀ G' H' cls d, FrC z G H G' H' → EndC B z G' H' s → ExR B G' H' x cls d → E cls d H'
/-- what a def promises -/
def spK (B : Bd) (K : Nat → List Sl → RF) (f : Nat) : Sp := fun vs H Q E => ∃ G, Sub G H ∧
  ((∃ ws, Reps B G ws vs ∧ PostC B none G H (K f (ws.map .v)) Q E) ∨
   (∃ w ws a us, vs = .ref a :: us ∧ Own B G H w a ∧ Reps B G ws us ∧ PostC B (some a) G H (K f (.p w :: ws.map .v)) Q E))

/-! ### the law's tables, what stands behind them -/
structure Lx where
  fn : Nat → Option Str
  g : List (Str × Int)
  xc : Nat → Option Str
  xn : Nat → Option Str
  T : Tb
def biNames : List Str := ["len", "abs", "int", "tuple", "list", "sum", "all", "any", "min", "max", "sorted", "range", "enumerate", "zip", "isinstance", "bool", "str", "dict"]
structure Wd (L : Lx) (B : Bd) (KK : Nat → List Sl → RF) (k : Nat) (P : Program) (w : World) (K : PySem.W.Frag) (mg : Str → Option Value) (base : Heap) : Prop where
  fn : ∀ f x, L.fn f = some x → mg x = some (.ref (B.fa f)) ∧ (x == ("__debug__" : Str)) = false
  ok : ∀ f, L.T.has f = true → ∃ fd ps, FnOk P w K mg base (L2.CX P w) k (B.fa f) fd ps (spK B KK f) ∧ PySem.W.keepIn K (.ref (B.fa f)) = true ∧ Binds K fd ps []
  bi : ∀ x ∈ biNames, mg x = none
  xc : ∀ c x, L.xc c = some x → ∀ X : Cx, X.K = K → X.mg = mg → Gl X x → ∀ (m : Str) (j : Nat) (p p2 pos : Pos), PMk X (.Call (.Name x p) [.Constant (.str m) j p2] [] pos) (fun _ H Q => Q (.ref (B.ca c)) none H)
  sk : ∀ a vs, B.sk a vs → ∀ H : Hp, SqL K H a vs
  exm : ∀ a b, L.T.xcl a = true → L.T.xcl b = true → PySem.W.exmOne K (.ref (B.ca a)) (.ref (B.ca b)) = some (decide (a = b))
  xn : ∀ c x, L.xn c = some x → mg x = some (.ref (B.ca c)) ∧ (x == ("__debug__" : Str)) = false
  g : ∀ x i, (x, i) ∈ L.g → (∃ u, mg x = some u ∧ RelV (.int i) u) ∧ (x == ("__debug__" : Str)) = false

/-- where an expression stands -/
structure Sx where
  sc : Scope
  raw : Scope
structure XOk (L : Lx) (B : Bd) (KK : Nat → List Sl → RF) (k : Nat) (N : List Str) (s : Sx) (X : Cx) : Prop where
  hN : X.N = N
  hsc : X.env.scope = s.sc
  nd : N.Nodup
  room : Room k X.A
  calm : X.calm = true
  wd : Wd L B KK k X.prog X.w X.K X.mg X.base
  sto : ∀ y, s.raw.names.lookup y = some .cell → X.fn y = true

/-! ### the look at an expression -/
inductive Px where
  | e (x : Expr) | l (xs : List Expr) | i (x : Expr)
def glB (s : Sx) (y : Str) : Bool := decide (s.sc.names.lookup y = some .globalImplicit)
def viB (N : List Str) (s : Sx) (i : Nat) (y : Str) : Bool := decide (N[i]? = some y) && !(y == ("__debug__" : Str)) && !(y == ("__classdict__" : Str)) &&
  (decide (s.sc.names.lookup y = some .local) || decide (s.sc.names.lookup y = some .cell) || decide (s.sc.names.lookup y = some .free))
/-- a name that is stored -/
def stB (N : List Str) (s : Sx) (i : Nat) (y : Str) : Bool := decide (N[i]? = some y) && (decide (s.sc.names.lookup y = some .local) || (decide (s.sc.names.lookup y = some .cell) && decide (s.raw.names.lookup y = some .cell)))
def plB : Expr → Bool
  | .Starred .. => false
  | .Slice .. => false
  | .Set .. => false
  | _ => true
def abB : Expr → Bool
  | .Name .. => true
  | .Subscript .. => true
  | .Attribute .. => true
  | _ => false
def ncB : Expr → Bool
  | .ListComp .. => false
  | .SetComp .. => false
  | .DictComp .. => false
  | _ => true
theorem star_pl {x : Expr} {xs : List Expr} {env : Env} (h : plB x = true) : starEach (x :: xs) env = (false, eval x env) :: starEach xs env := by
  cases x <;> first | rfl | (cases h)
theorem plain_pl {x : Expr} (h : plB x = true) : PlainIx x := by
  cases x <;> first | (intro _ _; rfl) | (cases h)
theorem fold_pl {x : Expr} {env : Env} (h : plB x = true) : ∀ u, foldedSetIterable x env u = pure u := by
  cases x <;> first | (intro _; rfl) | (cases h)
theorem beh_pl {x : Expr} {o : CmpOp} (h : plB x = true) : behindInMarks o x = false := by
  cases x <;> first | rfl | (cases h)
theorem base_ab {x : Expr} {f : Str} {env : Env} {t : Sem Value} (h : abB x = true) : attributeBase x f env t = t := by
  cases x <;> first | rfl | (cases h)
theorem swaps_nc {x : Expr} {t : Option Expr} {l : Nat} {env : Env} (h : ncB x = true) : swapsWith x t l env = pure false := by
  cases x <;> first | rfl | (cases h)
theorem backTo_pl {env : Env} {pos : Pos} : ∀ {xs : List Expr}, xs.all plB = true → (backTo pos (starEach xs env)).any (·.1) = false
  | [], _ => rfl
  | x :: xs, h => by
    rw [List.all_cons, Bool.and_eq_true] at h
    rw [star_pl h.1]
    have := backTo_pl (env := env) (pos := pos) h.2
    simp only [backTo, List.map_cons, List.any_cons, Bool.false_or] at this ⊢
    exact this
def bopB : BOp → Operator → Bool
  | .add, .Add => true
  | .sub, .Sub => true
  | .mul, .Mult => true
  | .fdiv, .FloorDiv => true
  | .mod, .Mod => true
  | _, _ => false
theorem bopB_ok {o : BOp} {p : Operator} (h : bopB o p = true) : p = bop o := by cases o <;> cases p <;> first | rfl | cases h
def copB : COp → CmpOp → Bool
  | .eq, .Eq => true
  | .ne, .NotEq => true
  | .lt, .Lt => true
  | .le, .LtE => true
  | .gt, .Gt => true
  | .ge, .GtE => true
  | .is, .Is => true
  | .isn, .IsNot => true
  | .inn, .In => true
  | .nin, .NotIn => true
  | _, _ => false
theorem copB_ok {o : COp} {p : CmpOp} (h : copB o p = true) : p = cop o := by cases o <;> cases p <;> first | rfl | cases h
def b1N : B1 → Str
  | .len => "len"
  | .abs => "abs"
  | .int => "int"
  | .tuple => "tuple"
  | .list => "list"
  | .sum => "sum"
  | .all => "all"
  | .any => "any"
  | .min => "min"
  | .max => "max"
  | .sorted => "sorted"
  | .dict => "dict"
  | .set => "dict"
  | .str => "str"
def b1B : B1 → Bool
  | .dict => false
  | .set => false
  | .str => false
  | _ => true
def b2N : B2 → Str
  | .min => "min"
  | .max => "max"
def tyS : Ty → Str
  | .int => "int"
  | .bool => "bool"
  | .str => "str"
  | .list => "list"
  | .tuple => "tuple"
  | .dict => "dict"
  | .cls _ => "len"
def tcB : Ty → Bool
  | .cls _ => false
  | _ => true
def tyB (s : Sx) : List Ty → List Expr → Bool
  | [], [] => true
  | t :: ts, .Name y _ :: ys => decide (y = tyS t) && glB s y && tcB t && tyB s ts ys
  | _, _ => false
def kB : W → Const → Bool
  | .int i, .int j => decide (i = j)
  | .str x, .str y => decide (x = y)
  | .bl a, .bool b => decide (a = b)
  | .non, .none => true
  | _, _ => false
/-- targets -/
def ptB (N : List Str) (s : Sx) : Pt → Expr → Bool
  | .n i => fun x => match x with
    | .Name y _ => stB N s i y
    | _ => false
  | .t2 a b => fun x => match x with
    | .Tuple [p, q] _ _ => plB p && plB q && ptB N s a p && ptB N s b q
    | _ => false
  | .t3 a b c => fun x => match x with
    | .Tuple [p, q, r] _ _ => plB p && plB q && plB r && ptB N s a p && ptB N s b q && ptB N s c r
    | _ => false
def ptOwn (own : List Nat) : Pt → Bool
  | .n i => own.contains i
  | .t2 a b => ptOwn own a && ptOwn own b
  | .t3 a b c => ptOwn own a && ptOwn own b && ptOwn own c
def ownOf (N : List Str) (own : List Nat) : List (Str × Nat) := own.map fun i => (N.getD i "", i)
def inner (s : Sx) (scope : Scope) : Sx := ⟨relS scope s.sc, scope⟩
def isIte : E → Bool
  | .ite _ _ _ => true
  | _ => false
/-- iterables of their own kind -/
def isIt : E → Bool
  | .rng1 _ => true
  | .rng2 _ _ => true
  | .rng3 _ _ _ => true
  | .enu _ => true
  | .zip _ _ => true
  | .nil => true
  | .cons _ _ => true
  | .consR _ _ => true
  | _ => false
def gExpr : Px → Option Expr
  | .e x => some x
  | .i x => some x
  | _ => none
def tlB (a b : Bool) : List Expr → Bool
  | [] => a
  | _ :: _ => b
def optB (n : Bool) (f : Expr → Bool) : Option Expr → Bool
  | none => n
  | some x => !n && f x
def ifsB (n i : Bool) (f : Expr → Bool) : List Expr → Bool
  | [] => n
  | [t] => !n && !i && f t
  | _ => false
def isiB (f : List Expr → Bool) (tp : Bool) (n : Nat) : Expr → Bool
  | .Tuple us _ _ => tp && decide (0 < n) && decide (n ≤ 100) && us.all plB && f us
  | t => !tp && plB t && decide (0 < n) && f [t]
def tgB (e : E) (x : Expr) : Bool := match e with
  | .enu _ => (match x with | .Tuple .. => true | _ => false)
  | .zip _ _ => (match x with | .Tuple .. => true | _ => false)
  | _ => true
variable (L : Lx) (N : List Str)
def chk : E → Sx → Px → Bool
  | .v i => fun s p => match gExpr p with
    | some (.Name y _) => viB N s i y
    | _ => false
  | .k w => fun s p => match p with
    | .e (.Constant c _ _) => kB w c
    | _ => false
  | .g x i => fun s p => match p with
    | .e (.Name y _) => decide (y = x) && glB s y && decide ((x, i) ∈ L.g)
    | _ => false
  | .fn f => fun s p => match p with
    | .e (.Name y _) => glB s y && decide (L.fn f = some y) && L.T.has f
    | _ => false
  | .bin o a b => fun s p => match gExpr p with
    | some (.BinOp a' o' b' _) => bopB o o' && chk a s (.e a') && chk b s (.e b')
    | _ => false
  | .neg a => fun s p => match p with
    | .e (.UnaryOp .USub a' _) => chk a s (.e a')
    | _ => false
  | .not a => fun s p => match p with
    | .e (.UnaryOp .Not a' _) => !isIte a && chk a s (.e a')
    | _ => false
  | .and a b => fun s p => match p with
    | .e (.BoolOp .And (a' :: b' :: rest) pos) => !isIte a && !isIte b && chk a s (.e a') && tlB (chk b s (.e b')) (chk b s (.e (.BoolOp .And (b' :: rest) pos))) rest
    | _ => false
  | .or a b => fun s p => match p with
    | .e (.BoolOp .Or (a' :: b' :: rest) pos) => !isIte a && !isIte b && chk a s (.e a') && tlB (chk b s (.e b')) (chk b s (.e (.BoolOp .Or (b' :: rest) pos))) rest
    | _ => false
  | .cmp o a b => fun s p => match p with
    | .e (.Compare a' [o'] [b'] _) => copB o o' && plB b' && chk a s (.e a') && chk b s (.e b')
    | _ => false
  | .cmp2 o q a b c => fun s p => match p with
    | .e (.Compare a' [o', q'] [b', c'] _) => copB o o' && copB q q' && plB c' && chk a s (.e a') && chk b s (.e b') && chk c s (.e c')
    | _ => false
  | .cmp3 _ _ _ _ _ _ _ => fun _ _ => false
  | .ite c a b => fun s p => match gExpr p with
    | some (.IfExp c' a' b' _) => !isIte c && chk c s (.e c') && chk a s (.e a') && chk b s (.e b')
    | _ => false
  | .ix a b => fun s p => match gExpr p with
    | some (.Subscript a' b' _) => plB b' && chk a s (.e a') && chk b s (.e b')
    | _ => false
  | .sl a lo hi => fun s p => match gExpr p with
    | some (.Subscript a' (.Slice lo' hi' none _) _) => chk a s (.e a') && optB (isNil lo) (fun x => chk lo s (.e x)) lo' && optB (isNil hi) (fun x => chk hi s (.e x)) hi'
    | _ => false
  | .rev a => fun s p => match gExpr p with
    | some (.Subscript a' (.Slice none none (some (.UnaryOp .USub (.Constant (.int 1) _ _) _)) _) _) => chk a s (.e a')
    | _ => false
  | .tup es => fun s p => match gExpr p with
    | some (.Tuple xs _ _) => chk es s (.l xs)
    | _ => false
  | .lst es => fun s p => match gExpr p with
    | some (.List xs _) => chk es s (.l xs)
    | _ => false
  | .d0 t => fun s p => match p with
    | .e (.Dict [] [] _) => true
    | _ => false
  | .dd _ _ => fun _ _ => false
  | .b1 f a => fun s p => match gExpr p with
    | some (.Call (.Name y _) [a'] [] _) => b1B f && decide (y = b1N f) && glB s y && plB a' && chk a s (.e a')
    | _ => false
  | .b2 f a b => fun s p => match p with
    | .e (.Call (.Name y _) [a', b'] [] _) => decide (y = b2N f) && glB s y && plB a' && plB b' && chk a s (.e a') && chk b s (.e b')
    | _ => false
  | .isi a ts tp => fun s p => match p with
    | .e (.Call (.Name y _) [a', t'] [] _) => decide (y = ("isinstance" : Str)) && glB s y && plB a' && chk a s (.e a') && isiB (tyB s ts) tp ts.length t'
    | _ => false
  | .lrng a => fun s p => match gExpr p with
    | some (.Call (.Name y _) [.Call (.Name y2 _) [a'] [] _] [] _) => decide (y = ("list" : Str)) && glB s y && decide (y2 = ("range" : Str)) && glB s y2 && plB a' && chk a s (.e a')
    | _ => false
  | .trng a => fun s p => match gExpr p with
    | some (.Call (.Name y _) [.Call (.Name y2 _) [a'] [] _] [] _) => decide (y = ("tuple" : Str)) && glB s y && decide (y2 = ("range" : Str)) && glB s y2 && plB a' && chk a s (.e a')
    | _ => false
  | .trng3 _ _ _ => fun _ _ => false
  | .rng1 a => fun s p => match p with
    | .i (.Call (.Name y _) [a'] [] _) => decide (y = ("range" : Str)) && glB s y && plB a' && chk a s (.e a')
    | _ => false
  | .rng2 a b => fun s p => match p with
    | .i (.Call (.Name y _) [a', b'] [] _) => decide (y = ("range" : Str)) && glB s y && plB a' && plB b' && chk a s (.e a') && chk b s (.e b')
    | _ => false
  | .rng3 a b c => fun s p => match p with
    | .i (.Call (.Name y _) [a', b', c'] [] _) => decide (y = ("range" : Str)) && glB s y && plB a' && plB b' && plB c' && chk a s (.e a') && chk b s (.e b') && chk c s (.e c')
    | _ => false
  | .enu a => fun s p => match p with
    | .i (.Call (.Name y _) [a'] [] _) => decide (y = ("enumerate" : Str)) && glB s y && plB a' && !isIt a && chk a s (.e a')
    | _ => false
  | .zip a b => fun s p => match p with
    | .i (.Call (.Name y _) [a', b'] [] _) => decide (y = ("zip" : Str)) && glB s y && plB a' && plB b' && !isIt a && !isIt b && chk a s (.e a') && chk b s (.e b')
    | _ => false
  | .lc own pt it c el => fun s p => match gExpr p with
    | some (.ListComp elt [⟨tg, iter, ifs, 0⟩] scope _) => decide own.Nodup && ptOwn own pt && plB iter && blkC N s.sc scope (ownOf N own) && tgB it tg && chk it s (.i iter) && ptB N (inner s scope) pt tg && ifsB (isNil c) (isIte c) (fun t => chk c (inner s scope) (.e t)) ifs && chk el (inner s scope) (.e elt)
    | _ => false
  | .lc2 own own1 pt it c pt1 it1 c1 el => fun s p => match gExpr p with
    | some (.ListComp elt [⟨tg, iter, ifs, 0⟩, ⟨tg1, iter1, ifs1, 0⟩] scope _) => decide own.Nodup && decide own1.Nodup && own1.all (own.contains ·) && ptOwn own pt && ptOwn own1 pt1 && plB iter && plB iter1 && blkC N s.sc scope (ownOf N own) && tgB it tg && chk it s (.i iter) && ptB N (inner s scope) pt tg && ifsB (isNil c) (isIte c) (fun t => chk c (inner s scope) (.e t)) ifs && tgB it1 tg1 && chk it1 (inner s scope) (.i iter1) && ptB N (inner s scope) pt1 tg1 && ifsB (isNil c1) (isIte c1) (fun t => chk c1 (inner s scope) (.e t)) ifs1 && chk el (inner s scope) (.e elt)
    | _ => false
  | .dc t own pt it c kx vx => fun s p => match p with
    | .e (.DictComp kx' vx' [⟨tg, iter, ifs, 0⟩] scope _) => !t && decide own.Nodup && ptOwn own pt && plB iter && blkC N s.sc scope (ownOf N own) && tgB it tg && chk it s (.i iter) && ptB N (inner s scope) pt tg && ifsB (isNil c) (isIte c) (fun t => chk c (inner s scope) (.e t)) ifs && chk kx (inner s scope) (.e kx') && chk vx (inner s scope) (.e vx')
    | _ => false
  | .call f es => fun s p => match gExpr p with
    | some (.Call (.Name y _) (x :: xs) [] _) => glB s y && decide (L.fn f = some y) && L.T.has f && plB x && xs.all plB && chk es s (.l (x :: xs))
    | _ => false
  | .callIo f i es => fun s p => match gExpr p with
    | some (.Call (.Name y _) (.Name n _ :: xs) [] _) => glB s y && decide (L.fn f = some y) && L.T.has f && viB N s i n && xs.all plB && chk es s (.l xs)
    | _ => false
  | .callV i es => fun s p => match p with
    | .e (.Call (.Name y _) (x :: xs) [] _) => viB N s i y && plB x && xs.all plB && chk es s (.l (x :: xs))
    | _ => false
  | .meth _ _ _ => fun _ _ => false
  | .make _ _ _ => fun _ _ => false
  | .at _ _ => fun _ _ => false
  | .pop0 _ => fun _ _ => false
  | .pop1 _ _ => fun _ _ => false
  | .index _ _ => fun _ _ => false
  | .get _ _ _ => fun _ _ => false
  | .nil => fun s p => match p with
    | .l [] => true
    | _ => false
  | .cons a es => fun s p => match p with
    | .l (x :: xs) => plB x && chk a s (.e x) && chk es s (.l xs)
    | _ => false
  | .consR a es => fun s p => match p with
    | .l (x :: xs) => plB x && chk a s (.e x) && chk es s (.l xs)
    | _ => false
end Iv
end

section
set_option Elab.async false
set_option linter.all false
set_option maxRecDepth 100000
namespace Iv
open PySem L2
set_option autoImplicit false
variable {B : Bd} {z : Option Addr} {G H G' H' G0 H0 G1 H1 : Hp} {e e' e0 e1 : En} {σ σ' : St} {w x y : W} {v v1 v2 : V} {a : Addr} {r r1 : R1} {Q Q' : VK} {W' : WX}

/-! ### from a later state -/
theorem New.up {v : V} (F : Fr G0 H0 e0 σ G H e σ') (n : New H r v) : New H0 r v := fun w a h1 h2 => F.free (n w a h1 h2)
theorem PostE.up {r : RE R1} (F : Fr G0 H0 e0 σ G H e σ) (h : PostE B z W' σ G0 H0 e0 r Q) : PostE B z W' σ G H e r Q := by
  cases r with
  | err => exact h
  | ok r e' => exact fun G' H' v F' S R n => h G' H' v (F.trans F') S R (n.up F)
  | exn x e' => exact fun G' H' cls d F' S R => h G' H' cls d (F.trans F') S R
theorem PostT.up {r : RE Bool} {Q : Bool → Hp → Prop} (F : Fr G0 H0 e0 σ G H e σ) (h : PostT B z W' σ G0 H0 e0 r Q) : PostT B z W' σ G H e r Q := by
  cases r with
  | err => exact h
  | ok r e' => exact fun G' H' F' S => h G' H' (F.trans F') S
  | exn x e' => exact fun G' H' cls d F' S R => h G' H' cls d (F.trans F') S R
theorem PostA.up {r : RE R1} {Q : List V → Hp → Prop} (F : Fr G0 H0 e0 σ G H e σ) (h : PostA B z W' σ G0 H0 e0 r Q) : PostA B z W' σ G H e r Q := by
  cases r with
  | err => exact h
  | ok r e' =>
    obtain ⟨rs, hr, h⟩ := h
    exact ⟨rs, hr, fun G' H' vs F' S R n => h G' H' vs (F.trans F') S R fun w a q => F.free (n w a q)⟩
  | exn x e' => exact fun G' H' cls d F' S R => h G' H' cls d (F.trans F') S R
/-- items walked: they read the same as long as what is fixed stays -/
structure WalkOk (B : Bd) (G : Hp) (xs : List W) (J : It) : Prop where
  go : ∀ i G' H, Sub G G' → Sub G' H → i < xs.length → J.go i H
  stop : ∀ i G' H, Sub G G' → Sub G' H → xs.length ≤ i → J.stop i H
  yld : ∀ i G' H u H' z e σ w, Sub G G' → StOk B z G' H e σ → J.yld i H u H' → xs[i]? = some w → ∃ G2, Fr G' H e σ G2 H' e σ ∧ StOk B z G2 H' e σ ∧ Rep B G2 w u
def PostI (B : Bd) (z : Option Addr) (W' : WX) (σ : St) (G H : Hp) (e : En) (r : RE (List W)) (R : It → Hp → Prop) : Prop := match r with
  | .err => False
  | .ok xs e' => ∀ G' H' J, Fr G H e σ G' H' e' σ → StOk B z G' H' e' σ → WalkOk B G' xs J → R J H'
  | .exn x e' => ∀ G' H' cls d, Fr G H e σ G' H' e' σ → StOk B z G' H' e' σ → ExR B G' H' x cls d → W' cls d σ H'
def tI (B : Bd) (z : Option Addr) (W' : WX) (f : En → RE (List W)) : TI := fun σ H R => ∃ G e, StOk B z G H e σ ∧ PostI B z W' σ G H e (f e) R
theorem PostI.up {r : RE (List W)} {R : It → Hp → Prop} (F : Fr G0 H0 e0 σ G H e σ) (h : PostI B z W' σ G0 H0 e0 r R) : PostI B z W' σ G H e r R := by
  cases r with
  | err => exact h
  | ok r e' => exact fun G' H' J F' S => h G' H' J (F.trans F') S
  | exn x e' => exact fun G' H' cls d F' S R => h G' H' cls d (F.trans F') S R

/-! ### what each expression promises -/
variable {L : Lx} {T : Tb} {KK : Nat → List Sl → RF} {k : Nat} {N : List Str} {s : Sx} {X : Cx}
structure Ok1 (L : Lx) (B : Bd) (KK : Nat → List Sl → RF) (k : Nat) (N : List Str) (e : E) : Prop where
  pe : ∀ (s : Sx) (X : Cx) (z : Option Addr) (W' : WX), XOk L B KK k N s X → Takes X W' → ∀ ex, chk L N e s (.e ex) = true → PE X ex (tE B z W' (ev L.T KK e))
  pa : ∀ (s : Sx) (X : Cx) (z : Option Addr) (W' : WX), XOk L B KK k N s X → Takes X W' → ∀ xs, chk L N e s (.l xs) = true → PA X xs (tA B z W' (ev L.T KK e)) ∧ xs.all plB = true
  pt : ∀ (s : Sx) (X : Cx) (z : Option Addr) (W' : WX), XOk L B KK k N s X → Takes X W' → isIte e = false → ∀ ex, chk L N e s (.e ex) = true → PT X ex (tT B z W' fun en => tst (ev L.T KK e en))
  pw : ∀ (s : Sx) (X : Cx) (z : Option Addr) (W' : WX), XOk L B KK k N s X → Takes X W' → ∀ op xs pos, chk L N e s (.e (.BoolOp op xs pos)) = true → PW X (.BoolOp op xs pos) (tT B z W' fun en => tst (ev L.T KK e en))
  pi : ∀ (s : Sx) (X : Cx) (z : Option Addr) (W' : WX), XOk L B KK k N s X → Takes X W' → ∀ tg ex, tgB e tg = true → chk L N e s (.i ex) = true → PI X tg ex (tI B z W' fun en => asItems (ev L.T KK e en))

/-! ### tests of values -/
theorem tru_ok {b : Bool} {K : PySem.W.Frag} (S : Sub G H) (h : RdW B G H x v) (t : truth x = some b) : TruV K v H b := by
  unfold truth at t
  split at t
  · cases t; rw [h.non]; rfl
  · cases t; rw [h.bl]; rfl
  · cases t; rw [h.int]; rfl
  · split at t
    · rename_i c
      cases t; rw [h.str]
      exact ⟨by rw [← lim_eq]; exact c, rfl⟩
    · cases t
  · cases t
    obtain ⟨p, vs, rfl, hp, rs⟩ := h.tup
    refine .inr (.inl ⟨vs, .of (S _ _ hp), ?_⟩)
    cases rs <;> rfl
  · cases t
    obtain ⟨p, vs, rfl, hp, rs⟩ := h.lst S
    refine .inl ⟨vs, .of hp, ?_⟩
    cases rs <;> rfl
  · cases t
    obtain ⟨p, kvs, rfl, hp, rfl, rs⟩ := h.dK S
    refine .inr (.inr ⟨kvs, hp, ?_⟩)
    cases kvs <;> rfl
  · cases t
/-- a test by its value -/
def tvB : Expr → Bool
  | .UnaryOp .Not _ _ => false
  | .BoolOp .. => false
  | .IfExp .. => false
  | .Compare .. => false
  | _ => true
theorem isTrue_tv {x : Expr} (h : tvB x = true) (env : Env) : ∀ whole, isTrue x env whole = (do let v ← whole; standAt x.pos; holding [v] (truthy v)) := by
  cases x with
  | UnaryOp op e p => cases op <;> first | (intro _; rfl) | (cases h)
  | BoolOp => cases h
  | IfExp => cases h
  | Compare => cases h
  | _ => intro _; rfl
theorem tst_post {f : RE R1} {Qb : Bool → Hp → Prop} {K : PySem.W.Frag} (h : PostT B z W' σ G H e (tst f) Qb) : PostE B z W' σ G H e f fun v H' => ∃ b, TruV K v H' b ∧ Qb b H' := by
  cases f with
  | err => exact h
  | exn x e1 => exact h
  | ok r e1 =>
    intro G1 H1 v F S R n
    unfold tst at h
    dsimp only at h
    split at h
    · rename_i x hx
      have rd := peek_ok S R hx
      unfold ofO at h
      split at h
      · rename_i b hb
        exact ⟨b, tru_ok S.sub rd hb, h G1 H1 F S⟩
      · exact h.elim
    · exact h.elim
theorem pt_ofE {ex : Expr} {f : En → RE R1} (hp : PE X ex (tE B z W' f)) (hi : tvB ex = true) : PT X ex (tT B z W' fun en => tst (f en)) :=
  pt_imp (pt_truth hp (isTrue_tv hi X.env)) fun σ H Q ⟨G, e, S, h⟩ => ⟨G, e, S, tst_post h⟩
/-- a test whose value is a truth -/
theorem pt_ofB {ex : Expr} {t : TE} {f : En → RE R1} (hp : PT X ex (tTest t)) (hi : ∀ σ H Q, tE B z W' f σ H Q → t σ H Q)
    (hb : ∀ e r e', f e = .ok r e' → ∃ b, r = .w (.bl b)) : PT X ex (tT B z W' fun en => tst (f en)) :=
  pt_imp hp fun σ H Q ⟨G, e, S, h⟩ => hi σ H _ ⟨G, e, S, by
    dsimp only at h
    cases hf : f e with
    | err => rw [hf] at h; exact h
    | exn x e1 => rw [hf] at h; exact h
    | ok r e1 =>
      rw [hf] at h
      obtain ⟨b, rfl⟩ := hb _ _ _ hf
      intro G1 H1 v F S1 R n
      have e2 := (show RdW B G1 H1 (.bl b) v from .inl R).bl
      exact ⟨b, e2, h G1 H1 F S1⟩⟩

/-! ### leaves -/
theorem vi_of {i : Nat} {y : Str} (x : XOk L B KK k N s X) (h : viB N s i y = true) {pos : Pos} : PE X (.Name y pos) (tVar i) ∧ X.N[i]? = some y ∧ Vis X.env.scope y ∧ (y == ("__debug__" : Str)) = false ∧ (y == ("__classdict__" : Str)) = false := by
  unfold viB at h
  simp only [Bool.and_eq_true, Bool.or_eq_true, Bool.not_eq_true', decide_eq_true_eq] at h
  obtain ⟨⟨⟨h1, h2⟩, h3⟩, h4⟩ := h
  have hN : X.N[i]? = some y := by rw [x.hN]; exact h1
  have hv : Vis X.env.scope y := by
    rw [x.hsc]
    rcases h4 with (h4 | h4) | h4
    · exact .inl h4
    · exact .inr (.inl h4)
    · exact .inr (.inr h4)
  exact ⟨pe_var hN hv h2 h3, hN, hv, h2, h3⟩
theorem gl_of {y : Str} (x : XOk L B KK k N s X) (h : glB s y = true) : Gl X y := by
  have h := of_decide_eq_true h
  show X.env.scope.names.lookup y = _
  rw [x.hsc]; exact h
theorem pe_v {i : Nat} {y : Str} {pos : Pos} (x : XOk L B KK k N s X) (h : viB N s i y = true) : PE X (.Name y pos) (tE B z W' (ev T KK (.v i))) := by
  refine pe_imp (vi_of x h).1 fun σ H Q ⟨G, e, S, q⟩ => ?_
  have q : PostE B z W' σ G H e (evV i e) Q := q
  unfold evV at q
  split at q
  · rename_i w hw
    obtain ⟨u, h1, v, rfl, h2⟩ := S.sl i _ hw
    exact ⟨v, h1, q G H v .refl S h2 fun _ _ q => by cases q⟩
  · rename_i w hw
    obtain ⟨u, h1, a, rfl, h2⟩ := S.sl i _ hw
    exact ⟨_, h1, q G H _ .refl S h1 fun _ _ q => by cases q⟩
  · rename_i w hw
    obtain ⟨u, h1, a, rfl, h2⟩ := S.sl i _ hw
    exact ⟨_, h1, q G H _ .refl S h1 fun _ _ q => by cases q⟩
  · exact q.elim
theorem post_c (S : StOk B z G H e σ) (h : PostE B z W' σ G H e (.ok (.w w) e) Q) (r : Rep B G w v) : Q v H := h G H v .refl S r fun _ _ q => by cases q
theorem pe_k {w : W} {c : Const} {j : Nat} {pos : Pos} (h : kB w c = true) : PE X (.Constant c j pos) (tE B z W' (ev T KK (.k w))) := by
  unfold kB at h
  split at h
  · have e := of_decide_eq_true h; subst e
    exact pe_imp pe_int fun σ H Q ⟨G, e, S, q⟩ => post_c S q (.int _)
  · have e := of_decide_eq_true h; subst e
    exact pe_imp pe_str fun σ H Q ⟨G, e, S, q⟩ => post_c S q (.str _)
  · have e := of_decide_eq_true h; subst e
    exact pe_imp pe_bl fun σ H Q ⟨G, e, S, q⟩ => post_c S q (.bl _)
  · exact pe_imp pe_non fun σ H Q ⟨G, e, S, q⟩ => post_c S q .non
  · cases h
/-! ### values that are walked -/
def iSeq (K : PySem.W.Frag) (tl : TE) : TI := fun σ H R => tl σ H fun x H1 => ∃ a, x = .ref a ∧ (((∃ xs, SqL K H1 a xs) ∧ R (Itl K a) H1) ∨ ((∃ xs, SqT K H1 a xs) ∧ R (Itt K a) H1))
theorem pi_seq {tg l : Expr} {tl : TE} (hl : PE X l tl) : PI X tg l (iSeq X.K tl) := by
  refine ⟨fun pins s σ H R I h => ?_⟩
  refine thn (hl.run pins s σ H _ I h) fun v s1 ⟨x, H1, I1, r1, q1⟩ => ?_
  obtain ⟨a, e, q1⟩ := q1
  subst e
  rcases q1 with ⟨⟨xs, hq⟩, q⟩ | ⟨⟨xs, hq⟩, q⟩
  · cases r1
    obtain ⟨its, rv, p, hz⟩ := I1.list hq
    refine PySem.wpAny_pyIter_list p.isList ?_
    refine ⟨s1.heap.objs.size, [s1.heap.objs.size], _, _, H1, rfl, I1.kept (t' := s1.toks) fun b o e => Heap.get?_push_of_some _ e, turn_list a _, ⟨_, Heap.get?_push_size _ rfl, rfl, rfl⟩, fun b hb => ?_, q⟩
    have e : b = s1.heap.objs.size := by simpa using hb
    subst e
    exact I1.fpOk (Nat.le_refl _) (I1.hok.fresh (Nat.le_refl _))
  · cases r1
    obtain ⟨its, rv, p, hz⟩ := I1.tuple hq
    refine PySem.wpAny_pyIter_tuple (show s1.heap.IsTuple a its.toArray from p) ?_
    refine ⟨s1.heap.objs.size, [s1.heap.objs.size], _, _, H1, rfl, I1.kept (t' := s1.toks) fun b o e => Heap.get?_push_of_some _ e, turn_tuple a _, ⟨_, Heap.get?_push_size _ rfl, rfl, rfl⟩, fun b hb => ?_, q⟩
    have e : b = s1.heap.objs.size := by simpa using hb
    subst e
    exact I1.fpOk (Nat.le_refl _) (I1.hok.fresh (Nat.le_refl _))
theorem walk_list {K : PySem.W.Frag} {ws : List W} {vs : List V} (ha : G a = some (.lst vs)) (rs : Reps B G ws vs) : WalkOk B G ws (Itl K a) where
  go := fun i G' H s1 s2 hi => ⟨vs, vs[i]'(by rw [← rs.length]; exact hi), .of (s2 _ _ (s1 _ _ ha)), by simp⟩
  stop := fun i G' H s1 s2 hi => ⟨vs, .of (s2 _ _ (s1 _ _ ha)), by rw [← rs.length]; exact hi⟩
  yld := fun i G' H u H' z e σ w s1 S y hw => by
    obtain ⟨rfl, y⟩ := y
    obtain ⟨v, h1, h2⟩ := rs.get hw
    have := y vs (.of (S.sub _ _ (s1 _ _ ha)))
    rw [h1] at this; cases this
    exact ⟨G', .refl, S, Rep.mono s1 _ _ h2⟩
theorem walk_tup {K : PySem.W.Frag} {ws : List W} {vs : List V} (ha : G a = some (.tup vs)) (rs : Reps B G ws vs) : WalkOk B G ws (Itt K a) where
  go := fun i G' H s1 s2 hi => ⟨vs, vs[i]'(by rw [← rs.length]; exact hi), .of (s2 _ _ (s1 _ _ ha)), by simp⟩
  stop := fun i G' H s1 s2 hi => ⟨vs, .of (s2 _ _ (s1 _ _ ha)), by rw [← rs.length]; exact hi⟩
  yld := fun i G' H u H' z e σ w s1 S y hw => by
    obtain ⟨rfl, y⟩ := y
    obtain ⟨v, h1, h2⟩ := rs.get hw
    have := y vs (.of (S.sub _ _ (s1 _ _ ha)))
    rw [h1] at this; cases this
    exact ⟨G', .refl, S, Rep.mono s1 _ _ h2⟩
theorem Rep.lst {xs : List W} (h : Rep B G (.lst xs) v) : ∃ a vs, v = .ref a ∧ G a = some (.lst vs) ∧ Reps B G xs vs := by
  cases h with
  | obj q r => cases r with | lst r => exact ⟨_, _, rfl, q, r⟩
theorem Rep.tup {xs : List W} (h : Rep B G (.tup xs) v) : ∃ a vs, v = .ref a ∧ G a = some (.tup vs) ∧ Reps B G xs vs := by
  cases h with
  | obj q r => cases r with | tup r => exact ⟨_, _, rfl, q, r⟩
theorem Rep.noD {ks : List Ky} {ws : List W} : canFz (.dK ks ws) = false := rfl
end Iv
end

section
set_option Elab.async false
set_option linter.all false
set_option maxRecDepth 100000
namespace Iv
open PySem L2
set_option autoImplicit false
variable {B : Bd} {z : Option Addr} {G H G' H' G0 H0 G1 H1 : Hp} {e e' e0 e1 : En} {σ σ' : St} {w x y : W} {v v1 v2 : V} {a : Addr} {r r1 : R1} {Q Q' : VK} {W' : WX}
variable {L : Lx} {T : Tb} {KK : Nat → List Sl → RF} {k : Nat} {N : List Str} {s : Sx} {X : Cx} {fa fb fc : En → RE R1} {ea eb ec : Expr} {pos : Pos}

theorem s_bin {o : BOp} (ha : PE X ea (tE B z W' fa)) (hb : PE X eb (tE B z W' fb)) : PE X (.BinOp ea (bop o) eb pos) (tE B z W' fun e => un2 (binW o) (fa e) fb) :=
  snd_un2 ha hb (fun ha hb => pe_op rOp_ok ha hb) fun G H e σ v1 v2 x y r1 Q S hx hy h y' => bin_ok S hx hy h y'
theorem s_neg (ha : PE X ea (tE B z W' fa)) : PE X (.UnaryOp .USub ea pos) (tE B z W' fun e => un1 negF (fa e)) :=
  snd_un1 ha (fun ha => pe_un un_neg ha) fun G H e σ v x r1 Q S hx h y' => by
    unfold negF at h
    split at h
    · cases h; rw [hx.int]; exact ⟨_, rfl, y'.val S (.int _)⟩
    · cases h
theorem s_cmp {o : COp} (hr : Room k X.A) (ha : PE X ea (tE B z W' fa)) (hb : PE X eb (tE B z W' fb)) (hm : behindInMarks (cop o) eb = false) : PE X (.Compare ea [cop o] [eb] pos) (tE B z W' fun e => un2 (fun x y => bl (cmpW o x y)) (fa e) fb) :=
  snd_un2 ha hb (fun ha hb => pe_cmpR rOp_ok ha hb hm) fun G H e σ v1 v2 x y r1 Q S hx hy h y' => by
    cases hc : cmpW o x y with
    | none => rw [hc] at h; cases h
    | some c => rw [hc] at h; cases h; exact cmp_ok hr S hx hy hc (y'.val S (.bl _))
theorem bl_some {o : Option Bool} {r : R1} (h : bl o = some r) : ∃ c, o = some c ∧ r = .w (.bl c) := by
  cases o with
  | none => cases h
  | some c => cases h; exact ⟨c, rfl, rfl⟩
theorem un2_bl {f : W → W → Option Bool} {r : RE R1} {b : En → RE R1} {q : R1} {e' : En} (h : un2 (fun x y => bl (f x y)) r b = .ok q e') : ∃ c, q = .w (.bl c) := by
  unfold un2 at h
  split at h
  · split at h
    · split at h
      · unfold ofO at h
        split at h
        · rename_i q2
          obtain ⟨c, _, rfl⟩ := bl_some q2
          cases h; exact ⟨c, rfl⟩
        · cases h
      · cases h
    · cases h
    · cases h
  · cases h
  · cases h
theorem st_cmp {o : COp} (hr : Room k X.A) (ha : PE X ea (tE B z W' fa)) (hb : PE X eb (tE B z W' fb)) (hm : behindInMarks (cop o) eb = false) : PT X (.Compare ea [cop o] [eb] pos) (tT B z W' fun e => tst (un2 (fun x y => bl (cmpW o x y)) (fa e) fb)) := by
  refine pt_ofB (pt_cmpR rOp_ok ha hb hm) (fun σ H Q ⟨G, e, S, h⟩ => ⟨G, e, S, ?_⟩) fun e r e' h => un2_bl h
  refine PostE.bind (P := fun r => PostE B z W' σ G H e r Q) .refl h (fun q => q) (fun _ _ q => q) fun r e1 G1 H1 v F F0 S1 R n q => ⟨G1, e1, S1, ?_⟩
  refine PostE.bind (P := fun r => PostE B z W' σ G H e r Q) F0 q (fun q => q) (fun _ _ q => q) fun r2 e2 G2 H2 v2 F2 F02 S2 R2 n2 q => ?_
  split at q
  · rename_i x y hx hy
    have rd := peek_ok S2 (R.fr F2) hx
    have rd2 := peek_ok S2 R2 hy
    unfold ofO at q
    split at q
    · rename_i r1 hf
      obtain ⟨c, hc, rfl⟩ := bl_some hf
      exact cmp_ok hr S2 rd rd2 hc ((Yd.of F02 q).val S2 (.bl _))
    · exact q.elim
  · exact q.elim
theorem s_notE {f : En → RE Bool} {t : TE} (h : PE X ea t) (hi : ∀ σ H (Q : Bool → Hp → Prop), tT B z W' f σ H Q → t σ H fun v H' => ∃ k, TruV X.K v H' k ∧ Q k H') : PE X (.UnaryOp .Not ea pos) (tE B z W' fun e => notE (f e)) := by
  refine pe_imp (pe_notT h) fun σ H Q ⟨G, e, S, q⟩ => hi σ H _ ⟨G, e, S, ?_⟩
  dsimp only at q
  cases hf : f e with
  | err => rw [hf] at q; exact q
  | exn x e1 => rw [hf] at q; exact q
  | ok b e1 => rw [hf] at q; exact fun G' H' F S' => q G' H' _ F S' (.bl _) fun _ _ q => by cases q
theorem s_not (ha : PE X ea (tE B z W' fa)) : PE X (.UnaryOp .Not ea pos) (tE B z W' fun e => notE (tst (fa e))) :=
  s_notE ha fun σ H Q ⟨G, e, S, h⟩ => ⟨G, e, S, tst_post h⟩
theorem tst_notE {f : RE Bool} : tst (notE f) = match f with | .ok b e => .ok (!b) e | .exn x e => .exn x e | .err => .err := by
  cases f <;> rfl
theorem st_not {f : En → RE Bool} (ha : PT X ea (tT B z W' f)) : PT X (.UnaryOp .Not ea pos) (tT B z W' fun e => tst (notE (f e))) := by
  refine pt_imp (pt_not ha) fun σ H Q ⟨G, e, S, q⟩ => ⟨G, e, S, ?_⟩
  dsimp only at q
  rw [tst_notE] at q
  cases hf : f e with
  | err => rw [hf] at q; exact q
  | exn x e1 => rw [hf] at q; exact q
  | ok b e1 => rw [hf] at q; exact q
/-! ### and, or -/
theorem andE_post {K : PySem.W.Frag} {f : RE R1} {g : En → RE R1} (h : PostE B z W' σ G H e (andE f g) Q) : PostE B z W' σ G H e f fun v H' => ∃ b, TruV K v H' b ∧ if b = true then tE B z W' g σ H' Q else Q v H' := by
  cases f with
  | err => exact h
  | exn x e1 => exact h
  | ok r e1 =>
    intro G1 H1 v F S R n
    unfold andE at h
    dsimp only at h
    split at h
    · rename_i x hx
      have rd := peek_ok S R hx
      split at h
      · rename_i ht
        refine ⟨true, tru_ok S.sub rd ht, ?_⟩
        rw [if_pos rfl]
        exact ⟨G1, e1, S, h.up F⟩
      · rename_i ht
        refine ⟨false, tru_ok S.sub rd ht, ?_⟩
        rw [if_neg (by decide)]
        exact h G1 H1 v F S R n
      · exact h.elim
    · exact h.elim
theorem orE_post {K : PySem.W.Frag} {f : RE R1} {g : En → RE R1} (h : PostE B z W' σ G H e (orE f g) Q) : PostE B z W' σ G H e f fun v H' => ∃ b, TruV K v H' b ∧ if b = true then Q v H' else tE B z W' g σ H' Q := by
  cases f with
  | err => exact h
  | exn x e1 => exact h
  | ok r e1 =>
    intro G1 H1 v F S R n
    unfold orE at h
    dsimp only at h
    split at h
    · rename_i x hx
      have rd := peek_ok S R hx
      split at h
      · rename_i ht
        refine ⟨true, tru_ok S.sub rd ht, ?_⟩
        rw [if_pos rfl]
        exact h G1 H1 v F S R n
      · rename_i ht
        refine ⟨false, tru_ok S.sub rd ht, ?_⟩
        rw [if_neg (by decide)]
        exact ⟨G1, e1, S, h.up F⟩
      · exact h.elim
    · exact h.elim
theorem s_and {rest : List Expr} (ha : PE X ea (tE B z W' fa)) (hb : PE X (.BoolOp .And (eb :: rest) pos) (tE B z W' fb)) : PE X (.BoolOp .And (ea :: eb :: rest) pos) (tE B z W' fun e => andE (fa e) fb) :=
  pe_imp (pe_andT ha hb) fun σ H Q ⟨G, e, S, h⟩ => ⟨G, e, S, andE_post h⟩
theorem s_or {rest : List Expr} (ha : PE X ea (tE B z W' fa)) (hb : PE X (.BoolOp .Or (eb :: rest) pos) (tE B z W' fb)) : PE X (.BoolOp .Or (ea :: eb :: rest) pos) (tE B z W' fun e => orE (fa e) fb) :=
  pe_imp (pe_orT ha hb) fun σ H Q ⟨G, e, S, h⟩ => ⟨G, e, S, orE_post h⟩
theorem tst_and {f : RE R1} {g : En → RE R1} {Qb : Bool → Hp → Prop} (h : PostT B z W' σ G H e (tst (andE f g)) Qb) : PostT B z W' σ G H e (tst f) fun b H' => if b = true then tT B z W' (fun e => tst (g e)) σ H' Qb else Qb false H' := by
  cases f with
  | err => exact h
  | exn x e1 => exact h
  | ok r e1 =>
    unfold andE at h
    unfold tst at h ⊢
    dsimp only at h ⊢
    cases hx : peek r e1 with
    | none => rw [hx] at h; exact h
    | some x =>
      rw [hx] at h
      dsimp only at h ⊢
      cases ht : truth x with
      | none => rw [ht] at h; exact h
      | some b =>
        rw [ht] at h
        cases b with
        | true =>
          intro G1 H1 F S
          rw [if_pos rfl]
          exact ⟨G1, e1, S, PostT.up F h⟩
        | false =>
          intro G1 H1 F S
          rw [if_neg (by decide)]
          dsimp only at h
          rw [hx] at h
          dsimp only at h
          rw [ht] at h
          exact h G1 H1 F S
theorem tst_or {f : RE R1} {g : En → RE R1} {Qb : Bool → Hp → Prop} (h : PostT B z W' σ G H e (tst (orE f g)) Qb) : PostT B z W' σ G H e (tst f) fun b H' => if b = true then Qb true H' else tT B z W' (fun e => tst (g e)) σ H' Qb := by
  cases f with
  | err => exact h
  | exn x e1 => exact h
  | ok r e1 =>
    unfold orE at h
    unfold tst at h ⊢
    dsimp only at h ⊢
    cases hx : peek r e1 with
    | none => rw [hx] at h; exact h
    | some x =>
      rw [hx] at h
      dsimp only at h ⊢
      cases ht : truth x with
      | none => rw [ht] at h; exact h
      | some b =>
        rw [ht] at h
        cases b with
        | false =>
          intro G1 H1 F S
          rw [if_neg (by decide)]
          exact ⟨G1, e1, S, PostT.up F h⟩
        | true =>
          intro G1 H1 F S
          rw [if_pos rfl]
          dsimp only at h
          rw [hx] at h
          dsimp only at h
          rw [ht] at h
          exact h G1 H1 F S
theorem sw_and {rest : List Expr} (ha : PT X ea (tT B z W' fun e => tst (fa e))) (hb : PW X (.BoolOp .And (eb :: rest) pos) (tT B z W' fun e => tst (fb e))) : PW X (.BoolOp .And (ea :: eb :: rest) pos) (tT B z W' fun e => tst (andE (fa e) fb)) :=
  pw_imp (pw_and ha hb) fun σ H Q ⟨G, e, S, h⟩ => ⟨G, e, S, tst_and h⟩
theorem sw_or {rest : List Expr} (ha : PT X ea (tT B z W' fun e => tst (fa e))) (hb : PW X (.BoolOp .Or (eb :: rest) pos) (tT B z W' fun e => tst (fb e))) : PW X (.BoolOp .Or (ea :: eb :: rest) pos) (tT B z W' fun e => tst (orE (fa e) fb)) :=
  pw_imp (pw_or ha hb) fun σ H Q ⟨G, e, S, h⟩ => ⟨G, e, S, tst_or h⟩
/-! ### chains -/
theorem cmpL_post {p : COp} {r2 : R1} {c : RE R1} (hr : Room k X.A) (S : StOk B z G1 H1 e1 σ) (R : RepR B z G1 H1 e1 σ r2 v2) (h : PostE B z W' σ G1 H1 e1 (cmpL (cmpW p) r2 c) Q) : PostE B z W' σ G1 H1 e1 c fun w' H4 => rOp X (compareOp (cop p)) v2 w' H4 Q := by
  cases c with
  | err => exact h
  | exn x e1 => exact h
  | ok r3 e3 =>
    intro G3 H3 v3 F S3 R3 n
    unfold cmpL at h
    dsimp only at h
    split at h
    · rename_i y z hy hz
      have ry := peek_ok S3 (R.fr F) hy
      have rz := peek_ok S3 R3 hz
      unfold ofO at h
      split at h
      · rename_i r1 hf
        unfold bl at hf
        cases hc : cmpW p y z with
        | none => rw [hc] at hf; cases hf
        | some c => rw [hc] at hf; cases hf; exact cmp_ok hr S3 ry rz hc ((Yd.of F h).val S3 (.bl _))
      · exact h.elim
    · exact h.elim
theorem chain_post {o p : COp} {ra : RE R1} (hr : Room k X.A) (S : StOk B z G H e σ) (h : PostE B z W' σ G H e (cmp2E (cmpW o) (cmpW p) ra fb fc) Q) : PostE B z W' σ G H e ra fun x H1 => tE B z W' fb σ H1 fun y H2 => rOp X (compareOp (cop o)) x y H2 fun z' H3 => ∃ k, z' = .bl k ∧ (if k = true then tE B z W' fc σ H3 (fun w' H4 => rOp X (compareOp (cop p)) y w' H4 Q) else Q (.bl false) H3) := by
  cases ra with
  | err => exact h
  | exn x e1 => exact h
  | ok r e1 =>
    intro G1 H1 v1 F1 S1 R1' n1
    refine ⟨G1, e1, S1, ?_⟩
    have h : PostE B z W' σ G1 H1 e1 (cmpT (cmpW o) r (fb e1) fun r2 e2 => cmpL (cmpW p) r2 (fc e2)) Q := PostE.up F1 h
    cases hb : fb e1 with
    | err => rw [hb] at h; exact h
    | exn x e1 => rw [hb] at h; exact h
    | ok r2 e2 =>
      rw [hb] at h
      intro G2 H2 v2 F2 S2 R2' n2
      unfold cmpT at h
      dsimp only at h
      split at h
      · rename_i x y hx hy
        have rx := peek_ok S2 (R1'.fr F2) hx
        have ry := peek_ok S2 R2' hy
        split at h
        · rename_i hc
          refine cmp_ok hr S2 rx ry hc ⟨true, rfl, ?_⟩
          rw [if_pos rfl]
          exact ⟨G2, e2, S2, cmpL_post hr S2 R2' (PostE.up F2 h)⟩
        · rename_i hc
          refine cmp_ok hr S2 rx ry hc ⟨false, rfl, ?_⟩
          rw [if_neg (by decide)]
          exact h G2 H2 _ F2 S2 (.bl _) fun _ _ q => by cases q
        · exact h.elim
      · exact h.elim
theorem lastMarks2 {o o' : CmpOp} {b c : Expr} (h : plB c = true) : lastMarks [o, o'] [b, c] = false := beh_pl (o := o') h
theorem s_cmp2 {o p : COp} (hr : Room k X.A) (ha : PE X ea (tE B z W' fa)) (hb : PE X eb (tE B z W' fb)) (hc : PE X ec (tE B z W' fc)) (hm : plB ec = true) :
    PE X (.Compare ea [cop o, cop p] [eb, ec] pos) (tE B z W' fun e => cmp2E (cmpW o) (cmpW p) (fa e) fb fc) :=
  pe_imp (pe_chain rOp_ok rOp_ok ha hb hc (lastMarks2 hm)) fun σ H Q ⟨G, e, S, h⟩ => ⟨G, e, S, chain_post hr S h⟩
theorem cmpL_bl {p : COp} {r : R1} {c : RE R1} {q : R1} {e' : En} (h : cmpL (cmpW p) r c = .ok q e') : ∃ c, q = .w (.bl c) := by
  unfold cmpL at h
  split at h
  · split at h
    · unfold ofO at h
      split at h
      · rename_i q2
        obtain ⟨c, _, rfl⟩ := bl_some q2
        cases h; exact ⟨c, rfl⟩
      · cases h
    · cases h
  · cases h
  · cases h
theorem cmpT_bl {p : COp} {r : R1} {c : RE R1} {g : R1 → En → RE R1} {q : R1} {e' : En} (hg : ∀ r e, g r e = .ok q e' → ∃ c, q = .w (.bl c)) (h : cmpT (cmpW p) r c g = .ok q e') : ∃ c, q = .w (.bl c) := by
  unfold cmpT at h
  split at h
  · split at h
    · split at h
      · exact hg _ _ h
      · cases h; exact ⟨_, rfl⟩
      · cases h
    · cases h
  · cases h
  · cases h
theorem cmp2_bl {o p : COp} {ra : RE R1} {q : R1} {e' : En} (h : cmp2E (cmpW o) (cmpW p) ra fb fc = .ok q e') : ∃ c, q = .w (.bl c) := by
  unfold cmp2E at h
  split at h
  · exact cmpT_bl (fun r e h => cmpL_bl h) h
  · cases h
  · cases h
theorem st_cmp2 {o p : COp} (hr : Room k X.A) (ha : PE X ea (tE B z W' fa)) (hb : PE X eb (tE B z W' fb)) (hc : PE X ec (tE B z W' fc)) (hm : plB ec = true) :
    PT X (.Compare ea [cop o, cop p] [eb, ec] pos) (tT B z W' fun e => tst (cmp2E (cmpW o) (cmpW p) (fa e) fb fc)) :=
  pt_ofB (pt_chain rOp_ok rOp_ok ha hb hc (lastMarks2 hm)) (fun σ H Q ⟨G, e, S, h⟩ => ⟨G, e, S, chain_post hr S h⟩) fun e r e' h => cmp2_bl h
/-! ### a value by a test -/
theorem iteE_post {c : RE Bool} {f g : En → RE R1} (h : PostE B z W' σ G H e (iteE c f g) Q) : PostT B z W' σ G H e c fun b H' => if b = true then tE B z W' f σ H' Q else tE B z W' g σ H' Q := by
  cases c with
  | err => exact h
  | exn x e1 => exact h
  | ok b e1 =>
    intro G1 H1 F S
    cases b with
    | true => rw [if_pos rfl]; exact ⟨G1, e1, S, PostE.up F h⟩
    | false => rw [if_neg (by decide)]; exact ⟨G1, e1, S, PostE.up F h⟩
theorem s_ite {c : En → RE Bool} (hc : PT X ec (tT B z W' c)) (ha : PE X ea (tE B z W' fa)) (hb : PE X eb (tE B z W' fb)) : PE X (.IfExp ec ea eb pos) (tE B z W' fun e => iteE (c e) fa fb) :=
  pe_imp (pe_ifExp hc ha hb) fun σ H Q ⟨G, e, S, h⟩ => ⟨G, e, S, iteE_post h⟩
/-! ### places, cuts -/
theorem s_ix (hr : Room k X.A) (ha : PE X ea (tE B z W' fa)) (hb : PE X eb (tE B z W' fb)) (hp : plB eb = true) : PE X (.Subscript ea eb pos) (tE B z W' fun e => un2 (fun x y => (ixW x y).map .w) (fa e) fb) :=
  snd_un2 ha hb (fun ha hb => pe_ix rIxA_ok ha hb (plain_pl hp)) fun G H e σ v1 v2 x y r1 Q S hx hy h y' => by
    cases hc : ixW x y with
    | none => rw [hc] at h; cases h
    | some c => rw [hc] at h; cases h; exact ix_ok hr S hx hy hc fun v rv => y'.val S rv
theorem s_rev (ha : PE X ea (tE B z W' fa)) {j : Nat} {p1 p2 p3 : Pos} : PE X (.Subscript ea (.Slice none none (some (.UnaryOp .USub (.Constant (.int 1) j p1) p2)) p3) pos) (tE B z W' fun e => un1 revW (fa e)) :=
  snd_un1 ha (fun ha => pe_revL ha) fun G H e σ v x r1 Q S hx h y' => by
    unfold revW at h
    split at h
    · cases h
      obtain ⟨p, vs, rfl, hp, rs⟩ := hx.lst S.sub
      exact ⟨p, vs, rfl, .of hp, fun q hq => y'.new S hq (.lst rs.reverse) rfl⟩
    · cases h
def PostO (B : Bd) (z : Option Addr) (W' : WX) (σ : St) (G H : Hp) (e : En) (r : RE (Option Int)) (Q : Option Int → Hp → Prop) : Prop := match r with
  | .err => False
  | .ok b e' => ∀ G' H', Fr G H e σ G' H' e' σ → StOk B z G' H' e' σ → Q b H'
  | .exn x e' => ∀ G' H' cls d, Fr G H e σ G' H' e' σ → StOk B z G' H' e' σ → ExR B G' H' x cls d → W' cls d σ H'
def tO (B : Bd) (z : Option Addr) (W' : WX) (f : En → RE (Option Int)) : TO := fun σ H Q => ∃ G e, StOk B z G H e σ ∧ PostO B z W' σ G H e (f e) Q
theorem s_part {l : Option Expr} {n : Bool} (h : match l with | none => n = true | some x => n = false ∧ PE X x (tE B z W' fa)) : PO X l (tO B z W' (partE n fa)) := by
  cases l with
  | none =>
    have h : n = true := h
    subst h
    exact ⟨fun pins s σ H Q I ⟨G, e, S, q⟩ => po_none.run pins s σ H Q I (q G H .refl S)⟩
  | some x =>
    obtain ⟨rfl, h⟩ := h
    refine ⟨fun pins s σ H Q I ⟨G, e, S, q⟩ => (po_some h).run pins s σ H Q I ⟨G, e, S, ?_⟩⟩
    unfold partE at q
    dsimp only at q
    cases hf : fa e with
    | err => rw [hf] at q; exact q
    | exn x e1 => rw [hf] at q; exact q
    | ok r e1 =>
      rw [hf] at q
      intro G1 H1 v F S1 R n
      dsimp only at q
      split at q
      · rename_i i hi
        exact ⟨i, (peek_ok S1 R hi).int, q G1 H1 F S1⟩
      · exact q.elim
theorem s_sl {lo hi : En → RE (Option Int)} {l h : Option Expr} {p2 : Pos} (hsk : ∀ a vs, B.sk a vs → ∀ H : Hp, SqL X.K H a vs) (ha : PE X ea (tE B z W' fa)) (hl : PO X l (tO B z W' lo)) (hh : PO X h (tO B z W' hi)) :
    PE X (.Subscript ea (.Slice l h none p2) pos) (tE B z W' fun e => slE (fa e) lo hi) := by
  refine pe_imp (pe_slice rSlX_ok ha hl hh) fun σ H Q ⟨G, e, S, q⟩ => ⟨G, e, S, ?_⟩
  dsimp only at q
  cases hf : fa e with
  | err => rw [hf] at q; exact q
  | exn x e1 => rw [hf] at q; exact q
  | ok r e1 =>
    rw [hf] at q
    intro G1 H1 v F1 S1 R n
    refine ⟨G1, e1, S1, ?_⟩
    have q := q.up F1 (r := slE (.ok r e1) lo hi)
    unfold slE at q
    dsimp only at q
    cases hl : lo e1 with
    | err => rw [hl] at q; exact q
    | exn x e1 => rw [hl] at q; exact q
    | ok i e2 =>
      rw [hl] at q
      dsimp only at q
      intro G2 H2 F2 S2
      refine ⟨G2, e2, S2, ?_⟩
      cases hh : hi e2 with
      | err => rw [hh] at q; exact q
      | exn x e1 => rw [hh] at q; exact PostE.up (r := .exn _ _) F2 q
      | ok j e3 =>
        rw [hh] at q
        dsimp only at q
        intro G3 H3 F3 S3
        split at q
        · rename_i x hx
          have rx := peek_ok S3 (R.fr (F2.trans F3)) hx
          unfold ofO at q
          split at q
          · rename_i r1 hc
            exact cutW_ok hsk S3 rx hc (Yd.of (F2.trans F3) q)
          · exact q.elim
        · exact q.elim
end Iv
end

section
set_option Elab.async false
set_option linter.all false
set_option maxRecDepth 100000
namespace PySem
open Sem (wp)
set_option maxHeartbeats 1000000 in
theorem ivMeetsEnum {v : Value} {o : Obj} {H : Heap → Prop} (B : Begins v o H) :
    Meets (Builtin.«enumerate.__new__» ⟨[.type "enumerate", v], []⟩) (fun _ R s => H s.heap ∧
      R (.ok (.ret (.ref (s.heap.push o).objs.size))) { s with heap := (s.heap.push o).push { cls := .type "enumerate", data := .fields #[.none, .bool false, .ref s.heap.objs.size, rawInt 0, .none, .none] } }) :=
  .of_wp fun prog w A R s h => by
    obtain ⟨hp, g, d, tk, os⟩ := s; obtain ⟨h1, h⟩ := h
    have hsub := sub_enumerate
    have q1 : ∀ {A' : Around} {E : Value → Shared → Prop} {Q : Value → Shared → Prop}, Q (.ref hp.objs.size) ⟨hp.push o, g, d, tk, os⟩ → wpAny (model prog w) A' (pyIter v) Q E ⟨hp, g, d, tk, os⟩ :=
      fun q => B.iter prog w _ _ ⟨hp, g, d, tk, os⟩ _ h1 q
    wp_walk using q1
    refine wpAny_stack_any fun st => wpAny_pure ?_
    split
    · rename_i c _ _ _ _ _
      cases (c == Value.type "enumerate")
      · wp_walk using q1
        exact ⟨_, rfl, h⟩
      · wp_walk using q1
        exact ⟨_, rfl, h⟩
    · wp_walk using q1
      exact ⟨_, rfl, h⟩
section
variable {prog : Program} {w : World} {A : Around} {E : Value → Shared → Prop} {s : Shared}
theorem ivCallEnum {v : Value} {o : Obj} {H : Heap → Prop} {Q : Value → Shared → Prop} (B : Begins v o H) (h1 : H s.heap)
    (h : ∀ h', IsEnum h' (s.heap.objs.size + 1) s.heap.objs.size 0 .none → h'.get? s.heap.objs.size = some o → h'.objs.size = s.heap.objs.size + 2 →
      (∀ b o, s.heap.get? b = some o → h'.get? b = some o) → Q (.ref (s.heap.objs.size + 1)) { s with heap := h' }) :
    wpAny (model prog w) A (call (.type "enumerate") [v]) Q E s := by
  refine callType_new F.called_enumerate (by decide) (F.typeCall_enumerate_1 _) (F.newCall_enumerate_1 _) (fun obj => F.args_object_init_2 obj _) F.entry_enumerate_new
    (ivMeetsEnum B) ⟨h1, ?_⟩
  have hz : (s.heap.push o).objs.size = s.heap.objs.size + 1 := Heap.size_push ..
  show _ ∧ _
  rw [hz]
  have he : IsEnum ((s.heap.push o).push { cls := .type "enumerate", data := .fields #[.none, .bool false, .ref s.heap.objs.size, rawInt 0, .none, .none] }) (s.heap.objs.size + 1) s.heap.objs.size 0 .none := by
    have := Heap.get?_push_size (s.heap.push o) (o := { cls := .type "enumerate", data := .fields #[.none, .bool false, .ref s.heap.objs.size, rawInt 0, .none, .none] }) rfl
    rw [hz] at this; exact this
  refine ⟨⟨_, he, rfl⟩, h _ he (Heap.get?_push_of_some _ (Heap.get?_push_size _ B.free)) (by rw [Heap.size_push, hz]) fun b o x => Heap.get?_push_of_some _ (Heap.get?_push_of_some _ x)⟩
theorem ivEnumEndT {e it l : Addr} {i : Int} {n : Nat} {items : Array Value} {old : Value} {Q : Option Value → Shared → Prop} (hh : A.handled = none)
    (he : IsEnum s.heap e it i old) (hit : s.heap.IsTupleIter it l n) (hl : s.heap.IsTuple l items) (hx : items[n]? = none)
    (hQ : ∀ h', Heap.ExtBut it s.heap h' → Q none { s with heap := h' }) : wpAny (model prog w) A (pyNext (.ref e)) Q E s := by
  have hT : s.TypeIs (.ref e) "enumerate" := ⟨_, he, rfl⟩
  unfold pyNext
  refine wpAny_bind (wpAny_attempt (wpAny_callSpecial?_slot (name := Str.ofString "__next__") hT F.slot_enumerate_next
    (wpAny_call_entry F.slot_enumerate_next hT F.entry_enumerate_next ?_ (F.args_enumerate_next_1 _))))
  show wpAny _ _ (field (.ref e) 2 >>= _) _ _ _
  refine wpAny_bind (wpAny_field he rfl (x := .ref it) rfl ?_)
  refine wpAny_bind (wpAny_nextOf_tuple_end hh hit hl hx fun h' x he' hx' => ?_)
  obtain ⟨o, ho, hc⟩ := hx'
  refine wpAny_bind (wpAny_isInstance (T := "StopIteration") (b := true) ⟨o, ho, hc⟩ isSubtype_stop ?_)
  exact wpAny_pure (hQ _ he')
end
end PySem
namespace L2
open PySem PySem.Spec PyProof.Rows
/-- the tuple at a, each item in a new pair -/
def IteT (K : PySem.W.Frag) (a : Addr) : It :=
  ⟨fun i H => ∃ (xs : List V) (x : V), SqT K H a xs ∧ xs[i]? = some x, fun i H v H' => ∃ T x, v = .ref T ∧ H T = none ∧ H' = upd H T (.tup [.int (i : Nat), x]) ∧ ∀ xs, SqT K H a xs → xs[i]? = some x, fun i H => ∃ xs : List V, SqT K H a xs ∧ xs.length ≤ i⟩
theorem turn_enumT {P : Program} {w : World} {K : PySem.W.Frag} {elts : List Expr} {kk : Nat} {tpos : Pos} (a e it : Addr) :
    Turn P w K (.Tuple elts kk tpos) (IteT K a) [e, it] e (fun i h => (∃ old, IsEnum h e it ((i : Nat) : Int) old) ∧ h.IsTupleIter it a i ∧ e ≠ it ∧ a ≠ it ∧ a ≠ e) where
  mem := by simp
  obj := fun i h st b hb => by
    obtain ⟨⟨old, he⟩, ⟨o, ho, hc, hd⟩, _⟩ := st
    have e' : b = e ∨ b = it := by simpa using hb
    rcases e' with z | z
    · rw [z]; exact ⟨_, he, fun v q => nomatch q⟩
    · rw [z]; exact ⟨o, ho, fun v q => by rw [hd] at q; cases q⟩
  keep := fun i h h' st k => let ⟨⟨old, he⟩, hi, hne⟩ := st; ⟨⟨old, k e (by simp) _ he⟩, hi.at fun o q => k it (by simp) o q, hne⟩
  item := by
    intro X hP hw hK hc i pins s σ H E I hf st hg
    subst hP hw hK
    obtain ⟨⟨old, he⟩, hit, hne, hai, hae⟩ := st
    obtain ⟨xs, x, hq, hx⟩ := hg
    obtain ⟨its, rv, p, hz⟩ := I.tuple hq
    obtain ⟨u, hu, ru⟩ := rv.get hx
    have hel : e < s.heap.objs.size := Heap.lt_size he
    have hil : it < s.heap.objs.size := by obtain ⟨_, q, _⟩ := hit; exact Heap.lt_size q
    have p' : s.heap.IsTuple a its.toArray := p
    have D := Draws.tuple (prog := X.prog) (w := X.w) (A := X.A.in1) (show X.A.in1.handled = none from I.ok.hd hc) it a hai its.toArray
    refine wpAny_pyNext_enum_itemC D he ⟨hit, p'⟩ (by have := (List.getElem?_eq_some_iff.mp hu).1; simpa using this) hne (by simp; exact ⟨hne, Ne.symm hae⟩) fun x' h' tk hx' ho st' hT hsz hk => ?_
    have ex : x' = u := by
      have h2 : its.toArray[i]? = some x' := hx'
      rw [List.getElem?_toArray, hu] at h2
      cases h2; rfl
    subst ex
    refine ⟨_, rfl, wpAny_letOwnedTupleGo_enum (s := { s with heap := h', toks := tk + 1 }) ho fun h'' he' sb => ?_⟩
    have hT2 : h''.get? s.heap.objs.size = some { cls := .type "tuple", data := .seq #[.int i tk, x'] } := (sb.2 _ (Nat.ne_of_gt hel)).trans hT
    have new : ObjOk X.prog X.w (upd H s.heap.objs.size (.tup [.int (i : Nat), x])) h'' s.heap.objs.size (.tup [.int (i : Nat), x]) :=
      ⟨by show 2 ≤ sizeLine; decide, [.int i tk, x'], .cons ⟨_, rfl⟩ (.cons ru .nil), ⟨_, hT2, rfl, _, rfl⟩⟩
    have I1 : Inv X pins σ (upd H s.heap.objs.size (.tup [.int (i : Nat), x])) { s with heap := h'', toks := tk + 1 } :=
      I.turnedNew (t' := tk + 1) (ch := [e, it]) (fun b ob hb q => (sb.2 b (fun z => hb (by simp [z]))).trans (hk b ob (fun z => hb (by simp [z])) (fun z => hb (by simp [z])) q)) hf (Nat.le_refl _) new
    refine ⟨.ref s.heap.objs.size, _, I1, rfl, ⟨_, x, rfl, I.hok.fresh (Nat.le_refl _), rfl, fun ys hy => by rw [I.tuple_inj hy hq]; exact hx⟩, ⟨⟨x', ?_⟩, st'.1.at fun o q => (sb.2 it (Ne.symm hne)).trans q, hne, hai, hae⟩, fun b hb => ?_⟩
    · have e1 : ((i + 1 : Nat) : Int) = (i : Int) + 1 := by omega
      rw [e1]; exact he'
    · have hb' : b < s.heap.objs.size := by
        have e' : b = e ∨ b = it := by simpa using hb
        rcases e' with z | z
        · rw [z]; exact hel
        · rw [z]; exact hil
      rw [upd_ne (Nat.ne_of_lt hb')]
      exact (hf b hb).1
  done := by
    intro X hP hw hK hc i pins s σ H E I hf st hg
    subst hP hw hK
    obtain ⟨⟨old, he⟩, hit, hne, hai, hae⟩ := st
    obtain ⟨xs, hq, hx⟩ := hg
    obtain ⟨its, rv, p, hz⟩ := I.tuple hq
    have p' : s.heap.IsTuple a its.toArray := p
    obtain ⟨f0, f1, f2, f3, f4, f5⟩ := hf it (by simp)
    have hl := rv.length
    exact ivEnumEndT (I.ok.hd hc) he hit p' (by simp; omega) fun h' eb => ⟨rfl, I.turned (t' := s.toks) (fun b o hb q => eb b o hb q) f0 f1 f3 f4 f5⟩
  self := fun A i s Q E st h => let ⟨⟨_, he⟩, _⟩ := st; wpAny_pyIter_enum he h
def iEnumA (K : PySem.W.Frag) (ta : TA) : TI := fun σ H R => ta σ H fun vs H1 => ∃ a xs, vs = [.ref a] ∧ ((SqL K H1 a xs ∧ R (Ite K a) H1) ∨ (SqT K H1 a xs ∧ R (IteT K a) H1))
theorem pi_enumA {X : Cx} {e : Expr} {ta : TA} {p pos tpos : Pos} {elts : List Expr} {kk : Nat} (hg : Gl X "enumerate") (hm : X.mg "enumerate" = none) (ha : PA X [e] ta) (hs : starEach [e] X.env = [(false, eval e X.env)]) :
    PI X (.Tuple elts kk tpos) (.Call (.Name "enumerate" p) [e] [] pos) (iEnumA X.K ta) := by
  refine ⟨fun pins s σ H R I h => ?_⟩
  refine Call_ (ld_blt I hg hm boot_enumerate (PyProof.Rows.callWith_type1 (thn (ha.run pos pins s σ H _ I h) fun us s1 ⟨vs, H1, I1, r1, q1⟩ => ?_) hs rfl))
  obtain ⟨a, xs, ex, hq⟩ := q1
  subst ex
  cases r1 with
  | cons r rr =>
    cases rr
    cases r
    rcases hq with ⟨hq, q⟩ | ⟨hq, q⟩
    · obtain ⟨its, rv, p', hz⟩ := I1.list hq
      refine call_enumerate_list p'.isList fun h' he hit hsz hk => wpAny_pyIter_enum he ?_
      have I2 : Inv X pins σ H1 { s1 with heap := h' } := I1.kept (t' := s1.toks) hk
      refine ⟨s1.heap.objs.size + 1, [s1.heap.objs.size + 1, s1.heap.objs.size], _, _, H1, rfl, I2, turn_enum a (s1.heap.objs.size + 1) s1.heap.objs.size, ⟨⟨.none, he⟩, hit, Nat.succ_ne_self _⟩, fun b hb => ?_, q⟩
      have e' : b = s1.heap.objs.size + 1 ∨ b = s1.heap.objs.size := by simpa using hb
      have hle : s1.heap.objs.size ≤ b := by
        rcases e' with z | z
        · rw [z]; exact Nat.le_add_right _ _
        · rw [z]; exact Nat.le_refl _
      exact I1.fpOk hle (I1.hok.fresh hle)
    · obtain ⟨its, rv, p', hz⟩ := I1.tuple hq
      have p2 : s1.heap.IsTuple a its.toArray := p'
      have hal : a < s1.heap.objs.size := by obtain ⟨_, q2, _⟩ := p2; exact Heap.lt_size q2
      refine ivCallEnum (begins_tuple a its.toArray) p2 fun h' he hit hsz hk => wpAny_pyIter_enum he ?_
      have I2 : Inv X pins σ H1 { s1 with heap := h' } := I1.kept (t' := s1.toks) hk
      refine ⟨s1.heap.objs.size + 1, [s1.heap.objs.size + 1, s1.heap.objs.size], _, _, H1, rfl, I2, turn_enumT a (s1.heap.objs.size + 1) s1.heap.objs.size, ⟨⟨.none, he⟩, ⟨_, hit, rfl, rfl⟩, Nat.succ_ne_self _, Nat.ne_of_lt hal, Nat.ne_of_lt (Nat.lt_succ_of_lt hal)⟩, fun b hb => ?_, q⟩
      have e' : b = s1.heap.objs.size + 1 ∨ b = s1.heap.objs.size := by simpa using hb
      have hle : s1.heap.objs.size ≤ b := by
        rcases e' with z | z
        · rw [z]; exact Nat.le_add_right _ _
        · rw [z]; exact Nat.le_refl _
      exact I1.fpOk hle (I1.hok.fresh hle)
end L2
end

section
set_option Elab.async false
set_option linter.all false
set_option maxRecDepth 100000
namespace Iv
open PySem L2
set_option autoImplicit false
variable {B : Bd} {z : Option Addr} {G H G' H' G0 H0 G1 H1 : Hp} {e e' e0 e1 : En} {σ σ' : St} {w x y : W} {v v1 v2 : V} {a : Addr} {r r1 : R1} {Q Q' : VK} {W' : WX}
variable {L : Lx} {T : Tb} {KK : Nat → List Sl → RF} {k : Nat} {N : List Str} {s : Sx} {X : Cx} {fa fb fc : En → RE R1} {ea eb ec : Expr} {pos : Pos}

/-! ### arguments -/
theorem wsOf_ok : ∀ {rs : List R1} {ws : List W} {vs : List V}, RepRs B z G H e σ rs vs → wsOf rs = some ws → Reps B G ws vs
  | [], _, [], _, h => by cases h; exact .nil
  | [], _, _ :: _, h, _ => h.elim
  | r :: rs, ws, [], h, _ => by cases r <;> exact h.elim
  | r :: rs, ws, v :: vs, h, q => by
    unfold wsOf at q
    split at q
    · cases ‹_ = ([] : List R1)›
    · rename_i w rs' heq
      cases heq
      split at q
      · rename_i r' hr
        cases q
        exact .cons h.1 (wsOf_ok h.2.1 hr)
      · cases q
    · cases q
theorem argsE_post {f : RE R1} {kk : List W → En → RE R1} {QA : List V → Hp → Prop} (h : PostE B z W' σ G H e (argsE f kk) Q)
    (hk : ∀ ws e1 G1 H1 vs, Fr G H e σ G1 H1 e1 σ → StOk B z G1 H1 e1 σ → Reps B G1 ws vs → PostE B z W' σ G1 H1 e1 (kk ws e1) Q → QA vs H1) : PostA B z W' σ G H e f QA := by
  cases f with
  | err => exact h
  | exn x e1 => exact h
  | ok r e1 =>
    cases r with
    | w w => exact h.elim
    | s i => exact h.elim
    | f w => exact h.elim
    | l rs =>
      refine ⟨rs, rfl, fun G1 H1 vs F S R n => ?_⟩
      unfold argsE at h
      dsimp only at h
      split at h
      · rename_i ws hw
        exact hk ws e1 G1 H1 vs F S (wsOf_ok R hw) (PostE.up F h)
      · exact h.elim
theorem rep_zip {rs : List R1} : ∀ {vs : List V}, True → True := fun _ => trivial
theorem sa_nil : PA X [] (tA B z W' fun e => .ok (.l []) e) := pa_imp pa_nil fun σ H Q ⟨G, e, S, h⟩ => by
  obtain ⟨rs, hr, h⟩ := h
  cases hr
  exact h G H [] .refl S trivial fun w a q => by cases q
theorem sa_cons {es : List Expr} (ha : PE X ea (tE B z W' fa)) (hs : PA X es (tA B z W' fb)) (hp : plB ea = true) : PA X (ea :: es) (tA B z W' fun e => consE (fa e) fb) := by
  refine pa_imp (pa_cons ha hs (star_pl hp)) fun σ H Q ⟨G, e, S, h⟩ => ⟨G, e, S, ?_⟩
  dsimp only at h
  cases hf : fa e with
  | err => rw [hf] at h; exact h
  | exn x e1 => rw [hf] at h; exact h
  | ok r e1 =>
    rw [hf] at h
    intro G1 H1 v F S1 R n
    unfold consE valE at h
    dsimp only at h
    split at h
    · rename_i x e2 hu
      obtain ⟨G2, F2, S2, R2⟩ := use_ok F S1 R n hu
      refine ⟨G2, e2, S2, ?_⟩
      have h := PostA.up F2 h
      cases hb : fb e2 with
      | err => rw [hb] at h; obtain h := h; exact h
      | exn x e1 => rw [hb] at h; exact h
      | ok r3 e3 =>
        rw [hb] at h
        cases r3 with
        | w w => exact h.elim
        | s i => exact h.elim
        | f w => exact h.elim
        | l rs =>
          obtain ⟨rs', hr, h⟩ := h
          cases hr
          refine ⟨rs, rfl, fun G3 H3 vs F3 S3 R3 n3 => h G3 H3 (v :: vs) F3 S3 ⟨Rep.mono F3.g _ _ R2, R3, fun w a q => by cases q⟩ fun w a q => ?_⟩
          rw [List.zip_cons_cons, List.mem_cons] at q
          rcases q with q | q
          · cases q
          · exact n3 w a q
    · exact h.elim
theorem useS_ok (F : Fr G0 H0 e0 σ G H e σ) (S : StOk B z G H e σ) (h : RepR B z G H e σ r v) (nw : New H0 r v) {e' : En} {r' : R1} (u : useS r e = some (r', e')) :
    ∃ G', Fr G0 H0 e0 σ G' H e' σ ∧ StOk B z G' H e' σ ∧ RepR B z G' H e' σ r' v ∧ New H0 r' v ∧ (∀ i, r' ≠ .s i) := by
  cases r with
  | w w => cases u; exact ⟨G, F, S, h, nw, fun i q => by cases q⟩
  | f w => cases u; exact ⟨G, F, S, h, nw, fun i q => by cases q⟩
  | l rs => exact h.elim
  | s i =>
    unfold useS at u
    dsimp only at u
    split at u
    · rename_i x e2 hu
      cases u
      obtain ⟨G2, F2, S2, R2⟩ := use_ok F S h nw hu
      exact ⟨G2, F2, S2, R2, fun w a q _ => by (cases q), fun i q => by (cases q)⟩
    · cases u
theorem sa_consR {es : List Expr} (ha : PE X ea (tE B z W' fa)) (hs : PA X es (tA B z W' fb)) (hp : plB ea = true) : PA X (ea :: es) (tA B z W' fun e => consRE (fa e) fb) := by
  refine pa_imp (pa_cons ha hs (star_pl hp)) fun σ H Q ⟨G, e, S, h⟩ => ⟨G, e, S, ?_⟩
  dsimp only at h
  cases hf : fa e with
  | err => rw [hf] at h; exact h
  | exn x e1 => rw [hf] at h; exact h
  | ok r e1 =>
    rw [hf] at h
    intro G1 H1 v F S1 R n
    unfold consRE at h
    dsimp only at h
    split at h
    · rename_i x e2 hu
      obtain ⟨G2, F2, S2, R2, n2, ns⟩ := useS_ok F S1 R n hu
      refine ⟨G2, e2, S2, ?_⟩
      cases hb : fb e2 with
      | err => rw [hb] at h; exact h
      | exn x e1 => rw [hb] at h; exact PostA.up (r := .exn _ _) F2 h
      | ok r3 e3 =>
        rw [hb] at h
        cases r3 with
        | w w => exact h.elim
        | s i => exact h.elim
        | f w => exact h.elim
        | l rs =>
          obtain ⟨rs', hr, h⟩ := h
          cases hr
          refine ⟨rs, rfl, fun G3 H3 vs F3 S3 R3 n3 => h G3 H3 (v :: vs) (F2.trans F3) S3 ⟨R2.fr F3, R3, fun w a q1 q2 w' q3 => ?_⟩ fun w a q => ?_⟩
          · have := n3 w' a q3
            subst q1 q2
            obtain ⟨b, hb, o, _⟩ := R2
            cases hb
            exact o.there this
          · rw [List.zip_cons_cons, List.mem_cons] at q
            rcases q with q | q
            · cases q
              exact n2 _ _ rfl rfl
            · exact F2.free (n3 w a q)
    · exact h.elim
end Iv
end

section
set_option Elab.async false
set_option linter.all false
set_option maxRecDepth 100000
namespace Iv
open PySem L2
set_option autoImplicit false
variable {B : Bd} {z : Option Addr} {G H G' H' G0 H0 G1 H1 : Hp} {e e' e0 e1 : En} {σ σ' : St} {w x y : W} {v v1 v2 : V} {a : Addr} {r r1 : R1} {Q Q' : VK} {W' : WX}
variable {L : Lx} {T : Tb} {KK : Nat → List Sl → RF} {k : Nat} {N : List Str} {s : Sx} {X : Cx} {fa fb fc : En → RE R1} {ea eb ec : Expr} {pos p p2 : Pos}

/-! ### displays -/
theorem s_tup {es : List Expr} {x1 : Nat} (h : PA X es (tA B z W' fa)) : PE X (.Tuple es x1 pos) (tE B z W' fun e => argsE (fa e) tupE) := by
  refine pe_imp (pe_tup h) fun σ H Q ⟨G, e, S, h⟩ => ⟨G, e, S, argsE_post h fun ws e1 G1 H1 vs F S1 R q => ?_⟩
  unfold tupE at q
  split at q
  · rename_i c
    exact ⟨by rw [← R.length, ← lim_eq]; exact c, fun p hp => (Yd.of .refl q).fix S1 hp (.tup R)⟩
  · exact q.elim
theorem s_lst {es : List Expr} (h : PA X es (tA B z W' fa)) : PE X (.List es pos) (tE B z W' fun e => argsE (fa e) lstE) := by
  refine pe_imp (pe_lst h) fun σ H Q ⟨G, e, S, h⟩ => ⟨G, e, S, argsE_post h fun ws e1 G1 H1 vs F S1 R q => ?_⟩
  unfold lstE at q
  split at q
  · rename_i c
    exact ⟨by rw [← R.length, ← lim_eq]; exact c, fun p hp => (Yd.of .refl q).new S1 hp (.lst R) rfl⟩
  · exact q.elim
theorem s_d0 (t : Bool) : PE X (.Dict [] [] pos) (tE B z W' fun e => .ok (.f (if t then .dT [] [] else .dK [] [])) e) := by
  cases t with
  | false => exact pe_imp pe_dnewK fun σ H Q ⟨G, e, S, h⟩ p hp => (Yd.of .refl h).new S hp (.dK (kvs := []) rfl .nil) rfl
  | true => exact pe_imp pe_dnewT fun σ H Q ⟨G, e, S, h⟩ p hp => (Yd.of .refl h).new S hp (.dT (kvs := []) rfl .nil) rfl

/-! ### built-in functions -/
theorem one_pl {xs : List Expr} {env : Env} (h : xs.all plB = true) : (backTo pos (starEach xs env)).any (·.1) = false := backTo_pl h
theorem s_b1r {f : B1} (hf : b1B f = true) (xx : XOk L B KK k N s X) (hg : glB s (b1N f) = true) (hp : plB ea = true) {ta : TE} (ha : PE X ea ta) : PE X (.Call (.Name (b1N f) p) [ea] [] pos) (fun σ H Q => ta σ H fun x H1 => rCl X (b1V f) [x] H1 Q) := by
  have g := gl_of xx hg
  have A : PA X [ea] (tCons ta tNil) := pa_cons ha pa_nil (star_pl hp)
  have he : starEach [ea] X.env = (false, eval ea X.env) :: starEach [] X.env := star_pl hp
  have hpl : (backTo pos (starEach [] X.env)).any (·.1) = false := one_pl rfl
  have hm : X.mg (b1N f) = none := xx.wd.bi _ (by cases f <;> decide)
  cases f with
  | len => exact pe_callB rCl_ok g hm (by decide +kernel) A (by decide) (by decide) he hpl
  | abs => exact pe_callB rCl_ok g hm (by decide +kernel) A (by decide) (by decide) he hpl
  | int => exact pe_callTy rCl_ok g hm (by decide +kernel) A (by decide) (by decide) he hpl
  | tuple => exact pe_callTy rCl_ok g hm (by decide +kernel) A (by decide) (by decide) he hpl
  | list => exact pe_callTy rCl_ok g hm (by decide +kernel) A (by decide) (by decide) he hpl
  | sum => exact pe_callB rCl_ok g hm (by decide +kernel) A (by decide) (by decide) he hpl
  | all => exact pe_callB rCl_ok g hm (by decide +kernel) A (by decide) (by decide) he hpl
  | any => exact pe_callB rCl_ok g hm (by decide +kernel) A (by decide) (by decide) he hpl
  | min => exact pe_callB rCl_ok g hm (by decide +kernel) A (by decide) (by decide) he hpl
  | max => exact pe_callB rCl_ok g hm (by decide +kernel) A (by decide) (by decide) he hpl
  | sorted => exact pe_callB rCl_ok g hm (by decide +kernel) A (by decide) (by decide) he hpl
  | dict => cases hf
  | set => cases hf
  | str => cases hf
theorem s_b1 {f : B1} (hf : b1B f = true) (xx : XOk L B KK k N s X) (hg : glB s (b1N f) = true) (hp : plB ea = true) (ha : PE X ea (tE B z W' fa)) : PE X (.Call (.Name (b1N f) p) [ea] [] pos) (tE B z W' fun e => un1 (b1W f) (fa e)) :=
  snd_un1 (rr := fun x H Q => rCl X (b1V f) [x] H Q) ha (fun ha => s_b1r hf xx hg hp ha) fun G H e σ v x r1 Q S hx h y' => b1_ok xx.calm xx.room S hx h y'
theorem s_b2r {f : B2} (xx : XOk L B KK k N s X) (hg : glB s (b2N f) = true) (hp : plB ea = true) (hp2 : plB eb = true) {ta tb : TE} (ha : PE X ea ta) (hb : PE X eb tb) : PE X (.Call (.Name (b2N f) p) [ea, eb] [] pos) (tOp (fun x y H Q => rCl X (b2V f) [x, y] H Q) ta tb) := by
  have g := gl_of xx hg
  have A : PA X [ea, eb] (tCons ta (tCons tb tNil)) := pa_cons ha (pa_cons hb pa_nil (star_pl hp2)) (star_pl hp)
  have he : starEach [ea, eb] X.env = (false, eval ea X.env) :: starEach [eb] X.env := star_pl hp
  have hpl : (backTo pos (starEach [eb] X.env)).any (·.1) = false := one_pl (by simp [hp2])
  have hm : X.mg (b2N f) = none := xx.wd.bi _ (by cases f <;> decide)
  cases f with
  | min => exact pe_callB rCl_ok g hm (by decide +kernel) A (by decide) (by decide) he hpl
  | max => exact pe_callB rCl_ok g hm (by decide +kernel) A (by decide) (by decide) he hpl
theorem s_b2 {f : B2} (xx : XOk L B KK k N s X) (hg : glB s (b2N f) = true) (hp : plB ea = true) (hp2 : plB eb = true) (ha : PE X ea (tE B z W' fa)) (hb : PE X eb (tE B z W' fb)) : PE X (.Call (.Name (b2N f) p) [ea, eb] [] pos) (tE B z W' fun e => un2 (b2W f) (fa e) fb) :=
  snd_un2 ha hb (fun ha hb => s_b2r xx hg hp hp2 ha hb) fun G H e σ v1 v2 x y r1 Q S hx hy h y' => b2_ok xx.calm S hx hy h y'

/-! ### isinstance -/
theorem ty_ok {t0 : Ty} {c0 : Bool} {K : PySem.W.Frag} (S : Sub G H) (hx : RdW B G H x v) (h : isTy t0 x = some c0) : ∃ u, TyX K H v u ∧ ∀ t c, isTy t x = some c → PySem.W.kitOne K u (.type (tyN t)) = some c := by
  cases x with
  | non => rw [hx.non]; exact ⟨_, .base .non, fun t c h => by cases t <;> first | (cases h; exact kit_ty (by decide +kernel)) | cases h⟩
  | bl b => rw [hx.bl]; exact ⟨_, .base (.bl _), fun t c h => by cases t <;> first | (cases h; exact kit_ty (by decide +kernel)) | cases h⟩
  | int b => rw [hx.int]; exact ⟨_, .base (.int _), fun t c h => by cases t <;> first | (cases h; exact kit_ty (by decide +kernel)) | cases h⟩
  | str b => rw [hx.str]; exact ⟨_, .base (.str _), fun t c h => by cases t <;> first | (cases h; exact kit_ty (by decide +kernel)) | cases h⟩
  | tup b =>
    obtain ⟨p, vs, rfl, hp, rs⟩ := hx.tup
    exact ⟨_, .base (.tup (S _ _ hp)), fun t c h => by cases t <;> first | (cases h; exact kit_ty (by decide +kernel)) | cases h⟩
  | lst b =>
    obtain ⟨p, vs, rfl, hp, rs⟩ := hx.lst S
    exact ⟨_, .base (.lst hp), fun t c h => by cases t <;> first | (cases h; exact kit_ty (by decide +kernel)) | cases h⟩
  | dK b c =>
    obtain ⟨a, kvs, rfl, ha, rfl, rs⟩ := hx.dK S
    exact ⟨_, .base (.dK ha), fun t c h => by cases t <;> first | (cases h; exact kit_ty (by decide +kernel)) | cases h⟩
  | dT b c =>
    obtain ⟨a, kvs, rfl, ha, rfl, rs⟩ := hx.dT S
    exact ⟨_, .base (.dT ha), fun t c h => by cases t <;> first | (cases h; exact kit_ty (by decide +kernel)) | cases h⟩
  | ins _ _ _ => cases t0 <;> cases h
  | fn _ => cases t0 <;> cases h
  | scr _ => cases t0 <;> cases h
theorem tys_ok {K : PySem.W.Frag} {u : Value} (hu : ∀ t c, isTy t x = some c → PySem.W.kitOne K u (.type (tyN t)) = some c) : ∀ {ts : List Ty} {c : Bool}, isTys ts x = some c → PySem.W.kitAny K u (ts.map fun t => .type (tyN t)) = some c
  | [], c, h => by cases h; rfl
  | t :: ts, c, h => by
    unfold isTys at h
    unfold PySem.W.kitAny
    rw [List.map_cons]
    dsimp only
    split at h
    · rename_i q
      cases h; rw [hu t _ q]
    · rename_i q
      rw [hu t _ q]
      exact tys_ok hu h
    · cases h
theorem tyName (xx : XOk L B KK k N s X) {t : Ty} (hg : glB s (tyS t) = true) (hc : tcB t = true) : PE X (.Name (tyS t) p) (tC (.ty (tyN t))) := by
  have g := gl_of xx hg
  have hm : X.mg (tyS t) = none := xx.wd.bi _ (by cases t <;> first | decide | cases hc)
  cases t with
  | int => exact pe_bltn g hm (u := .type "int") (by decide +kernel) rfl
  | bool => exact pe_bltn g hm (u := .type "bool") (by decide +kernel) rfl
  | str => exact pe_bltn g hm (u := .type "str") (by decide +kernel) rfl
  | list => exact pe_bltn g hm (u := .type "list") (by decide +kernel) rfl
  | tuple => exact pe_bltn g hm (u := .type "tuple") (by decide +kernel) rfl
  | dict => exact pe_bltn g hm (u := .type "dict") (by decide +kernel) rfl
  | cls _ => cases hc
theorem tyB_cons {t : Ty} {ts : List Ty} {us : List Expr} (h : tyB s (t :: ts) us = true) : ∃ y q ys, us = .Name y q :: ys ∧ y = tyS t ∧ glB s y = true ∧ tcB t = true ∧ tyB s ts ys = true := by
  cases us with
  | nil => cases h
  | cons u ys =>
    cases u with
    | Name y q =>
      unfold tyB at h
      simp only [Bool.and_eq_true, decide_eq_true_eq] at h
      exact ⟨_, _, _, rfl, h.1.1.1, h.1.1.2, h.1.2, h.2⟩
    | _ => cases h
theorem tyNames (xx : XOk L B KK k N s X) : ∀ {ts : List Ty} {us : List Expr}, tyB s ts us = true → PA X us (fun σ H Q => Q (ts.map fun t => V.ty (tyN t)) H)
  | [], us, h => by
    cases us with
    | nil => exact pa_nil
    | cons => cases h
  | t :: ts, us, h => by
    obtain ⟨y, q, ys, rfl, rfl, hg, hc, h⟩ := tyB_cons h
    exact pa_cons (tyName xx hg hc) (tyNames xx h) (star_pl rfl)
theorem paired_ty : ∀ ts : List Ty, Paired ClsV (ts.map fun t => V.ty (tyN t)) (ts.map fun t => Value.type (tyN t))
  | [] => .nil
  | t :: ts => .cons (.ty _) (paired_ty ts)
theorem s_isi1 {t : Ty} {ts : List Ty} {u : Expr} (xx : XOk L B KK k N s X) (hg : glB s "isinstance" = true) (hp : plB ea = true) (hp2 : plB u = true) (ht : tyB s (t :: ts) [u] = true) (ha : PE X ea (tE B z W' fa)) : PE X (.Call (.Name "isinstance" p) [ea, u] [] pos) (tE B z W' fun e => un1 (fun x => bl (isTys (t :: ts) x)) (fa e)) := by
  obtain ⟨y, q, ys, e1, rfl, hg2, hc, ht⟩ := tyB_cons ht
  cases e1
  have ets : ts = [] := by
    cases ts with
    | nil => rfl
    | cons t' ts' => obtain ⟨_, _, _, e, _⟩ := tyB_cons ht; cases e
  subst ets
  refine snd_un1 (rr := fun x H Q => rIsi X.K [x, .ty (tyN t)] H Q) ha (fun {ta} ha => ?_) fun G H e σ v x r1 Q S hx h y' => ?_
  · have A : PA X [ea, .Name (tyS t) q] (tCons ta (tCons (tC (.ty (tyN t))) tNil)) := pa_cons ha (pa_cons (tyName xx hg2 hc) pa_nil (star_pl hp2)) (star_pl hp)
    exact pe_callB call_isi (gl_of xx hg) (xx.wd.bi _ (by decide)) (by decide +kernel) A (by decide) (by decide) (star_pl hp) (one_pl (by simp [hp2]))
  · obtain ⟨c, hc, rfl⟩ := bl_some h
    unfold isTys at hc
    split at hc
    · rename_i q; cases hc
      obtain ⟨u, h1, h2⟩ := ty_ok (K := X.K) S.sub hx q
      exact ⟨_, _, _, _, _, rfl, .ty _, h1, h2 _ _ q, y'.val S (.bl _)⟩
    · rename_i q
      have hc : some false = some c := hc
      cases hc
      obtain ⟨u, h1, h2⟩ := ty_ok (K := X.K) S.sub hx q
      exact ⟨_, _, _, _, _, rfl, .ty _, h1, h2 _ _ q, y'.val S (.bl _)⟩
    · cases hc
theorem s_isiT {t : Ty} {ts : List Ty} {us : List Expr} {x1 : Nat} (xx : XOk L B KK k N s X) (hg : glB s "isinstance" = true) (hp : plB ea = true) (ht : tyB s (t :: ts) us = true) (hl : (t :: ts).length ≤ 100) (ha : PE X ea (tE B z W' fa)) : PE X (.Call (.Name "isinstance" p) [ea, .Tuple us x1 p2] [] pos) (tE B z W' fun e => un1 (fun x => bl (isTys (t :: ts) x)) (fa e)) := by
  refine snd_un1 (rr := fun x H Q => ∀ q, H q = none → rIsiT X.K [x, .ref q] (upd H q (.tup ((t :: ts).map fun t => V.ty (tyN t)))) Q) ha (fun {ta} ha => ?_) fun G H e σ v x r1 Q S hx h y' => ?_
  · have A : PA X [ea, .Tuple us x1 p2] (tCons ta (tCons (tTup fun σ H Q => Q ((t :: ts).map fun t => V.ty (tyN t)) H) tNil)) := pa_cons ha (pa_cons (pe_tup (tyNames xx ht)) pa_nil (star_pl rfl)) (star_pl hp)
    refine pe_imp (pe_callB call_isiT (gl_of xx hg) (xx.wd.bi _ (by decide)) (by decide +kernel) A (by decide) (by decide) (star_pl hp) (one_pl rfl)) fun σ H Q h => ?_
    have hln : ((t :: ts).map fun t => V.ty (tyN t)).length ≤ sizeLine := by
      rw [List.length_map, sizeLine_eq]
      exact Nat.le_trans hl (by decide)
    have ff : (fun v H1 => ∀ q, H1 q = none → rIsiT X.K [v, .ref q] (upd H1 q (.tup ((t :: ts).map fun t => V.ty (tyN t)))) Q) = fun x H1 => (tCons (tTup fun σ H Q => Q ((t :: ts).map fun t => V.ty (tyN t)) H) tNil) σ H1 fun xs H2 => rIsiT X.K (x :: xs) H2 Q := by
      funext v H1
      exact propext ⟨fun h => ⟨hln, h⟩, fun h => h.2⟩
    have h : ta σ H (fun v H1 => ∀ q, H1 q = none → rIsiT X.K [v, .ref q] (upd H1 q (.tup ((t :: ts).map fun t => V.ty (tyN t)))) Q) := h
    rw [ff] at h
    exact h
  · obtain ⟨c, hc, rfl⟩ := bl_some h
    intro q hq
    have hq0 := hc
    unfold isTys at hc
    have : ∃ c0, isTy t x = some c0 := by
      split at hc
      · rename_i q; exact ⟨_, q⟩
      · rename_i q; exact ⟨_, q⟩
      · cases hc
    obtain ⟨c0, h0⟩ := this
    obtain ⟨S', F, g⟩ := S.made (o := .tup ((t :: ts).map fun t => V.ty (tyN t))) hq
    have hx' : RdW B (upd G q (.tup ((t :: ts).map fun t => V.ty (tyN t)))) (upd H q (.tup ((t :: ts).map fun t => V.ty (tyN t)))) x v := by
      rcases hx with hx | ⟨a, o, rfl, ha, hr, mu⟩
      · exact .inl (Rep.mono F.g _ _ hx)
      · exact .inr ⟨a, o, rfl, by rw [upd_ne (ne_of_none ha hq)]; exact ha, hr.mono F.g, mu⟩
    obtain ⟨u, h1, h2⟩ := ty_ok (K := X.K) S'.sub hx' h0
    exact ⟨_, _, _, _, _, _, rfl, upd_same, paired_ty _, h1, tys_ok h2 hq0, y' _ _ _ F S' (.bl _) fun _ _ q => by cases q⟩

/-! ### ranges -/
theorem rangeL_rg : ∀ (a : Int) (n : Nat), rangeL a n = (List.range n).map fun i => W.int (a + (i : Nat))
  | a, 0 => rfl
  | a, n + 1 => by
    unfold rangeL
    rw [rangeL_rg (a + 1) n, List.range_succ_eq_map, List.map_cons, List.map_map]
    congr 1
    · simp
    · apply List.map_congr_left
      intro i _
      simp only [Function.comp, Nat.succ_eq_add_one]
      congr 1
      push_cast
      omega
theorem reps_map {α : Type} (f : α → W) (g : α → V) (h : ∀ x, Rep B G (f x) (g x)) : ∀ l : List α, Reps B G (l.map f) (l.map g)
  | [] => .nil
  | x :: l => .cons (h x) (reps_map f g h l)
theorem big_62 {i : Int} (h : big i = true) : -(2 ^ 62) ≤ i ∧ i < 2 ^ 62 := by
  unfold big at h
  rw [Bool.and_eq_true, decide_eq_true_eq, decide_eq_true_eq] at h
  constructor <;> omega
theorem rngS_ok {l : List W} (hx : RdW B G H x v) (h : rngS x = some l) : ∃ n, v = .int n ∧ RgOk 0 n ∧ Reps B G l (rgV 0 n) := by
  unfold rngS at h
  split at h
  · rename_i n
    split at h
    · rename_i c
      cases h
      rw [Bool.and_eq_true, decide_eq_true_eq] at c
      have b := big_62 c.1
      refine ⟨n, hx.int, ⟨by decide, by decide, b.1, b.2, by omega⟩, ?_⟩
      unfold rgV
      rw [rangeL_rg, Int.sub_zero]
      exact reps_map _ _ (fun i => .int _) _
    · cases h
  · cases h
theorem s_lrng (xx : XOk L B KK k N s X) (hg : glB s "list" = true) (hg2 : glB s "range" = true) (hp : plB ea = true) (ha : PE X ea (tE B z W' fa)) {p' pos' : Pos} : PE X (.Call (.Name "list" p) [.Call (.Name "range" p') [ea] [] pos'] [] pos) (tE B z W' fun e => un1 (fun x => (rngS x).map fun l => .f (.lst l)) (fa e)) :=
  snd_un1 (rr := fun x H Q => ∃ n, x = .int n ∧ RgOk 0 n ∧ ∀ q, H q = none → Q (.ref q) (upd H q (.lst (rgV 0 n)))) ha (fun ha => pe_listRg xx.calm (gl_of xx hg) (xx.wd.bi _ (by decide)) (prg_1 (gl_of xx hg2) (xx.wd.bi _ (by decide)) ha (star_pl hp))) fun G H e σ v x r1 Q S hx h y' => by
    cases hc : rngS x with
    | none => rw [hc] at h; cases h
    | some l =>
      rw [hc] at h; cases h
      obtain ⟨n, h1, h2, h3⟩ := rngS_ok hx hc
      exact ⟨n, h1, h2, fun q hq => y'.new S hq (.lst h3) rfl⟩
theorem s_trng (xx : XOk L B KK k N s X) (hg : glB s "tuple" = true) (hg2 : glB s "range" = true) (hp : plB ea = true) (ha : PE X ea (tE B z W' fa)) {p' pos' : Pos} : PE X (.Call (.Name "tuple" p) [.Call (.Name "range" p') [ea] [] pos'] [] pos) (tE B z W' fun e => un1 (fun x => (rngS x).map fun l => .w (.tup l)) (fa e)) :=
  snd_un1 (rr := fun x H Q => ∃ n, x = .int n ∧ RgOk 0 n ∧ ∀ q, H q = none → Q (.ref q) (upd H q (.tup (rgV 0 n)))) ha (fun ha => pe_tupRg xx.calm (gl_of xx hg) (xx.wd.bi _ (by decide)) (prg_1 (gl_of xx hg2) (xx.wd.bi _ (by decide)) ha (star_pl hp))) fun G H e σ v x r1 Q S hx h y' => by
    cases hc : rngS x with
    | none => rw [hc] at h; cases h
    | some l =>
      rw [hc] at h; cases h
      obtain ⟨n, h1, h2, h3⟩ := rngS_ok hx hc
      exact ⟨n, h1, h2, fun q hq => y'.fix S hq (.tup h3)⟩
end Iv
end

section
set_option Elab.async false
set_option linter.all false
set_option maxRecDepth 100000
namespace Iv
open PySem L2
set_option autoImplicit false
variable {B : Bd} {z : Option Addr} {G H G' H' G0 H0 G1 H1 : Hp} {e e' e0 e1 e2 : En} {σ σ' σ1 : St} {w x y : W} {v v1 v2 : V} {a : Addr} {r r1 : R1} {Q Q' : VK} {W' : WX}
variable {L : Lx} {T : Tb} {KK : Nat → List Sl → RF} {k : Nat} {N : List Str} {s : Sx} {X : Cx} {fa fb fc : En → RE R1} {ea eb ec : Expr} {pos p p2 : Pos} {tg : Expr}

/-! ### what is walked -/
theorem seqI_post {α : Type} {f : RE R1} {kk : Bool × List W → En → RE α} {Pp : RE α → Prop} {QE : VK} (herr : ¬ Pp .err) (hexn : ∀ x e1, Pp (.exn x e1) → ∀ G' H' cls d, Fr G H e σ G' H' e1 σ → StOk B z G' H' e1 σ → ExR B G' H' x cls d → W' cls d σ H')
    (h : Pp (itE (seqI f) kk)) (hk : ∀ q e1 G1 H1 v, Fr G H e σ G1 H1 e1 σ → StOk B z G1 H1 e1 σ → (∃ a vs, v = .ref a ∧ G1 a = some (if q.1 = true then .lst vs else .tup vs) ∧ Reps B G1 q.2 vs) → Pp (kk q e1) → QE v H1) : PostE B z W' σ G H e f QE := by
  cases f with
  | err => exact absurd h herr
  | exn x e1 => exact fun G' H' cls d F S R => hexn x e1 h G' H' cls d F S R
  | ok r e1 =>
    intro G1 H1 v F S R n
    unfold seqI at h
    dsimp only at h
    cases hi : itemsW r e1 with
    | none => rw [hi] at h; exact absurd h herr
    | some q =>
      rw [hi] at h
      unfold itemsW at hi
      split at hi
      · rename_i xs e2 hu
        cases hi
        obtain ⟨G2, F2, S2, R2⟩ := use_ok F S R n hu
        obtain ⟨b, vs, rfl, hb, rs⟩ := Rep.lst R2
        exact hk _ _ G2 H1 _ F2 S2 ⟨b, vs, rfl, by simpa using hb, rs⟩ h
      · rename_i xs e2 hu
        cases hi
        obtain ⟨G2, F2, S2, R2⟩ := use_ok F S R n hu
        obtain ⟨b, vs, rfl, hb, rs⟩ := Rep.tup R2
        exact hk _ _ G2 H1 _ F2 S2 ⟨b, vs, rfl, by simpa using hb, rs⟩ h
      · cases hi
theorem asItems_seq {f : RE R1} {R : It → Hp → Prop} (h : PostI B z W' σ G H e (asItems f) R) (hl : ∀ rs e1, f ≠ .ok (.l rs) e1) : PostI B z W' σ G H e (itE (seqI f) fun q e => .ok q.2 e) R := by
  cases f with
  | err => exact h
  | exn x e1 => exact h
  | ok r e1 =>
    cases r with
    | w w => exact h
    | s i => exact h
    | f w => exact h
    | l rs => exact absurd rfl (hl rs e1)
theorem s_piV (ha : PE X ea (tE B z W' fa)) : PI X tg ea (tI B z W' fun e => asItems (fa e)) := by
  refine pi_imp (pi_seq ha) fun σ H R ⟨G, e, S, h⟩ => ⟨G, e, S, ?_⟩
  by_cases hl : ∃ rs e1, fa e = .ok (.l rs) e1
  · obtain ⟨rs, e1, hl⟩ := hl
    rw [hl]
    exact fun G1 H1 v F S R n => R.elim
  · have h := asItems_seq h fun rs e1 q => hl ⟨rs, e1, q⟩
    refine seqI_post (Pp := fun r => PostI B z W' σ G H e r R) (fun q => q) (fun _ _ q => q) h fun q e1 G1 H1 v F S1 hv hp => ?_
    obtain ⟨a, vs, rfl, hG, rs⟩ := hv
    refine ⟨a, rfl, ?_⟩
    cases hq : q.1 with
    | true =>
      rw [hq, if_pos rfl] at hG
      exact .inl ⟨⟨vs, .of (S1.sub _ _ hG)⟩, hp G1 H1 _ F S1 (walk_list hG rs)⟩
    | false =>
      rw [hq, if_neg (by decide)] at hG
      exact .inr ⟨⟨vs, .of (S1.sub _ _ hG)⟩, hp G1 H1 _ F S1 (walk_tup hG rs)⟩
theorem rangeL_length : ∀ (a : Int) (n : Nat), (rangeL a n).length = n
  | _, 0 => rfl
  | a, n + 1 => by unfold rangeL; rw [List.length_cons, rangeL_length]
theorem rangeL_get : ∀ (a : Int) (n i : Nat) (w : W), (rangeL a n)[i]? = some w → w = .int (a + i)
  | _, 0, i, w, h => by simp [rangeL] at h
  | a, n + 1, 0, w, h => by simp [rangeL] at h; rw [← h]; simp
  | a, n + 1, i + 1, w, h => by
    unfold rangeL at h
    rw [List.getElem?_cons_succ] at h
    rw [rangeL_get (a + 1) n i w h]
    congr 1
    push_cast
    omega
theorem rangeC_length : ∀ (a c : Int) (n : Nat), (rangeC a c n).length = n
  | _, _, 0 => rfl
  | a, c, n + 1 => by unfold rangeC; rw [List.length_cons, rangeC_length]
theorem rangeC_get : ∀ (a : Int) (n i : Nat) (w : W), (rangeC a (-1) n)[i]? = some w → w = .int (a + (i : Nat) * (-1))
  | _, 0, i, w, h => by simp [rangeC] at h
  | a, n + 1, 0, w, h => by simp [rangeC] at h; rw [← h]; simp
  | a, n + 1, i + 1, w, h => by
    unfold rangeC at h
    rw [List.getElem?_cons_succ] at h
    rw [rangeC_get (a + -1) n i w h]
    congr 1
    push_cast
    omega
theorem walk_rng {lo : Int} {n : Nat} : WalkOk B G (rangeL lo n) (Itr lo n) where
  go := fun i G' H s1 s2 hi => by rw [rangeL_length] at hi; exact hi
  stop := fun i G' H s1 s2 hi => by rw [rangeL_length] at hi; exact hi
  yld := fun i G' H u H' z e σ w s1 S y hw => by
    obtain ⟨rfl, rfl⟩ := y
    rw [rangeL_get _ _ _ _ hw]
    exact ⟨G', .refl, S, .int _⟩
theorem walk_rngC {lo : Int} {n : Nat} : WalkOk B G (rangeC lo (-1) n) (Itc lo (-1) n) where
  go := fun i G' H s1 s2 hi => by rw [rangeC_length] at hi; exact hi
  stop := fun i G' H s1 s2 hi => by rw [rangeC_length] at hi; exact hi
  yld := fun i G' H u H' z e σ w s1 S y hw => by
    obtain ⟨rfl, rfl⟩ := y
    rw [rangeC_get _ _ _ _ hw]
    exact ⟨G', .refl, S, .int _⟩
theorem wsOf_map : ∀ xs : List W, wsOf (xs.map R1.w) = some xs
  | [] => rfl
  | x :: xs => by rw [List.map_cons]; unfold wsOf; rw [wsOf_map xs]
theorem asItems_l (xs : List W) (e : En) : asItems (.ok (.l (xs.map .w)) e) = .ok xs e := by
  show (match wsOf (xs.map .w) with | some ws => RE.ok ws e | none => .err) = _
  rw [wsOf_map]
theorem s_rng1 (xx : XOk L B KK k N s X) (hg : glB s "range" = true) (hp : plB ea = true) (ha : PE X ea (tE B z W' fa)) : PI X tg (.Call (.Name "range" p) [ea] [] pos) (tI B z W' fun e => asItems (un1 (fun x => lOf (rngF x)) (fa e))) := by
  refine pi_imp (pi_range1 (gl_of xx hg) (xx.wd.bi _ (by decide)) (pa_cons ha pa_nil (star_pl hp)) (star_pl hp)) fun σ H R ⟨G, e, S, h⟩ => ⟨G, e, S, ?_⟩
  dsimp only at h
  cases hf : fa e with
  | err => rw [hf] at h; exact h
  | exn x e1 => rw [hf] at h; exact h
  | ok r e1 =>
    rw [hf] at h
    intro G1 H1 v F S1 R' n
    unfold un1 at h
    dsimp only at h
    split at h
    · rename_i x hx
      have rd := peek_ok S1 R' hx
      unfold lOf rngF at h
      split at h
      · rename_i m
        split at h
        · rename_i hb
          have h : PostI B z W' σ G H e (asItems (.ok (.l ((rangeL 0 m.toNat).map .w)) e1)) R := h
          rw [asItems_l] at h
          have b := big_62 hb
          exact ⟨m, by rw [rd.int], b.1, b.2, h G1 H1 _ F S1 walk_rng⟩
        · exact h.elim
      · exact h.elim
    · exact h.elim
theorem s_rng2 (xx : XOk L B KK k N s X) (hg : glB s "range" = true) (hp : plB ea = true) (hp2 : plB eb = true) (ha : PE X ea (tE B z W' fa)) (hb : PE X eb (tE B z W' fb)) : PI X tg (.Call (.Name "range" p) [ea, eb] [] pos) (tI B z W' fun e => asItems (un2 (fun x y => lOf (rng2F x y)) (fa e) fb)) := by
  refine pi_imp (pi_range2 (gl_of xx hg) (xx.wd.bi _ (by decide)) (pa_cons ha (pa_cons hb pa_nil (star_pl hp2)) (star_pl hp)) (by rw [star_pl hp, star_pl hp2]; rfl) (star_pl hp2)) fun σ H R ⟨G, e, S, h⟩ => ⟨G, e, S, ?_⟩
  dsimp only at h
  cases hf : fa e with
  | err => rw [hf] at h; exact h
  | exn x e1 => rw [hf] at h; exact h
  | ok r e1 =>
    rw [hf] at h
    intro G1 H1 v F S1 R' n
    refine ⟨G1, e1, S1, ?_⟩
    have h := PostI.up F h
    unfold un2 at h
    dsimp only at h
    cases hf2 : fb e1 with
    | err => rw [hf2] at h; exact h
    | exn x e1 => rw [hf2] at h; exact h
    | ok r2 e2 =>
      rw [hf2] at h
      intro G2 H2 v2 F2 S2 R2 n2
      dsimp only at h
      split at h
      · rename_i x y hx hy
        have rx := peek_ok S2 (R'.fr F2) hx
        have ry := peek_ok S2 R2 hy
        unfold lOf rng2F at h
        split at h
        · rename_i i j
          split at h
          · rename_i hb
            rw [Bool.and_eq_true] at hb
            have h : PostI B z W' σ G1 H1 e1 (asItems (.ok (.l ((rangeL i (j - i).toNat).map .w)) e2)) R := h
            rw [asItems_l] at h
            have b := big_62 hb.1
            have b2 := big_62 hb.2
            exact ⟨i, j, by rw [rx.int, ry.int], ⟨b.1, b.2, b2.1, b2.2⟩, h G2 H2 _ F2 S2 walk_rng⟩
          · exact h.elim
        · exact h.elim
      · exact h.elim
theorem s_rng3 (xx : XOk L B KK k N s X) (hg : glB s "range" = true) (hp : plB ea = true) (hp2 : plB eb = true) (hp3 : plB ec = true) (ha : PE X ea (tE B z W' fa)) (hb : PE X eb (tE B z W' fb)) (hc : PE X ec (tE B z W' fc)) :
    PI X tg (.Call (.Name "range" p) [ea, eb, ec] [] pos) (tI B z W' fun e => asItems (un3 (fun x y z => lOf (rng3F x y z)) (fa e) fb fc)) := by
  refine pi_imp (pi_range3 (gl_of xx hg) (xx.wd.bi _ (by decide)) (pa_cons ha (pa_cons hb (pa_cons hc pa_nil (star_pl hp3)) (star_pl hp2)) (star_pl hp)) (star_pl hp) (one_pl (by simp [hp2, hp3]))) fun σ H R ⟨G, e, S, h⟩ => ⟨G, e, S, ?_⟩
  dsimp only at h
  cases hf : fa e with
  | err => rw [hf] at h; exact h
  | exn x e1 => rw [hf] at h; exact h
  | ok r e1 =>
    rw [hf] at h
    intro G1 H1 v F S1 R' n
    refine ⟨G1, e1, S1, ?_⟩
    have h := PostI.up F h
    unfold un3 at h
    dsimp only at h
    cases hf2 : fb e1 with
    | err => rw [hf2] at h; exact h
    | exn x e1 => rw [hf2] at h; exact h
    | ok r2 e2 =>
      rw [hf2] at h
      intro G2 H2 v2 F2 S2 R2 n2
      refine ⟨G2, e2, S2, ?_⟩
      dsimp only at h
      cases hf3 : fc e2 with
      | err => rw [hf3] at h; exact h
      | exn x e1 => rw [hf3] at h; exact PostI.up (r := .exn _ _) F2 h
      | ok r3 e3 =>
        rw [hf3] at h
        intro G3 H3 v3 F3 S3 R3 n3
        dsimp only at h
        split at h
        · rename_i x y z' hx hy hz
          have rx := peek_ok S3 (R'.fr (F2.trans F3)) hx
          have ry := peek_ok S3 (R2.fr F3) hy
          have rz := peek_ok S3 R3 hz
          unfold lOf rng3F at h
          split at h
          · rename_i i j c
            split at h
            · rename_i hb
              rw [Bool.and_eq_true, Bool.and_eq_true] at hb
              have hcc : c = -1 := by have := hb.2; simpa using this
              subst hcc
              have h : PostI B z W' σ G1 H1 e1 (asItems (.ok (.l ((rangeC i (-1) (i - j).toNat).map .w)) e3)) R := h
              rw [asItems_l] at h
              have b := big_62 hb.1.1
              have b2 := big_62 hb.1.2
              exact ⟨i, j, -1, (i - j).toNat, by rw [rx.int, ry.int, rz.int], RgC.neg b.1 b.2 b2.1 b2.2, h G3 H3 _ (F2.trans F3) S3 walk_rngC⟩
            · exact h.elim
          · exact h.elim
        · exact h.elim
theorem num_length : ∀ (k : Int) (xs : List W), (num k xs).length = xs.length
  | _, [] => rfl
  | k, x :: xs => by unfold num; rw [List.length_cons, num_length, List.length_cons]
theorem num_get : ∀ (k : Int) (xs : List W) (i : Nat) (w : W), (num k xs)[i]? = some w → ∃ x, xs[i]? = some x ∧ w = .tup [.int (k + i), x]
  | _, [], i, w, h => by simp [num] at h
  | k, x :: xs, 0, w, h => by simp [num] at h; exact ⟨x, rfl, by rw [← h]; simp⟩
  | k, x :: xs, i + 1, w, h => by
    unfold num at h
    rw [List.getElem?_cons_succ] at h
    obtain ⟨y, h1, h2⟩ := num_get (k + 1) xs i w h
    refine ⟨y, by simpa using h1, ?_⟩
    rw [h2]
    congr 2
    congr 1
    push_cast
    omega
theorem pair_made {G2 H2 : Hp} {x1 x2 : W} {u1 u2 : V} {T : Addr} (S : StOk B z G2 H2 e σ) (hT : H2 T = none) (r1 : Rep B G2 x1 u1) (r2 : Rep B G2 x2 u2) :
    ∃ G3, Fr G2 H2 e σ G3 (upd H2 T (.tup [u1, u2])) e σ ∧ StOk B z G3 (upd H2 T (.tup [u1, u2])) e σ ∧ Rep B G3 (.tup [x1, x2]) (.ref T) := by
  obtain ⟨S', F, q⟩ := S.made (o := .tup [u1, u2]) hT
  exact ⟨_, F, S', .obj q (.tup (.cons (Rep.mono F.g _ _ r1) (.cons (Rep.mono F.g _ _ r2) .nil)))⟩
theorem walk_enumL {K : PySem.W.Frag} {ws : List W} {vs : List V} (ha : G a = some (.lst vs)) (rs : Reps B G ws vs) : WalkOk B G (num 0 ws) (Ite K a) where
  go := fun i G' H s1 s2 hi => by rw [num_length] at hi; exact ⟨vs, vs[i]'(by rw [← rs.length]; exact hi), .of (s2 _ _ (s1 _ _ ha)), by simp⟩
  stop := fun i G' H s1 s2 hi => by rw [num_length] at hi; exact ⟨vs, .of (s2 _ _ (s1 _ _ ha)), by rw [← rs.length]; exact hi⟩
  yld := fun i G' H u H' z e σ w s1 S y hw => by
    obtain ⟨T, x, rfl, hT, rfl, y⟩ := y
    obtain ⟨x', h1, rfl⟩ := num_get _ _ _ _ hw
    obtain ⟨v, h3, h4⟩ := rs.get h1
    have := y vs (.of (S.sub _ _ (s1 _ _ ha)))
    rw [h3] at this; cases this
    rw [Int.zero_add]
    exact pair_made S hT (.int _) (Rep.mono s1 _ _ h4)
theorem walk_enumT {K : PySem.W.Frag} {ws : List W} {vs : List V} (ha : G a = some (.tup vs)) (rs : Reps B G ws vs) : WalkOk B G (num 0 ws) (IteT K a) where
  go := fun i G' H s1 s2 hi => by rw [num_length] at hi; exact ⟨vs, vs[i]'(by rw [← rs.length]; exact hi), .of (s2 _ _ (s1 _ _ ha)), by simp⟩
  stop := fun i G' H s1 s2 hi => by rw [num_length] at hi; exact ⟨vs, .of (s2 _ _ (s1 _ _ ha)), by rw [← rs.length]; exact hi⟩
  yld := fun i G' H u H' z e σ w s1 S y hw => by
    obtain ⟨T, x, rfl, hT, rfl, y⟩ := y
    obtain ⟨x', h1, rfl⟩ := num_get _ _ _ _ hw
    obtain ⟨v, h3, h4⟩ := rs.get h1
    have := y vs (.of (S.sub _ _ (s1 _ _ ha)))
    rw [h3] at this; cases this
    rw [Int.zero_add]
    exact pair_made S hT (.int _) (Rep.mono s1 _ _ h4)
theorem asItems_it {f : RE R1} {kk : Bool × List W → En → RE R1} : asItems (itE (seqI f) kk) = itE (seqI f) fun q e => asItems (kk q e) := by
  cases seqI f <;> rfl
theorem s_enu {elts : List Expr} {j : Nat} (xx : XOk L B KK k N s X) (hg : glB s "enumerate" = true) (hp : plB ea = true) (ha : PE X ea (tE B z W' fa)) : PI X (.Tuple elts j p2) (.Call (.Name "enumerate" p) [ea] [] pos) (tI B z W' fun e => asItems (itE (seqI (fa e)) fun q e' => walked (num 0 q.2) e')) := by
  refine pi_imp (pi_enumA (gl_of xx hg) (xx.wd.bi _ (by decide)) (pa_cons ha pa_nil (star_pl hp)) (star_pl hp)) fun σ H R ⟨G, e, S, h⟩ => ⟨G, e, S, ?_⟩
  dsimp only at h
  rw [asItems_it] at h
  refine seqI_post (Pp := fun r => PostI B z W' σ G H e r R) (fun q => q) (fun _ _ q => q) h fun q e1 G1 H1 v F S1 hv hp => ?_
  obtain ⟨a, vs, rfl, hG, rs⟩ := hv
  have hp : PostI B z W' σ G H e (asItems (.ok (.l ((num 0 q.2).map .w)) e1)) R := hp
  rw [asItems_l] at hp
  refine ⟨a, vs, rfl, ?_⟩
  cases hq : q.1 with
  | true =>
    rw [hq, if_pos rfl] at hG
    exact .inl ⟨.of (S1.sub _ _ hG), hp G1 H1 _ F S1 (walk_enumL hG rs)⟩
  | false =>
    rw [hq, if_neg (by decide)] at hG
    exact .inr ⟨.of (S1.sub _ _ hG), hp G1 H1 _ F S1 (walk_enumT hG rs)⟩
theorem zipL_get : ∀ (xs ys : List W) (i : Nat) (w : W), (zipL xs ys)[i]? = some w → ∃ x y, xs[i]? = some x ∧ ys[i]? = some y ∧ w = .tup [x, y]
  | [], _, i, w, h => by simp [zipL] at h
  | _ :: _, [], i, w, h => by simp [zipL] at h
  | x :: xs, y :: ys, 0, w, h => by simp [zipL] at h; exact ⟨x, y, rfl, rfl, h.symm⟩
  | x :: xs, y :: ys, i + 1, w, h => by
    unfold zipL at h
    rw [List.getElem?_cons_succ] at h
    simpa using zipL_get xs ys i w h
theorem zipL_length : ∀ (xs ys : List W), (zipL xs ys).length = min xs.length ys.length
  | [], _ => by simp [zipL]
  | _ :: _, [] => by simp [zipL]
  | x :: xs, y :: ys => by unfold zipL; rw [List.length_cons, zipL_length, List.length_cons, List.length_cons]; omega
theorem walk_zipL {K : PySem.W.Frag} {b : Addr} {ws us : List W} {vs ts : List V} (ha : G a = some (.lst vs)) (rs : Reps B G ws vs) (hb : G b = some (.lst ts)) (rt : Reps B G us ts) : WalkOk B G (zipL ws us) (Itz K a b) where
  go := fun i G' H s1 s2 hi => by
    rw [zipL_length] at hi
    exact ⟨vs, ts, vs[i]'(by rw [← rs.length]; omega), ts[i]'(by rw [← rt.length]; omega), .of (s2 _ _ (s1 _ _ ha)), .of (s2 _ _ (s1 _ _ hb)), by simp, by simp⟩
  stop := fun i G' H s1 s2 hi => by
    rw [zipL_length] at hi
    exact ⟨vs, ts, .of (s2 _ _ (s1 _ _ ha)), .of (s2 _ _ (s1 _ _ hb)), by rw [← rs.length, ← rt.length]; omega⟩
  yld := fun i G' H u H' z e σ w s1 S y hw => by
    obtain ⟨T, x, x2, rfl, hT, rfl, y1, y2⟩ := y
    obtain ⟨x', x2', h1, h2, rfl⟩ := zipL_get _ _ _ _ hw
    obtain ⟨v, h3, h4⟩ := rs.get h1
    obtain ⟨v2, h5, h6⟩ := rt.get h2
    have t1 := y1 vs (.of (S.sub _ _ (s1 _ _ ha)))
    rw [h3] at t1; cases t1
    have t2 := y2 ts (.of (S.sub _ _ (s1 _ _ hb)))
    rw [h5] at t2; cases t2
    exact pair_made S hT (Rep.mono s1 _ _ h4) (Rep.mono s1 _ _ h6)
theorem walk_zipT {K : PySem.W.Frag} {b : Addr} {ws us : List W} {vs ts : List V} (ha : G a = some (.tup vs)) (rs : Reps B G ws vs) (hb : G b = some (.tup ts)) (rt : Reps B G us ts) : WalkOk B G (zipL ws us) (RZ.ItzT K a b) where
  go := fun i G' H s1 s2 hi => by
    rw [zipL_length] at hi
    exact ⟨vs, ts, vs[i]'(by rw [← rs.length]; omega), ts[i]'(by rw [← rt.length]; omega), .of (s2 _ _ (s1 _ _ ha)), .of (s2 _ _ (s1 _ _ hb)), by simp, by simp⟩
  stop := fun i G' H s1 s2 hi => by
    rw [zipL_length] at hi
    exact ⟨vs, ts, .of (s2 _ _ (s1 _ _ ha)), .of (s2 _ _ (s1 _ _ hb)), by rw [← rs.length, ← rt.length]; omega⟩
  yld := fun i G' H u H' z e σ w s1 S y hw => by
    obtain ⟨T, x, x2, rfl, hT, rfl, y1, y2⟩ := y
    obtain ⟨x', x2', h1, h2, rfl⟩ := zipL_get _ _ _ _ hw
    obtain ⟨v, h3, h4⟩ := rs.get h1
    obtain ⟨v2, h5, h6⟩ := rt.get h2
    have t1 := y1 vs (.of (S.sub _ _ (s1 _ _ ha)))
    rw [h3] at t1; cases t1
    have t2 := y2 ts (.of (S.sub _ _ (s1 _ _ hb)))
    rw [h5] at t2; cases t2
    exact pair_made S hT (Rep.mono s1 _ _ h4) (Rep.mono s1 _ _ h6)
theorem s_zip {elts : List Expr} {j : Nat} (xx : XOk L B KK k N s X) (hg : glB s "zip" = true) (hp : plB ea = true) (hp2 : plB eb = true) (ha : PE X ea (tE B z W' fa)) (hb : PE X eb (tE B z W' fb)) :
    PI X (.Tuple elts j p2) (.Call (.Name "zip" p) [ea, eb] [] pos) (tI B z W' fun e => asItems (itE (seqI (fa e)) fun q e1 => itE (seqI (fb e1)) fun q2 e2 => if q.1 == q2.1 then walked (zipL q.2 q2.2) e2 else .err)) := by
  refine pi_imp (RZ.pi_zipA (gl_of xx hg) (xx.wd.bi _ (by decide)) (pa_cons ha (pa_cons hb pa_nil (star_pl hp2)) (star_pl hp)) (star_pl hp) (one_pl (by simp [hp2]))) fun σ H R ⟨G, e, S, h⟩ => ⟨G, e, S, ?_⟩
  dsimp only at h
  rw [asItems_it] at h
  refine seqI_post (Pp := fun r => PostI B z W' σ G H e r R) (fun q => q) (fun _ _ q => q) h fun q e1 G1 H1 v F S1 hv hp => ?_
  refine ⟨G1, e1, S1, ?_⟩
  rw [asItems_it] at hp
  have hp := PostI.up F hp
  refine seqI_post (Pp := fun r => PostI B z W' σ G1 H1 e1 r R) (fun q => q) (fun _ _ q => q) hp fun q2 e2 G2 H2 v2 F2 S2 hv2 hp2 => ?_
  obtain ⟨a, vs, rfl, hG, rs⟩ := hv
  obtain ⟨b, ts, rfl, hG2, rt⟩ := hv2
  split at hp2
  · rename_i hk
    have hk : q.1 = q2.1 := by simpa using hk
    have hp2 : PostI B z W' σ G1 H1 e1 (asItems (.ok (.l ((zipL q.2 q2.2).map .w)) e2)) R := hp2
    rw [asItems_l] at hp2
    refine ⟨a, b, vs, ts, rfl, ?_⟩
    have hG := F2.g _ _ hG
    have rs := Reps.mono F2.g _ _ rs
    cases hq : q.1 with
    | true =>
      rw [hq, if_pos rfl] at hG
      rw [← hk, hq, if_pos rfl] at hG2
      exact .inl ⟨.of (S2.sub _ _ hG), .of (S2.sub _ _ hG2), hp2 G2 H2 _ F2 S2 (walk_zipL hG rs hG2 rt)⟩
    | false =>
      rw [hq, if_neg (by decide)] at hG
      rw [← hk, hq, if_neg (by decide)] at hG2
      exact .inr ⟨.of (S2.sub _ _ hG), .of (S2.sub _ _ hG2), hp2 G2 H2 _ F2 S2 (walk_zipT hG rs hG2 rt)⟩
  · exact hp2.elim
end Iv
end

section
set_option Elab.async false
set_option linter.all false
set_option maxRecDepth 100000
namespace Iv
open PySem L2
set_option autoImplicit false
variable {B : Bd} {z : Option Addr} {G H G' H' G0 H0 G1 H1 G2 H2 : Hp} {e e' e0 e1 e2 : En} {σ σ' σ0 σ1 σ2 : St} {w x y : W} {v v1 v2 : V} {a D : Addr} {r r1 : R1} {Q Q' : VK} {W' : WX} {own : List Nat}
variable {L : Lx} {T : Tb} {KK : Nat → List Sl → RF} {k : Nat} {N : List Str} {s : Sx} {X : Cx} {fa fb fc : En → RE R1} {ea eb ec : Expr} {pos p p2 : Pos} {tg : Expr}

/-! ### slots that are set -/
theorem wipeE_len (e : En) : ∀ own : List Nat, (wipeE e own).length = e.length
  | [] => rfl
  | v :: vs => by unfold wipeE; rw [List.length_set, wipeE_len e vs]
theorem wipeE_out {i : Nat} : ∀ {own : List Nat}, i ∉ own → (wipeE e own)[i]? = e[i]?
  | [], _ => rfl
  | v :: vs, h => by
    simp only [List.mem_cons, not_or] at h
    unfold wipeE
    rw [List.getElem?_set_ne (Ne.symm h.1), wipeE_out h.2]
theorem wipeE_in {i : Nat} (hl : i < e.length) : ∀ {own : List Nat}, i ∈ own → (wipeE e own)[i]? = some .n
  | v :: vs, h => by
    unfold wipeE
    by_cases hv : v = i
    · subst hv
      rw [List.getElem?_set_self (by rw [wipeE_len]; exact hl)]
    · rw [List.getElem?_set_ne hv]
      rcases List.mem_cons.mp h with h | h
      · exact absurd h.symm hv
      · exact wipeE_in hl h
theorem wipe_out' {i : Nat} : ∀ {own : List Nat}, i ∉ own → (wipe σ own)[i]? = σ[i]?
  | [], _ => rfl
  | v :: vs, h => by
    simp only [List.mem_cons, not_or] at h
    unfold wipe
    rw [List.getElem?_set_ne (Ne.symm h.1), wipe_out' h.2]
theorem wipe_in' {i : Nat} (hl : i < σ.length) : ∀ {own : List Nat}, i ∈ own → (wipe σ own)[i]? = some none
  | v :: vs, h => by
    unfold wipe
    by_cases hv : v = i
    · subst hv
      rw [List.getElem?_set_self (by rw [wipe_length]; exact hl)]
    · rw [List.getElem?_set_ne hv]
      rcases List.mem_cons.mp h with h | h
      · exact absurd h.symm hv
      · exact wipe_in' hl h
theorem backE_len (e s : En) : ∀ own : List Nat, (backE e s own).length = e.length
  | [] => rfl
  | v :: vs => by unfold backE; rw [List.length_set, backE_len e s vs]
theorem backE_out {s : En} {i : Nat} : ∀ {own : List Nat}, i ∉ own → (backE e s own)[i]? = e[i]?
  | [], _ => rfl
  | v :: vs, h => by
    simp only [List.mem_cons, not_or] at h
    unfold backE
    rw [List.getElem?_set_ne (Ne.symm h.1), backE_out h.2]
theorem backE_in {s : En} {i : Nat} (hl : i < e.length) (hs : i < s.length) : ∀ {own : List Nat}, i ∈ own → (backE e s own)[i]? = s[i]?
  | v :: vs, h => by
    unfold backE
    by_cases hv : v = i
    · subst hv
      rw [List.getElem?_set_self (by rw [backE_len]; exact hl), List.getD_eq_getElem?_getD, List.getElem?_eq_getElem hs]; rfl
    · rw [List.getElem?_set_ne hv]
      rcases List.mem_cons.mp h with h | h
      · exact absurd h.symm hv
      · exact backE_in hl hs h

/-! ### targets -/
def ptIn : Pt → Nat → Prop
  | .n i, j => j = i
  | .t2 a b, j => ptIn a j ∨ ptIn b j
  | .t3 a b c, j => ptIn a j ∨ ptIn b j ∨ ptIn c j
theorem ptOwn_in : ∀ {p : Pt}, ptOwn own p = true → ∀ i, ptIn p i → i ∈ own
  | .n j, h, i, hi => by
    have hi : i = j := hi
    subst hi
    exact List.contains_iff_mem.mp h
  | .t2 a b, h, i, hi => by
    unfold ptOwn at h
    rw [Bool.and_eq_true] at h
    rcases hi with hi | hi
    · exact ptOwn_in h.1 i hi
    · exact ptOwn_in h.2 i hi
  | .t3 a b c, h, i, hi => by
    unfold ptOwn at h
    rw [Bool.and_eq_true, Bool.and_eq_true] at h
    rcases hi with hi | hi | hi
    · exact ptOwn_in h.1.1 i hi
    · exact ptOwn_in h.1.2 i hi
    · exact ptOwn_in h.2 i hi
structure Ch (is : Nat → Prop) (e : En) (σ : St) (e' : En) (σ' : St) : Prop where
  le : e'.length = e.length
  ls : σ'.length = σ.length
  out : ∀ i, ¬ is i → e'[i]? = e[i]? ∧ σ'[i]? = σ[i]?
  inn : ∀ i, is i → ∃ w, e'[i]? = some (.v w)
theorem Ch.comp {a b : Nat → Prop} (x : Ch a e σ e1 σ1) (y : Ch b e1 σ1 e2 σ2) : Ch (fun i => a i ∨ b i) e σ e2 σ2 where
  le := y.le.trans x.le
  ls := y.ls.trans x.ls
  out := fun i h => ⟨(y.out i fun q => h (.inr q)).1.trans (x.out i fun q => h (.inl q)).1, (y.out i fun q => h (.inr q)).2.trans (x.out i fun q => h (.inl q)).2⟩
  inn := fun i h => by
    by_cases hb : b i
    · exact y.inn i hb
    · rcases h with h | h
      · rw [(y.out i hb).1]; exact x.inn i h
      · exact absurd h hb
theorem Ch.ownAt {is : Nat → Prop} (x : Ch is e σ e' σ') {i : Nat} (h : OwnAt e' σ' i a) : OwnAt e σ i a ∧ ¬ is i := by
  obtain ⟨⟨w, c⟩, d⟩ := h
  have ni : ¬ is i := fun q => by
    obtain ⟨w', hw⟩ := x.inn i q
    rw [hw] at c
    rcases c with c | c <;> cases c
  obtain ⟨h1, h2⟩ := x.out i ni
  exact ⟨⟨⟨w, by rw [← h1]; exact c⟩, by rw [← h2]; exact d⟩, ni⟩
theorem Ch.owned {is : Nat → Prop} (x : Ch is e σ e' σ') (h : Owned e' σ' a) : Owned e σ a := let ⟨i, h⟩ := h; ⟨i, (x.ownAt h).1⟩
theorem Ch.fr {is : Nat → Prop} (x : Ch is e σ e' σ') : Fr G H e σ G H e' σ' := ⟨fun _ _ h => h, fun _ _ h _ => ⟨h, rfl⟩, fun _ h => h, fun _ h => .inl (x.owned h)⟩
theorem store_st {i : Nat} (S : StOk B z G H e σ) (r : Rep B G w v) (h : store i (.v w) e = some e') : StOk B z G H e' (σ.set i (some v)) ∧ Ch (fun j => j = i) e σ e' (σ.set i (some v)) := by
  unfold store at h
  have hl : i < e.length ∧ e' = e.set i (.v w) := by
    split at h
    · cases h
    · rename_i hq
      cases h
      exact ⟨(List.getElem?_eq_some_iff.mp hq).1, rfl⟩
    · cases h
  obtain ⟨hl, rfl⟩ := hl
  have hls : i < σ.length := by rw [← S.len]; exact hl
  have ch : Ch (fun j => j = i) e σ (e.set i (.v w)) (σ.set i (some v)) := by
    refine ⟨List.length_set, List.length_set, fun j hj => ?_, fun j hj => ?_⟩
    · exact ⟨List.getElem?_set_ne (Ne.symm hj), List.getElem?_set_ne (Ne.symm hj)⟩
    · subst hj; exact ⟨w, List.getElem?_set_self hl⟩
  refine ⟨⟨S.sub, by rw [List.length_set, List.length_set]; exact S.len, fun j q hq => ?_, fun j l b hj hk => S.inj j l b (ch.ownAt hj).1 (ch.ownAt hk).1, S.zin⟩, ch⟩
  by_cases hj : j = i
  · subst hj
    rw [List.getElem?_set_self hl] at hq
    cases hq
    exact ⟨_, List.getElem?_set_self hls, v, rfl, r⟩
  · rw [List.getElem?_set_ne (Ne.symm hj)] at hq ⊢
    exact S.sl j q hq
def gPt (B : Bd) (z : Option Addr) (pt : Pt) : TG := fun v σ H Q => ∃ G e w e', StOk B z G H e σ ∧ Rep B G w v ∧ bindP pt w e = some e' ∧ ∀ σ', StOk B z G H e' σ' → Ch (ptIn pt) e σ e' σ' → Q σ' H
theorem pg_imp {t t' : TG} (h : PG X tg t) (k : ∀ v σ H Q, t' v σ H Q → t v σ H Q) : PG X tg t' := ⟨fun p s σ H v u Q I r q => h.run p s σ H v u Q I r (k v σ H Q q)⟩
theorem assignEach_pl {x : Expr} {xs : List Expr} {env : Env} (h : plB x = true) : assignEach (x :: xs) env = (false, assign x env) :: assignEach xs env := by
  cases x <;> first | rfl | (cases h)
theorem st_of {i : Nat} {y : Str} (xx : XOk L B KK k N s X) (h : stB N s i y = true) : X.N[i]? = some y ∧ Loc X.env.scope y ∧ (X.fn y = true ∨ X.env.scope.names.lookup y = some .local) := by
  unfold stB at h
  simp only [Bool.and_eq_true, Bool.or_eq_true, decide_eq_true_eq] at h
  refine ⟨by rw [xx.hN]; exact h.1, ?_, ?_⟩
  · rw [xx.hsc]
    rcases h.2 with q | q
    · exact .inl q
    · exact .inr q.1
  · rcases h.2 with q | q
    · exact .inr (by rw [xx.hsc]; exact q)
    · exact .inl (xx.sto y q.2)
theorem pg_pt (xx : XOk L B KK k N s X) : ∀ {pt : Pt} {tg : Expr}, ptB N s pt tg = true → PG X tg (gPt B z pt)
  | .n i, tg, h => by
    unfold ptB at h
    split at h
    · rename_i y q
      obtain ⟨h1, h2, h3⟩ := st_of xx h
      refine pg_imp (pg_name (by rw [xx.hN]; exact xx.nd) h1 h2 h3) fun v σ H Q ⟨G, e, w, e', S, r, hb, q⟩ => ?_
      obtain ⟨S', ch⟩ := store_st S r hb
      exact q _ S' ch
    · cases h
  | .t2 a b, tg, h => by
    unfold ptB at h
    split at h
    · rename_i p1 p2 _ _
      simp only [Bool.and_eq_true] at h
      have ga := pg_pt xx h.1.2
      have gb := pg_pt xx h.2
      have e1 : assignEach [p1, p2] X.env = [(false, assign p1 X.env), (false, assign p2 X.env)] := by rw [assignEach_pl h.1.1.1, assignEach_pl h.1.1.2]; rfl
      refine pg_imp (pg_tup xx.calm (pgs_cons ga (pgs_cons gb pgs_nil (by rw [assignEach_pl h.1.1.2]; rfl)) (by rw [e1, assignEach_pl h.1.1.2]; rfl)) (n := 2) (by rw [e1]; rfl) (by rw [e1]; rfl)) fun v σ H Q ⟨G, e, w, e', S, r, hb, q⟩ => ?_
      replace hb : two w (fun x y => match bindP a x e with | some e' => bindP b y e' | none => none) = some e' := hb
      unfold two at hb
      split at hb
      · rename_i x y
        dsimp only at hb
        obtain ⟨t, vs, rfl, ht, rs⟩ := Rep.tup r
        cases rs with
        | cons r1 rs =>
          cases rs with
          | cons r2 rs =>
            cases rs
            rename_i u1 u2
            split at hb
            · rename_i ee hb1
              refine ⟨t, [u1, u2], rfl, .of (S.sub _ _ ht), rfl, u1, [u2], rfl, G, e, x, ee, S, r1, hb1, fun σ1 S1 ch1 => ⟨u2, [], rfl, G, ee, y, e', S1, r2, hb, fun σ2 S2 ch2 => ⟨rfl, q σ2 S2 (ch1.comp ch2)⟩⟩⟩
            · cases hb
      · cases hb
    · cases h
  | .t3 a b c, tg, h => by
    unfold ptB at h
    split at h
    · rename_i p1 p2 p3 _ _
      simp only [Bool.and_eq_true] at h
      have ga := pg_pt xx h.1.1.2
      have gb := pg_pt xx h.1.2
      have gc := pg_pt xx h.2
      have l3 := h.1.1.1.2
      have l2 := h.1.1.1.1.2
      have l1 := h.1.1.1.1.1
      have e1 : assignEach [p1, p2, p3] X.env = [(false, assign p1 X.env), (false, assign p2 X.env), (false, assign p3 X.env)] := by rw [assignEach_pl l1, assignEach_pl l2, assignEach_pl l3]; rfl
      refine pg_imp (pg_tup xx.calm (pgs_cons ga (pgs_cons gb (pgs_cons gc pgs_nil (by rw [assignEach_pl l3]; rfl)) (by rw [assignEach_pl l2, assignEach_pl l3]; rfl)) (by rw [e1, assignEach_pl l2, assignEach_pl l3]; rfl)) (n := 3) (by rw [e1]; rfl) (by rw [e1]; rfl)) fun v σ H Q ⟨G, e, w, e', S, r, hb, q⟩ => ?_
      replace hb : three w (fun x y z => match bindP a x e with | some e' => (match bindP b y e' with | some e'' => bindP c z e'' | none => none) | none => none) = some e' := hb
      unfold three at hb
      split at hb
      · rename_i x y zz
        dsimp only at hb
        obtain ⟨t, vs, rfl, ht, rs⟩ := Rep.tup r
        cases rs with
        | cons r1 rs =>
          cases rs with
          | cons r2 rs =>
            cases rs with
            | cons r3 rs =>
              cases rs
              rename_i u1 u2 u3
              split at hb
              · rename_i ee hb1
                split at hb
                · rename_i ee2 hb2
                  refine ⟨t, [u1, u2, u3], rfl, .of (S.sub _ _ ht), rfl, u1, [u2, u3], rfl, G, e, x, ee, S, r1, hb1, fun σ1 S1 ch1 => ⟨u2, [u3], rfl, G, ee, y, ee2, S1, r2, hb2, fun σ2 S2 ch2 => ⟨u3, [], rfl, G, ee2, zz, e', S2, r3, hb, fun σ3 S3 ch3 => ⟨rfl, q σ3 S3 ?_⟩⟩⟩⟩
                  exact ch1.comp (ch2.comp ch3)
                · cases hb
              · cases hb
      · cases hb
    · cases h

/-! ### what nobody holds -/
structure FOk (B : Bd) (z : Option Addr) (G H : Hp) (e : En) (σ : St) (w : W) (D : Addr) : Prop where
  own : Own B G H w D
  no : ¬ Owned e σ D
  zn : z ≠ some D
/-- as Fr, all but D -/
structure FrD (D : Addr) (G H : Hp) (e : En) (σ : St) (G' H' : Hp) (e' : En) (σ' : St) : Prop where
  g : Sub G G'
  keep : ∀ a o, a ≠ D → H a = some o → ¬ Owned e σ a → H' a = some o ∧ G' a = G a
  tr : ∀ a, H a ≠ none → H' a ≠ none
  own : ∀ a, Owned e' σ' a → Owned e σ a ∨ H a = none
theorem Fr.d (F : Fr G H e σ G' H' e' σ') : FrD D G H e σ G' H' e' σ' := ⟨F.g, fun a o _ => F.keep a o, F.tr, F.own⟩
theorem FrD.fr (F : FrD D G H e σ G' H' e' σ') (h : H D = none) : Fr G H e σ G' H' e' σ' := ⟨F.g, fun a o q => F.keep a o (fun e => by rw [e, h] at q; cases q) q, F.tr, F.own⟩
theorem FrD.trans (x : FrD D G H e σ G1 H1 e1 σ1) (y : FrD D G1 H1 e1 σ1 G2 H2 e2 σ2) : FrD D G H e σ G2 H2 e2 σ2 where
  g := fun a o h => y.g a o (x.g a o h)
  keep := fun a o nd h n => by
    obtain ⟨h1, h2⟩ := x.keep a o nd h n
    have n1 : ¬ Owned e1 σ1 a := fun q => (x.own a q).elim n fun q => by rw [h] at q; cases q
    obtain ⟨h3, h4⟩ := y.keep a o nd h1 n1
    exact ⟨h3, h4.trans h2⟩
  tr := fun a h => y.tr a (x.tr a h)
  own := fun a h => by
    rcases y.own a h with h | h
    · exact x.own a h
    · refine .inr ?_
      cases q : H a with
      | none => rfl
      | some o => exact absurd h (x.tr a (by rw [q]; exact fun z => nomatch z))
theorem FOk.fr (f : FOk B z G H e σ w D) (F : Fr G H e σ G' H' e' σ') : FOk B z G' H' e' σ' w D := ⟨f.own.fr f.no F, F.notOwned f.no f.own.there, f.zn⟩
theorem FOk.ch {is : Nat → Prop} (f : FOk B z G H e σ w D) (c : Ch is e σ e' σ') : FOk B z G H e' σ' w D := f.fr c.fr
/-- it is changed -/
theorem FOk.mut {w' : W} {o' : HO} (S : StOk B z G H e σ) (f : FOk B z G H e σ w D) (h : HoRep B G w' o') (mu : isMut w' = true) :
    StOk B z G (upd H D o') e σ ∧ FOk B z G (upd H D o') e σ w' D ∧ FrD D G H e σ G (upd H D o') e σ := by
  have hg := f.own.no
  refine ⟨⟨fun b u q => ?_, S.len, fun i s q => ?_, S.inj, fun b q => ?_⟩, ⟨⟨⟨o', upd_same, h⟩, hg, mu⟩, f.no, f.zn⟩, ⟨fun _ _ q => q, fun b u nd q n => ⟨by rw [upd_ne nd]; exact q, rfl⟩, fun b q => ?_, fun b q => .inl q⟩⟩
  · rw [upd_ne (ne_of_none q hg)]; exact S.sub b u q
  · obtain ⟨x, h1, h2⟩ := S.sl i s q
    refine ⟨x, h1, ?_⟩
    have ow : ∀ w b, Own B G H w b → b ≠ D → Own B G (upd H D o') w b := fun w b x nb => by
      obtain ⟨u, q, r⟩ := x.ex
      exact ⟨⟨u, by rw [upd_ne nb]; exact q, r⟩, x.no, x.mu⟩
    cases s with
    | n => trivial
    | v w => exact h2
    | o w =>
      obtain ⟨b, rfl, h4, h5⟩ := h2
      exact ⟨b, rfl, ow _ _ h4 (fun e => f.no ⟨i, ⟨w, .inl q⟩, e ▸ h1⟩), h5⟩
    | p w =>
      obtain ⟨b, rfl, h4, h5⟩ := h2
      exact ⟨b, rfl, ow _ _ h4 (fun e => f.no ⟨i, ⟨w, .inr q⟩, e ▸ h1⟩), h5⟩
  · by_cases hb : b = D
    · subst hb; rw [upd_same]; exact fun q => by cases q
    · rw [upd_ne hb]; exact S.zin b q
  · by_cases hb : b = D
    · subst hb; rw [upd_same]; exact fun q => by cases q
    · rw [upd_ne hb]; exact q

/-! ### a block -/
theorem inner_in (S : StOk B z G H e σ) (own : List Nat) : StOk B z G H (wipeE e own) (wipe σ own) ∧ ∀ i a, OwnAt (wipeE e own) (wipe σ own) i a → OwnAt e σ i a ∧ i ∉ own := by
  have oa : ∀ i a, OwnAt (wipeE e own) (wipe σ own) i a → OwnAt e σ i a ∧ i ∉ own := by
    rintro i a ⟨⟨w, c⟩, d⟩
    by_cases hi : i ∈ own
    · have hl : i < e.length := by
        rw [← wipeE_len e own]
        rcases c with c | c <;> exact (List.getElem?_eq_some_iff.mp c).1
      rw [wipeE_in hl hi] at c
      rcases c with c | c <;> cases c
    · rw [wipeE_out hi] at c
      rw [wipe_out' hi] at d
      exact ⟨⟨⟨w, c⟩, d⟩, hi⟩
  refine ⟨⟨S.sub, by rw [wipeE_len, wipe_length]; exact S.len, fun i s q => ?_, fun i j a hi hj => S.inj i j a (oa i a hi).1 (oa j a hj).1, S.zin⟩, oa⟩
  by_cases hi : i ∈ own
  · have hl : i < e.length := by
      rw [← wipeE_len e own]
      exact (List.getElem?_eq_some_iff.mp q).1
    rw [wipeE_in hl hi] at q
    cases q
    exact ⟨none, wipe_in' (by rw [← S.len]; exact hl) hi, trivial⟩
  · rw [wipeE_out hi] at q
    rw [wipe_out' hi]
    exact S.sl i s q
theorem inner_out (S : StOk B z G H e σ) (nD : ¬ Owned e σ D) (le : e1.length = e.length) (ls : σ1.length = σ.length) (h1 : ∀ i, i ∉ own → e1[i]? = e[i]? ∧ σ1[i]? = σ[i]?) (h2 : ∀ i, i ∈ own → ∀ w, e1[i]? ≠ some (.o w) ∧ e1[i]? ≠ some (.p w))
    (F : FrD D G H e1 σ1 G' H' e2 σ1) (S2 : StOk B z G' H' e2 σ1) : StOk B z G' H' (backE e2 e own) σ ∧ FrD D G H e σ G' H' (backE e2 e own) σ := by
  have oa1 : ∀ i a, OwnAt e1 σ1 i a → OwnAt e σ i a ∧ i ∉ own := by
    rintro i a ⟨⟨w, c⟩, d⟩
    by_cases hi : i ∈ own
    · rcases c with c | c
      · exact absurd c (h2 i hi w).1
      · exact absurd c (h2 i hi w).2
    · obtain ⟨q1, q2⟩ := h1 i hi
      exact ⟨⟨⟨w, by rw [← q1]; exact c⟩, by rw [← q2]; exact d⟩, hi⟩
  have le2 : e2.length = e.length := by rw [S2.len, ls]; exact S.len.symm
  have oa2 : ∀ i a, OwnAt (backE e2 e own) σ i a → (i ∈ own ∧ OwnAt e σ i a) ∨ (i ∉ own ∧ OwnAt e2 σ1 i a) := by
    rintro i a ⟨⟨w, c⟩, d⟩
    by_cases hi : i ∈ own
    · have hl : i < e2.length := by
        rw [← backE_len e2 e own]
        rcases c with c | c <;> exact (List.getElem?_eq_some_iff.mp c).1
      rw [backE_in hl (by rw [← le2]; exact hl) hi] at c
      exact .inl ⟨hi, ⟨w, c⟩, d⟩
    · rw [backE_out hi] at c
      exact .inr ⟨hi, ⟨w, c⟩, by rw [(h1 i hi).2]; exact d⟩
  have own1 : ∀ a, Owned e1 σ1 a → Owned e σ a := fun a ⟨i, h⟩ => ⟨i, (oa1 i a h).1⟩
  have mix : ∀ i j a, i ∈ own → OwnAt e σ i a → j ∉ own → OwnAt e2 σ1 j a → False := by
    intro i j a hi ha hj hb
    rcases F.own a ⟨j, hb⟩ with ⟨l, q⟩ | q
    · obtain ⟨q1, q2⟩ := oa1 l a q
      exact q2 (S.inj i l a ha q1 ▸ hi)
    · obtain ⟨⟨w, c⟩, d⟩ := ha
      rcases c with c | c
      · obtain ⟨x, k1, b, rfl, k2, _⟩ := S.sl i _ c
        rw [d] at k1; cases k1
        exact k2.there q
      · obtain ⟨x, k1, b, rfl, k2, _⟩ := S.sl i _ c
        rw [d] at k1; cases k1
        exact k2.there q
  have kept : ∀ i w b, i ∈ own → (e[i]? = some (.o w) ∨ e[i]? = some (.p w)) → σ[i]? = some (some (.ref b)) → Own B G H w b → Own B G' H' w b := by
    intro i w b hi he hs o
    have nb : b ≠ D := fun q => nD ⟨i, ⟨w, he⟩, q ▸ hs⟩
    obtain ⟨ob, q, r⟩ := o.ex
    have n1 : ¬ Owned e1 σ1 b := fun ⟨l, q⟩ => by
      obtain ⟨q1, q2⟩ := oa1 l b q
      exact q2 (S.inj i l b ⟨⟨w, he⟩, hs⟩ q1 ▸ hi)
    obtain ⟨k1, k2⟩ := F.keep b ob nb q n1
    exact ⟨⟨ob, k1, r.mono F.g⟩, k2.trans o.no, o.mu⟩
  refine ⟨⟨S2.sub, by rw [backE_len, le2]; exact S.len, fun i q hq => ?_, fun i j b hi hj => ?_, S2.zin⟩, ⟨F.g, fun b o nd h n => F.keep b o nd h fun q => n (own1 b q), F.tr, fun b hb => ?_⟩⟩
  · by_cases hi : i ∈ own
    · have hl : i < e2.length := by
        rw [← backE_len e2 e own]
        exact (List.getElem?_eq_some_iff.mp hq).1
      rw [backE_in hl (by rw [← le2]; exact hl) hi] at hq
      obtain ⟨x, k1, k2⟩ := S.sl i q hq
      refine ⟨x, k1, ?_⟩
      cases q with
      | n => trivial
      | v w => obtain ⟨u, k3, k4⟩ := k2; exact ⟨u, k3, Rep.mono F.g _ _ k4⟩
      | o w => obtain ⟨b, rfl, k4, k5⟩ := k2; exact ⟨b, rfl, kept i w b hi (.inl hq) k1 k4, k5⟩
      | p w => obtain ⟨b, rfl, k4, k5⟩ := k2; exact ⟨b, rfl, kept i w b hi (.inr hq) k1 k4, k5⟩
    · rw [backE_out hi] at hq
      rw [← (h1 i hi).2]
      exact S2.sl i q hq
  · rcases oa2 i b hi with ⟨q1, q2⟩ | ⟨q1, q2⟩
    · rcases oa2 j b hj with ⟨q3, q4⟩ | ⟨q3, q4⟩
      · exact S.inj i j b q2 q4
      · exact (mix i j b q1 q2 q3 q4).elim
    · rcases oa2 j b hj with ⟨q3, q4⟩ | ⟨q3, q4⟩
      · exact (mix j i b q3 q4 q1 q2).elim
      · exact S2.inj i j b q2 q4
  · obtain ⟨i, hb⟩ := hb
    rcases oa2 i b hb with ⟨q1, q2⟩ | ⟨q1, q2⟩
    · exact .inl ⟨i, q2⟩
    · rcases F.own b ⟨i, q2⟩ with q | q
      · exact .inl (own1 b q)
      · exact .inr q
theorem wipe_eq {σ σ1 : St} (hl : σ1.length = σ.length) (h : ∀ i, i ∉ own → σ1[i]? = σ[i]?) : wipe σ1 own = wipe σ own := by
  refine List.ext_getElem? fun i => ?_
  by_cases hi : i ∈ own
  · by_cases hs : i < σ.length
    · rw [wipe_in' hs hi, wipe_in' (by rw [hl]; exact hs) hi]
    · rw [List.getElem?_eq_none (by rw [wipe_length]; omega), List.getElem?_eq_none (by rw [wipe_length]; omega)]
  · rw [wipe_out' hi, wipe_out' hi, h i hi]
end Iv
end

section
set_option Elab.async false
set_option linter.all false
set_option maxRecDepth 100000
namespace Iv
open PySem L2
set_option autoImplicit false
variable {B : Bd} {z : Option Addr} {G H G' H' G0 H0 G1 H1 G2 H2 : Hp} {e e' e0 e1 e2 : En} {σ σ' σ0 σ1 σ2 : St} {w x y : W} {v v1 v2 : V} {a D : Addr} {r r1 : R1} {Q Q' : VK} {W' : WX} {own own1 : List Nat}
variable {L : Lx} {T : Tb} {KK : Nat → List Sl → RF} {k : Nat} {N : List Str} {s : Sx} {X : Cx} {fa fb fc : En → RE R1} {ea eb ec : Expr} {pos p p2 : Pos} {tg : Expr} {pt pt1 : Pt}

abbrev W0 : WX := fun _ _ _ _ => False
def TurnF (g : TG) (tt : TT) (te : St → Hp → (Hp → Prop) → Prop) (own : List Nat) (x : V) (σ : St) (H' : Hp) (Nx : Hp → Prop) : Prop :=
  g x (wipe σ own) H' fun σ2 H2 => wipe σ2 own = wipe σ own ∧ tt σ2 H2 fun b H3 => if b = true then te σ2 H3 Nx else Nx H3
/-- what the element of a turn brings to the object at D -/
def ElOk {α : Type} (B : Bd) (z : Option Addr) (D : Addr) (mk : List α → W) (lt : List α → Prop) (f : En → RE (List α)) (te : St → Hp → (Hp → Prop) → Prop) : Prop :=
  ∀ (σ : St) (G H : Hp) (e : En) (acc ys : List α) (e' : En) (Nx : Hp → Prop), StOk B z G H e σ → FOk B z G H e σ (mk acc) D → f e = .ok ys e' → lt (acc ++ ys) →
    (∀ G' H', FrD D G H e σ G' H' e' σ → StOk B z G' H' e' σ → FOk B z G' H' e' σ (mk (acc ++ ys)) D → Nx H') → te σ H Nx
theorem FOk.imp {own' : List Nat} (f : FOk B z G H e1 σ1 w D) (h : ∀ a, Owned e2 σ2 a → Owned e1 σ1 a ∨ a ≠ D) : FOk B z G H e2 σ2 w D :=
  ⟨f.own, fun q => by rcases h D q with q | q; exact f.no q; exact q rfl, f.zn⟩
theorem turn_ok {α : Type} {mk : List α → W} {lt : List α → Prop} {el : En → RE (List α)} {te : St → Hp → (Hp → Prop) → Prop} {c : Option (En → RE R1)} {acc ys : List α} {xv : V} {Nx : Hp → Prop} (hel : ElOk B z D mk lt el te) (hown : ptOwn own pt = true) (S : StOk B z G H e σ) (fo : FOk B z G H e σ (mk acc) D) (rx : Rep B G x xv)
    (h : lcTurn own pt c el x e = .ok ys e') (hlt : lt (acc ++ ys)) (hn : ∀ G' H', FrD D G H e σ G' H' (backE e' e own) σ → StOk B z G' H' (backE e' e own) σ → FOk B z G' H' (backE e' e own) σ (mk (acc ++ ys)) D → Nx H') :
    TurnF (gPt B z pt) (tT B z W0 (condE c)) te own xv σ H Nx := by
  obtain ⟨Sw, ow⟩ := inner_in S own
  unfold lcTurn at h
  cases hb : bindP pt x (wipeE e own) with
  | none => rw [hb] at h; cases h
  | some e1 =>
    rw [hb] at h
    refine ⟨G, wipeE e own, x, e1, Sw, rx, hb, fun σ1 S1 ch => ?_⟩
    have ls : σ1.length = σ.length := ch.ls.trans (wipe_length σ own)
    have le : e1.length = e.length := ch.le.trans (wipeE_len e own)
    have h1 : ∀ i, i ∉ own → e1[i]? = e[i]? ∧ σ1[i]? = σ[i]? := fun i hi => by
      have q := ch.out i fun q => hi (ptOwn_in hown i q)
      exact ⟨q.1.trans (wipeE_out hi), q.2.trans (wipe_out' hi)⟩
    have h2 : ∀ i, i ∈ own → ∀ w, e1[i]? ≠ some (.o w) ∧ e1[i]? ≠ some (.p w) := fun i hi w => by
      by_cases q : ptIn pt i
      · obtain ⟨u, hu⟩ := ch.inn i q
        rw [hu]
        exact ⟨fun q => by (cases q), fun q => by (cases q)⟩
      · rw [(ch.out i q).1]
        by_cases hl : i < e.length
        · rw [wipeE_in hl hi]
          exact ⟨fun q => by (cases q), fun q => by (cases q)⟩
        · rw [List.getElem?_eq_none (by rw [wipeE_len]; omega)]
          exact ⟨fun q => by (cases q), fun q => by (cases q)⟩
    have fo1 : FOk B z G H e1 σ1 (mk acc) D := ⟨fo.own, fun q => by
      obtain ⟨i, q⟩ := ch.owned q
      exact fo.no ⟨i, (ow i D q).1⟩, fo.zn⟩
    refine ⟨wipe_eq ls fun i hi => (h1 i hi).2, G, e1, S1, ?_⟩
    dsimp only at h
    cases hc : condE c e1 with
    | err => rw [hc] at h; cases h
    | exn q e2 => rw [hc] at h; cases h
    | ok b e2 =>
      rw [hc] at h
      intro G2 H2 F2 S2
      cases b with
      | true =>
        rw [if_pos rfl]
        have h : el e2 = .ok ys e' := h
        refine hel σ1 G2 H2 e2 acc ys e' Nx S2 (fo1.fr F2) h hlt fun G3 H3 F3 S3 f3 => ?_
        obtain ⟨S4, F4⟩ := inner_out S fo.no le ls h1 h2 ((F2.d).trans F3) S3
        refine hn G3 H3 F4 S4 ⟨f3.own, fun q => ?_, f3.zn⟩
        rcases F4.own D q with q | q
        · exact fo.no q
        · exact fo.own.there q
      | false =>
        rw [if_neg (by decide)]
        have h : (RE.ok [] e2 : RE (List α)) = .ok ys e' := h
        cases h
        obtain ⟨S4, F4⟩ := inner_out S fo.no le ls h1 h2 (F2.d (D := D)) S2
        refine hn G2 H2 F4 S4 ⟨by rw [List.append_nil]; exact (fo1.fr F2).own, fun q => ?_, fo.zn⟩
        rcases F4.own D q with q | q
        · exact fo.no q
        · exact fo.own.there q
theorem el_lc {te : TE} {fel : En → RE R1} (hte : te = tE B z W0 fel) : ElOk B z D W.lst (fun l => l.length < lim) (lcEl fel) (fun σ H Nx => te σ H fun y H4 => ∃ acc, H4 D = some (.lst acc) ∧ acc.length < sizeLine ∧ Nx (upd H4 D (.lst (acc ++ [y])))) := by
  subst hte
  intro σ G H e acc ys e' Nx S fo h hlt hn
  refine ⟨G, e, S, ?_⟩
  unfold lcEl at h
  cases hf : fel e with
  | err => rw [hf] at h; cases h
  | exn q e2 => rw [hf] at h; cases h
  | ok r e2 =>
    rw [hf] at h
    intro G2 H2 y F2 S2 R2 n2
    dsimp only at h
    cases hu : use r e2 with
    | none => rw [hu] at h; cases h
    | some q =>
      obtain ⟨w, e3⟩ := q
      rw [hu] at h
      cases h
      obtain ⟨G3, F3, S3, R3⟩ := use_ok F2 S2 R2 n2 hu
      have f3 := fo.fr F3
      obtain ⟨o, ho, hr⟩ := f3.own.ex
      cases hr with
      | lst hr =>
        rename_i vs
        obtain ⟨S4, f4, F4⟩ := f3.mut (w' := .lst (acc ++ [w])) (o' := .lst (vs ++ [y])) S3 (.lst (hr.append (.cons R3 .nil))) rfl
        refine ⟨vs, ho, ?_, hn G3 _ (F3.d.trans F4) S4 f4⟩
        rw [← hr.length, ← lim_eq]
        rw [List.length_append] at hlt
        omega
theorem lt_pre {a b : List W} (h : (a ++ b).length < lim) : a.length < lim := by
  rw [List.length_append] at h; omega
/-- the loop over what is walked -/
theorem lcLoop_ok {α : Type} {mk : List α → W} {lt : List α → Prop} (hpre : ∀ a b, lt (a ++ b) → lt a) {xs : List W} {ws acc : List α} {J : It} {el : En → RE (List α)} {te : St → Hp → (Hp → Prop) → Prop} {c : Option (En → RE R1)} {Qf : Hp → Prop} (hel : ElOk B z D mk lt el te) (hown : ptOwn own pt = true) (S : StOk B z G0 H0 e0 σ) (fo : FOk B z G0 H0 e0 σ (mk acc) D) (wk : WalkOk B G0 xs J)
    (hl : lcLoop own (lcTurn own pt c el) xs e0 = .ok ws e2) (hlen : lt (acc ++ ws)) (fin : ∀ G' H', FrD D G0 H0 e0 σ G' H' e2 σ → StOk B z G' H' e2 σ → FOk B z G' H' e2 σ (mk (acc ++ ws)) D → Qf H') :
    ∃ Wk : Nat → Nat → Hp → Prop, (∃ m, Wk 0 m H0) ∧ ∀ i m H, Wk i m H → (J.stop i H ∧ Qf H) ∨ (J.go i H ∧ ∃ Nx : Hp → Prop, (∀ H', Nx H' → ∃ m', m' < m ∧ Wk (i + 1) m' H') ∧ ∀ x H', J.yld i H x H' → TurnF (gPt B z pt) (tT B z W0 (condE c)) te own x σ H' Nx) := by
  refine ⟨fun i m H => ∃ G e pre xs' acc' ws', xs = pre ++ xs' ∧ pre.length = i ∧ m = xs'.length ∧ StOk B z G H e σ ∧ FOk B z G H e σ (mk acc') D ∧ FrD D G0 H0 e0 σ G H e σ ∧ lcLoop own (lcTurn own pt c el) xs' e = .ok ws' e2 ∧ acc' ++ ws' = acc ++ ws,
    ⟨xs.length, G0, e0, [], xs, acc, ws, rfl, rfl, rfl, S, fo, Fr.refl.d, hl, rfl⟩, fun i m H hW => ?_⟩
  obtain ⟨G, e, pre, xs', acc', ws', hx, hi, hm, S1, f1, F1, h1, h2⟩ := hW
  cases xs' with
  | nil =>
    refine .inl ⟨wk.stop i G H F1.g S1.sub (by rw [hx, ← hi]; simp), ?_⟩
    unfold lcLoop at h1
    cases h1
    rw [List.append_nil] at h2
    subst h2
    exact fin G H F1 S1 f1
  | cons x xs' =>
    have hg : xs[i]? = some x := by rw [hx, ← hi]; simp
    refine .inr ⟨wk.go i G H F1.g S1.sub (by rw [hx, ← hi]; simp), _, fun H' h => h, fun u H' hy => ?_⟩
    obtain ⟨G2, F2, S2, R2⟩ := wk.yld i G H u H' z e σ x F1.g S1 hy hg
    unfold lcLoop at h1
    cases ht : lcTurn own pt c el x e with
    | err => rw [ht] at h1; cases h1
    | exn q e2 => rw [ht] at h1; cases h1
    | ok ys e3 =>
      rw [ht] at h1
      dsimp only at h1
      cases hr : lcLoop own (lcTurn own pt c el) xs' (backE e3 e own) with
      | err => rw [hr] at h1; cases h1
      | exn q e2 => rw [hr] at h1; cases h1
      | ok zs e4 =>
        rw [hr] at h1
        cases h1
        refine turn_ok hel hown S2 (f1.fr F2) R2 ht ?_ fun G3 H3 F3 S3 f3 => ?_
        · refine hpre _ zs ?_
          rw [List.append_assoc, h2]; exact hlen
        · exact ⟨xs'.length, by rw [hm]; exact Nat.lt_succ_self _, G3, backE e3 e own, pre ++ [x], xs', acc' ++ ys, zs, by rw [hx]; simp, by simp [hi], rfl, S3, f3, F1.trans (F2.d.trans F3), hr, by rw [← h2, List.append_assoc]⟩
/-- the inner loop as an element -/
theorem el_lc2 {wi1 : TI} {fi1 : En → RE (List W)} {el : En → RE (List W)} {te : St → Hp → (Hp → Prop) → Prop} {c1 : Option (En → RE R1)} (hwi : wi1 = tI B z W0 fi1) (hel : ElOk B z D W.lst (fun l => l.length < lim) el te) (hown : ptOwn own1 pt1 = true) :
    ElOk B z D W.lst (fun l => l.length < lim) (fun e1 => match fi1 e1 with | .ok ys e2 => lcLoop own1 (lcTurn own1 pt1 c1 el) ys e2 | _ => .err)
      (fun σ2 H3 Nx => wi1 σ2 H3 fun J1 H4 => ∃ W1 : Nat → Nat → Hp → Prop, (∃ m, W1 0 m H4) ∧ ∀ j k H, W1 j k H → (J1.stop j H ∧ Nx H) ∨ (J1.go j H ∧ ∃ Nx1 : Hp → Prop, (∀ H', Nx1 H' → ∃ k', k' < k ∧ W1 (j + 1) k' H') ∧ ∀ x H', J1.yld j H x H' → TurnF (gPt B z pt1) (tT B z W0 (condE c1)) te own1 x σ2 H' Nx1)) := by
  subst hwi
  intro σ G H e acc ys e' Nx S fo h hlt hn
  refine ⟨G, e, S, ?_⟩
  dsimp only at h
  cases hf : fi1 e with
  | err => rw [hf] at h; cases h
  | exn q e2 => rw [hf] at h; cases h
  | ok xs e2 =>
    rw [hf] at h
    intro G2 H2 J F2 S2 wk
    exact lcLoop_ok (fun _ _ => lt_pre) hel hown S2 (fo.fr F2) wk h hlt fun G3 H3 F3 S3 f3 => hn G3 H3 (F2.d.trans F3) S3 f3
theorem ownOf_snd (N : List Str) : ∀ own : List Nat, (ownOf N own).map (·.2) = own
  | [] => rfl
  | i :: r => by
    show i :: (ownOf N r).map (·.2) = i :: r
    rw [ownOf_snd N r]
theorem lc_post {fi : En → RE (List W)} {el : En → RE (List W)} {te : St → Hp → (Hp → Prop) → Prop} {c : Option (En → RE R1)} (hel : ∀ D, ElOk B z D W.lst (fun l => l.length < lim) el (fun σ H Nx => te σ H Nx)) (hown : ptOwn own pt = true)
    (S : StOk B z G H e σ) (h : PostE B z W' σ G H e (itE (lcRun own (fi e) (lcTurn own pt c el)) fun ws e' => .ok (.f (.lst ws)) e') Q) : PostI B z W' σ G H e (fi e) fun J H1 => True := by
  cases hf : fi e with
  | err => rw [hf] at h; exact h
  | exn q e2 => rw [hf] at h; exact h
  | ok xs e1 => exact fun _ _ _ _ _ _ => trivial
theorem lc_fin {fi : RE (List W)} {el : En → RE (List W)} {te : Addr → St → Hp → (Hp → Prop) → Prop} {c : Option (En → RE R1)} (hel : ∀ D, ElOk B z D W.lst (fun l => l.length < lim) el (te D)) (hown : ptOwn own pt = true)
    (h : PostE B z W' σ G H e (itE (lcRun own fi (lcTurn own pt c el)) fun ws e' => .ok (.f (.lst ws)) e') Q) : PostI B z W' σ G H e fi fun J H1 => ∀ D, H1 D = none → ∃ Wk : Nat → Nat → Hp → Prop, (∃ m, Wk 0 m (upd H1 D (.lst []))) ∧ ∀ i m H, Wk i m H →
      (J.stop i H ∧ Q (.ref D) H) ∨ (J.go i H ∧ ∃ Nx : Hp → Prop, (∀ H', Nx H' → ∃ m', m' < m ∧ Wk (i + 1) m' H') ∧ ∀ x H', J.yld i H x H' → TurnF (gPt B z pt) (tT B z W0 (condE c)) (te D) own x σ H' Nx) := by
  cases fi with
  | err => exact h
  | exn q e2 => exact h
  | ok xs e1 =>
    intro G1 H1 J F1 S1 wk D hD
    unfold lcRun at h
    dsimp only at h
    cases hl : lcLoop own (lcTurn own pt c el) xs e1 with
    | err => rw [hl] at h; exact h.elim
    | exn q e2 => rw [hl] at h; exact h.elim
    | ok ws e2 =>
      rw [hl] at h
      dsimp only at h
      split at h
      · rename_i hlen
        obtain ⟨S2, F2, hg, hno, hz⟩ := S1.laid (o := .lst []) hD
        refine lcLoop_ok (fun _ _ => lt_pre) (acc := []) (hel D) hown S2 ⟨⟨⟨_, upd_same, .lst .nil⟩, hg, rfl⟩, hno, hz⟩ wk hl (by simpa using hlen) fun G' H' F3 S3 f3 => ?_
        have F4 : Fr G1 H1 e1 σ G' H' e2 σ := (F2.d.trans F3).fr hD
        exact h G' H' _ (F1.trans F4) S3 ⟨D, rfl, by simpa using f3.own, f3.no, f3.zn⟩ fun w a q1 q2 => by cases q2; exact F1.free hD
      · exact h.elim
section
variable {elt iter iter1 tg1 : Expr} {ifs ifs1 : List Expr} {scope : Scope} {fi fi1 : En → RE (List W)} {c c1 : Option (En → RE R1)} {fel : En → RE R1}
theorem s_lc (xx : XOk L B KK k N s X) (hi : PI X tg iter (tI B z W' fi)) (ok : BlkOk X.N X.env.scope scope (ownOf N own)) (hown : ptOwn own pt = true)
    (hg : ∀ (s : Shared) (H : Hp) (C : Addr) (cl : List (Str × Addr)) (fp : List Addr), PG (X.blk s H scope (PySem.compEnvC scope cl C X.env) fp) tg (gPt B z pt))
    (ht : ∀ (s : Shared) (H : Hp) (C : Addr) (cl : List (Str × Addr)) (fp : List Addr), PTs (X.blk s H scope (PySem.compEnvC scope cl C X.env) fp) ifs (tT B z W0 (condE c)))
    (he : ∀ (s : Shared) (H : Hp) (C : Addr) (cl : List (Str × Addr)) (fp : List Addr), PE (X.blk s H scope (PySem.compEnvC scope cl C X.env) fp) elt (tE B z W0 fel)) (hs : plB iter = true) :
    PE X (.ListComp elt [⟨tg, iter, ifs, 0⟩] scope pos) (tE B z W' fun e => itE (lcRun own (fi e) (lcTurn own pt c (lcEl fel))) fun ws e' => .ok (.f (.lst ws)) e') := by
  refine pe_imp (pe_lc xx.calm (by rw [xx.hN]; exact xx.nd) hi ok hg ht he (fold_pl hs)) fun σ H Q ⟨G, e, S, h⟩ => ?_
  unfold tLc
  rw [ownOf_snd]
  exact ⟨G, e, S, lc_fin (fun D => el_lc rfl) hown h⟩
theorem s_lc2 (xx : XOk L B KK k N s X) (hi : PI X tg iter (tI B z W' fi)) (ok : BlkOk X.N X.env.scope scope (ownOf N own)) (hown : ptOwn own pt = true) (hown1 : ptOwn own1 pt1 = true) (hin : ∀ i ∈ own1, i ∈ own)
    (hg : ∀ (s : Shared) (H : Hp) (C : Addr) (cl : List (Str × Addr)) (fp : List Addr), PG (X.blk s H scope (PySem.compEnvC scope cl C X.env) fp) tg (gPt B z pt))
    (ht : ∀ (s : Shared) (H : Hp) (C : Addr) (cl : List (Str × Addr)) (fp : List Addr), PTs (X.blk s H scope (PySem.compEnvC scope cl C X.env) fp) ifs (tT B z W0 (condE c)))
    (hi1 : ∀ (s : Shared) (H : Hp) (C : Addr) (cl : List (Str × Addr)) (fp : List Addr), PI (X.blk s H scope (PySem.compEnvC scope cl C X.env) fp) tg1 iter1 (tI B z W0 fi1))
    (hg1 : ∀ (s : Shared) (H : Hp) (C : Addr) (cl : List (Str × Addr)) (fp : List Addr), PG (X.blk s H scope (PySem.compEnvC scope cl C X.env) fp) tg1 (gPt B z pt1))
    (ht1 : ∀ (s : Shared) (H : Hp) (C : Addr) (cl : List (Str × Addr)) (fp : List Addr), PTs (X.blk s H scope (PySem.compEnvC scope cl C X.env) fp) ifs1 (tT B z W0 (condE c1)))
    (he : ∀ (s : Shared) (H : Hp) (C : Addr) (cl : List (Str × Addr)) (fp : List Addr), PE (X.blk s H scope (PySem.compEnvC scope cl C X.env) fp) elt (tE B z W0 fel)) (hs : plB iter = true) (hs1 : plB iter1 = true) :
    PE X (.ListComp elt [⟨tg, iter, ifs, 0⟩, ⟨tg1, iter1, ifs1, 0⟩] scope pos) (tE B z W' fun e => itE (lcRun own (fi e) (lcTurn own pt c (fun e1 => match fi1 e1 with | .ok ys e2 => lcLoop own1 (lcTurn own1 pt1 c1 (lcEl fel)) ys e2 | _ => .err))) fun ws e' => .ok (.f (.lst ws)) e') := by
  refine pe_imp (pe_lc2 (vs1 := own1) xx.calm (by rw [xx.hN]; exact xx.nd) hi ok (by rw [ownOf_snd]; exact hin) hg ht hi1 hg1 ht1 he (fold_pl hs) (fun env => fold_pl hs1)) fun σ H Q ⟨G, e, S, h⟩ => ?_
  unfold tLc2
  rw [ownOf_snd]
  exact ⟨G, e, S, lc_fin (fun D => el_lc2 rfl (el_lc rfl) hown1) hown h⟩
end
end Iv
end

section
set_option Elab.async false
set_option linter.all false
set_option maxRecDepth 100000
namespace Iv
open PySem L2
set_option autoImplicit false
variable {B : Bd} {z : Option Addr} {G H G' H' G0 H0 G1 H1 G2 H2 : Hp} {e e' e0 e1 e2 : En} {σ σ' σ0 σ1 σ2 : St} {w x y : W} {v v1 v2 : V} {a D : Addr} {r r1 : R1} {Q Q' : VK} {W' : WX} {own own1 : List Nat}
variable {L : Lx} {T : Tb} {KK : Nat → List Sl → RF} {k : Nat} {N : List Str} {s : Sx} {X : Cx} {fa fb fc : En → RE R1} {ea eb ec : Expr} {pos p p2 : Pos} {tg : Expr} {pt pt1 : Pt}

/-! ### dicts that grow -/
theorem putV_ok {u : V} {ky : Ky} (ru : Rep B G w u) : ∀ {kvs : List (Key × V)} {ws : List W}, Reps B G ws (kvs.map (·.2)) →
    Reps B G (putV (kvs.map (·.1)) ws ky w) ((kvs.map fun kv => if kv.1 = ky then (kv.1, u) else kv).map (·.2)) ∧ (kvs.map fun kv => if kv.1 = ky then (kv.1, u) else kv).map (·.1) = kvs.map (·.1)
  | [], _, h => by cases h; exact ⟨.nil, rfl⟩
  | (k0, v0) :: kvs, _, h => by
    cases h with
    | cons q t =>
      obtain ⟨h1, h2⟩ := putV_ok (ky := ky) ru t
      simp only [List.map_cons, putV, kyEq_eq]
      by_cases hk : k0 = ky
      · simp only [hk, decide_true, if_true]
        exact ⟨.cons ru h1, by rw [← h2]⟩
      · simp only [hk, decide_false, Bool.false_eq_true, if_false]
        exact ⟨.cons q h1, by rw [← h2]⟩
theorem putK_ok {u : V} {ky : Ky} (ru : Rep B G w u) {kvs : List (Key × V)} {ws : List W} (h : Reps B G ws (kvs.map (·.2))) :
    (L2.putK kvs ky u).map (·.1) = (Iv.putK (kvs.map (·.1)) ws ky w).1 ∧ Reps B G (Iv.putK (kvs.map (·.1)) ws ky w).2 ((L2.putK kvs ky u).map (·.2)) := by
  unfold L2.putK Iv.putK
  have e : (kvs.map (·.1)).any (fun k => kyEq k ky) = kvs.any fun kv => decide (kv.1 = ky) := by
    rw [List.any_map]
    congr 1
    funext kv
    exact kyEq_eq _ _
  rw [e]
  split
  · obtain ⟨h1, h2⟩ := putV_ok (ky := ky) ru h
    exact ⟨h2, h1⟩
  · rw [List.map_append, List.map_append]
    exact ⟨rfl, h.append (.cons ru .nil)⟩
theorem putTV_ok {u : V} {ky : List Ky} (ru : Rep B G w u) : ∀ {kvs : List (List Key × V)} {ws : List W}, Reps B G ws (kvs.map (·.2)) →
    Reps B G (putTV (kvs.map (·.1)) ws ky w) ((kvs.map fun kv => if kv.1 = ky then (kv.1, u) else kv).map (·.2)) ∧ (kvs.map fun kv => if kv.1 = ky then (kv.1, u) else kv).map (·.1) = kvs.map (·.1)
  | [], _, h => by cases h; exact ⟨.nil, rfl⟩
  | (k0, v0) :: kvs, _, h => by
    cases h with
    | cons q t =>
      obtain ⟨h1, h2⟩ := putTV_ok (ky := ky) ru t
      simp only [List.map_cons, putTV, kysEq_eq]
      by_cases hk : k0 = ky
      · simp only [hk, decide_true, if_true]
        exact ⟨.cons ru h1, by rw [← h2]⟩
      · simp only [hk, decide_false, Bool.false_eq_true, if_false]
        exact ⟨.cons q h1, by rw [← h2]⟩
theorem putT_ok {u : V} {ky : List Ky} (ru : Rep B G w u) {kvs : List (List Key × V)} {ws : List W} (h : Reps B G ws (kvs.map (·.2))) :
    (L2.putK kvs ky u).map (·.1) = (Iv.putT (kvs.map (·.1)) ws ky w).1 ∧ Reps B G (Iv.putT (kvs.map (·.1)) ws ky w).2 ((L2.putK kvs ky u).map (·.2)) := by
  unfold L2.putK Iv.putT
  have e : (kvs.map (·.1)).any (fun k => kysEq k ky) = kvs.any fun kv => decide (kv.1 = ky) := by
    rw [List.any_map]
    congr 1
    funext kv
    exact kysEq_eq _ _
  rw [e]
  split
  · obtain ⟨h1, h2⟩ := putTV_ok (ky := ky) ru h
    exact ⟨h2, h1⟩
  · rw [List.map_append, List.map_append]
    exact ⟨rfl, h.append (.cons ru .nil)⟩
def mkD (l : List (W × W)) : W := match dGo l [] [] with
  | some (ks, vs) => .dK ks vs
  | none => .non
def ltD (l : List (W × W)) : Prop := (dGo l [] []).isSome = true
def dThen (q : Option (List Ky × List W)) (b : List (W × W)) : Option (List Ky × List W) := match q with
  | some q => dGo b q.1 q.2
  | none => none
theorem dGo_cons {x y : W} {a : List (W × W)} {ks : List Ky} {vs : List W} : dGo ((x, y) :: a) ks vs = match toKy x with
    | some k => if ks.length < lim then dGo a (putK ks vs k y).1 (putK ks vs k y).2 else none
    | none => none := rfl
theorem dGo_app : ∀ (a b : List (W × W)) (ks : List Ky) (vs : List W), dGo (a ++ b) ks vs = dThen (dGo a ks vs) b
  | [], b, ks, vs => rfl
  | (x, y) :: a, b, ks, vs => by
    rw [List.cons_append, dGo_cons, dGo_cons]
    cases toKy x with
    | none => rfl
    | some k =>
      dsimp only
      by_cases c : ks.length < lim
      · rw [if_pos c, if_pos c]; exact dGo_app a b _ _
      · rw [if_neg c, if_neg c]; rfl
theorem ltD_pre {a b : List (W × W)} (h : ltD (a ++ b)) : ltD a := by
  unfold ltD at h ⊢
  rw [dGo_app] at h
  cases hq : dGo a [] [] with
  | none => rw [hq] at h; cases h
  | some q => rfl
theorem el_dc {tk tv : TE} {fk fv : En → RE R1} (hk : tk = tE B z W0 fk) (hv : tv = tE B z W0 fv) : ElOk B z D mkD ltD (dcEl fk fv) (fun σ H Nx => tk σ H fun y H4 => tv σ H4 fun z H5 => ∃ kvs k, y = kV k ∧ H5 D = some (.dK kvs) ∧ kvs.length < sizeLine ∧ Nx (upd H5 D (.dK (L2.putK kvs k z)))) := by
  subst hk hv
  intro σ G H e acc ys e' Nx S fo h hlt hn
  refine ⟨G, e, S, ?_⟩
  unfold dcEl at h
  cases hf : fk e with
  | err => rw [hf] at h; cases h
  | exn q e2 => rw [hf] at h; cases h
  | ok r e2 =>
    rw [hf] at h
    intro G2 H2 y F2 S2 R2 n2
    dsimp only at h
    cases hu : use r e2 with
    | none => rw [hu] at h; cases h
    | some q =>
      obtain ⟨wa, e3⟩ := q
      rw [hu] at h
      dsimp only at h
      obtain ⟨G3, F3, S3, R3⟩ := use_ok F2 S2 R2 n2 hu
      refine ⟨G3, e3, S3, ?_⟩
      cases hf2 : fv e3 with
      | err => rw [hf2] at h; cases h
      | exn q e2 => rw [hf2] at h; cases h
      | ok r2 e4 =>
        rw [hf2] at h
        intro G4 H4 u F4 S4 R4 n4
        dsimp only at h
        cases hu2 : use r2 e4 with
        | none => rw [hu2] at h; cases h
        | some q =>
          obtain ⟨wb, e5⟩ := q
          rw [hu2] at h
          cases h
          obtain ⟨G5, F5, S5, R5⟩ := use_ok F4 S4 R4 n4 hu2
          have f5 := (fo.fr F3).fr F5
          have hl0 := hlt
          unfold ltD at hlt
          rw [dGo_app] at hlt
          cases hq : dGo acc [] [] with
          | none => rw [hq] at hlt; cases hlt
          | some q =>
            obtain ⟨ks, vs⟩ := q
            rw [hq] at hlt
            replace hlt : (dGo ((wa, wb) :: []) ks vs).isSome = true := hlt
            rw [dGo_cons] at hlt
            cases hky : toKy wa with
            | none => rw [hky] at hlt; cases hlt
            | some ky =>
              rw [hky] at hlt
              dsimp only at hlt
              by_cases c : ks.length < lim
              · have e6 : mkD acc = .dK ks vs := by unfold mkD; rw [hq]
                have e7 : mkD (acc ++ [(wa, wb)]) = .dK (Iv.putK ks vs ky wb).1 (Iv.putK ks vs ky wb).2 := by
                  unfold mkD
                  rw [dGo_app, hq]
                  show (match dGo ((wa, wb) :: []) ks vs with | some (ks, vs) => W.dK ks vs | none => W.non) = _
                  rw [dGo_cons, hky]
                  dsimp only
                  rw [if_pos c]
                  rfl
                rw [e6] at f5
                obtain ⟨o, ho, hr⟩ := f5.own.ex
                cases hr with
                | dK q hr =>
                  rename_i kvs
                  subst q
                  obtain ⟨p1, p2⟩ := putK_ok (ky := ky) R5 hr
                  obtain ⟨S6, f6, F6⟩ := f5.mut (w' := .dK (Iv.putK (kvs.map (·.1)) vs ky wb).1 (Iv.putK (kvs.map (·.1)) vs ky wb).2) (o' := .dK (L2.putK kvs ky u)) S5 (.dK p1 p2) rfl
                  refine ⟨kvs, ky, toKy_ok hky (show RdW B G3 G3 wa y from .inl R3), ho, ?_, hn G5 _ ((F3.trans F5).d.trans F6) S6 (by rw [e7]; exact f6)⟩
                  rw [List.length_map] at c
                  rw [← lim_eq]; exact c
              · rw [if_neg c] at hlt; cases hlt
section
variable {kx vx iter iter1 tg1 : Expr} {ifs ifs1 : List Expr} {scope : Scope} {fi fi1 : En → RE (List W)} {c c1 : Option (En → RE R1)} {fk fv : En → RE R1}
theorem s_dc (xx : XOk L B KK k N s X) (hi : PI X tg iter (tI B z W' fi)) (ok : BlkOk X.N X.env.scope scope (ownOf N own)) (hown : ptOwn own pt = true)
    (hg : ∀ (s : Shared) (H : Hp) (C : Addr) (cl : List (Str × Addr)) (fp : List Addr), PG (X.blk s H scope (PySem.compEnvC scope cl C X.env) fp) tg (gPt B z pt))
    (ht : ∀ (s : Shared) (H : Hp) (C : Addr) (cl : List (Str × Addr)) (fp : List Addr), PTs (X.blk s H scope (PySem.compEnvC scope cl C X.env) fp) ifs (tT B z W0 (condE c)))
    (hk : ∀ (s : Shared) (H : Hp) (C : Addr) (cl : List (Str × Addr)) (fp : List Addr), PE (X.blk s H scope (PySem.compEnvC scope cl C X.env) fp) kx (tE B z W0 fk))
    (he : ∀ (s : Shared) (H : Hp) (C : Addr) (cl : List (Str × Addr)) (fp : List Addr), PE (X.blk s H scope (PySem.compEnvC scope cl C X.env) fp) vx (tE B z W0 fv)) (hs : plB iter = true) :
    PE X (.DictComp kx vx [⟨tg, iter, ifs, 0⟩] scope pos) (tE B z W' fun e => dcRun own (fi e) (lcTurn own pt c (dcEl fk fv))) := by
  refine pe_imp (pe_dc xx.calm (by rw [xx.hN]; exact xx.nd) hi ok hg ht hk he (fold_pl hs)) fun σ H Q ⟨G, e, S, h⟩ => ?_
  unfold tDc
  rw [ownOf_snd]
  refine ⟨G, e, S, ?_⟩
  dsimp only at h
  cases hf : fi e with
  | err => rw [hf] at h; exact h
  | exn q e2 => rw [hf] at h; exact h
  | ok xs e1 =>
    rw [hf] at h
    intro G1 H1 J F1 S1 wk D hD
    unfold dcRun at h
    dsimp only at h
    cases hl : lcLoop own (lcTurn own pt c (dcEl fk fv)) xs e1 with
    | err => rw [hl] at h; exact h.elim
    | exn q e2 => rw [hl] at h; exact h.elim
    | ok ws e2 =>
      rw [hl] at h
      dsimp only at h
      split at h
      · rename_i ks vs hd
        obtain ⟨S2, F2, hg2, hno, hz⟩ := S1.laid (o := .dK []) hD
        refine lcLoop_ok (fun _ _ => ltD_pre) (acc := []) (mk := mkD) (lt := ltD) (el_dc rfl rfl) hown S2 ⟨⟨⟨_, upd_same, .dK (kvs := []) rfl .nil⟩, hg2, rfl⟩, hno, hz⟩ wk hl ?_ fun G' H' F3 S3 f3 => ?_
        · unfold ltD; rw [List.nil_append, hd]; rfl
        · have F4 : Fr G1 H1 e1 σ G' H' e2 σ := (F2.d.trans F3).fr hD
          have e5 : mkD ([] ++ ws) = .dK ks vs := by unfold mkD; rw [List.nil_append, hd]
          rw [e5] at f3
          exact h G' H' _ (F1.trans F4) S3 ⟨D, rfl, f3.own, f3.no, f3.zn⟩ fun w a q1 q2 => by cases q2; exact F1.free hD
      · exact h.elim
end

/-! ### calls -/
theorem StOk.call0 (S : StOk B z G H e σ) (F : FrC none G H G' H') : StOk B z G' H' e σ ∧ Fr G H e σ G' H' e σ := by
  have ow : ∀ w b, Own B G H w b → Own B G' H' w b := fun w b x => by
    obtain ⟨u, q, r⟩ := x.ex
    obtain ⟨h1, h2⟩ := F.keep b u q (fun z => by cases z)
    exact ⟨⟨u, h1, r.mono F.g⟩, h2.trans x.no, x.mu⟩
  refine ⟨⟨F.h, S.len, fun i s q => ?_, S.inj, fun b q => F.tr b (S.zin b q)⟩, ⟨F.g, fun b o q _ => F.keep b o q (fun z => by cases z), F.tr, fun b q => .inl q⟩⟩
  obtain ⟨x, h1, h2⟩ := S.sl i s q
  refine ⟨x, h1, ?_⟩
  cases s with
  | n => trivial
  | v w => obtain ⟨v, h3, h4⟩ := h2; exact ⟨v, h3, Rep.mono F.g _ _ h4⟩
  | o w => obtain ⟨b, h3, h4, h5⟩ := h2; exact ⟨b, h3, ow _ _ h4, h5⟩
  | p w => obtain ⟨b, h3, h4, h5⟩ := h2; exact ⟨b, h3, ow _ _ h4, h5⟩
theorem StOk.call1 (S : StOk B z G H e σ) {i : Nat} {w' : W} {s' : Sl} (hi : (e[i]? = some (.o w) ∧ s' = .o w') ∨ (e[i]? = some (.p w) ∧ s' = .p w')) (ha : σ[i]? = some (some (.ref a))) (F : FrC (some a) G H G' H') (o : Own B G' H' w' a) :
    StOk B z G' H' (e.set i s') σ ∧ Fr G H e σ G' H' (e.set i s') σ := by
  have hl : i < e.length := by rcases hi with ⟨h, _⟩ | ⟨h, _⟩ <;> exact (List.getElem?_eq_some_iff.mp h).1
  have oi : OwnAt e σ i a := ⟨⟨w, by rcases hi with ⟨h, _⟩ | ⟨h, _⟩; exact .inl h; exact .inr h⟩, ha⟩
  have oa : ∀ j b, OwnAt (e.set i s') σ j b → OwnAt e σ j b := by
    rintro j b ⟨⟨u, c⟩, d⟩
    by_cases hj : j = i
    · subst hj
      rw [ha] at d; cases d
      exact oi
    · rw [List.getElem?_set_ne (Ne.symm hj)] at c
      exact ⟨⟨u, c⟩, d⟩
  have ow : ∀ w b, Own B G H w b → b ≠ a → Own B G' H' w b := fun w b x nb => by
    obtain ⟨u, q, r⟩ := x.ex
    obtain ⟨h1, h2⟩ := F.keep b u q (fun z => by cases z; exact nb rfl)
    exact ⟨⟨u, h1, r.mono F.g⟩, h2.trans x.no, x.mu⟩
  refine ⟨⟨F.h, by rw [List.length_set]; exact S.len, fun j s q => ?_, fun j l b hj hk => S.inj j l b (oa j b hj) (oa l b hk), fun b q => F.tr b (S.zin b q)⟩, ⟨F.g, fun b o q n => F.keep b o q (fun z => by cases z; exact n ⟨i, oi⟩), F.tr, fun b ⟨j, q⟩ => .inl ⟨j, oa j b q⟩⟩⟩
  by_cases hj : j = i
  · subst hj
    rw [List.getElem?_set_self hl] at q
    cases q
    rcases hi with ⟨h, rfl⟩ | ⟨h, rfl⟩
    · obtain ⟨x, h1, b, rfl, h2, h3⟩ := S.sl j _ h
      rw [ha] at h1; cases h1
      exact ⟨_, ha, a, rfl, o, h3⟩
    · obtain ⟨x, h1, b, rfl, h2, h3⟩ := S.sl j _ h
      rw [ha] at h1; cases h1
      exact ⟨_, ha, a, rfl, o, h3⟩
  · rw [List.getElem?_set_ne (Ne.symm hj)] at q
    obtain ⟨x, h1, h2⟩ := S.sl j s q
    refine ⟨x, h1, ?_⟩
    cases s with
    | n => trivial
    | v w => obtain ⟨v, h3, h4⟩ := h2; exact ⟨v, h3, Rep.mono F.g _ _ h4⟩
    | o w2 => obtain ⟨b, rfl, h4, h5⟩ := h2; exact ⟨b, rfl, ow _ _ h4 (fun q2 => hj (S.inj j i b ⟨⟨w2, .inl q⟩, h1⟩ (q2 ▸ oi))), h5⟩
    | p w2 => obtain ⟨b, rfl, h4, h5⟩ := h2; exact ⟨b, rfl, ow _ _ h4 (fun q2 => hj (S.inj j i b ⟨⟨w2, .inr q⟩, h1⟩ (q2 ▸ oi))), h5⟩
/-- a fresh result is nobody's -/
theorem fresh_ok {fr : Bool} (S : StOk B z G H e σ) (hsub : ∀ a, Owned e' σ a → Owned e σ a) (hv : ResC B G' H' H fr w v) : RepR B z G' H' e' σ (got fr w) v ∧ New H (got fr w) v := by
  cases fr with
  | false => exact ⟨hv, fun _ _ q => by cases q⟩
  | true =>
    obtain ⟨a, rfl, o, hn⟩ := hv
    refine ⟨⟨a, rfl, o, fun q => ?_, fun q => S.zin a q hn⟩, fun _ _ _ q => by cases q; exact hn⟩
    obtain ⟨i, ⟨u, c⟩, d⟩ := hsub a q
    rcases c with c | c
    · obtain ⟨x, h1, b, rfl, h2, _⟩ := S.sl i _ c
      rw [d] at h1; cases h1
      exact h2.there hn
    · obtain ⟨x, h1, b, rfl, h2, _⟩ := S.sl i _ c
      rw [d] at h1; cases h1
      exact h2.there hn
theorem landed_ok {rf : RF} (S : StOk B z G H e σ) (h : PostE B z W' σ G H e (landed rf e) Q) : PostC B none G H rf Q (WE W' σ) := by
  cases rf with
  | err => exact h
  | exn x s0 =>
    intro G' H' cls d F E R
    obtain ⟨S', F'⟩ := S.call0 F
    exact h G' H' cls d F' S' R
  | ok fr w s0 =>
    intro G' H' v F E hv
    obtain ⟨S', F'⟩ := S.call0 F
    obtain ⟨r1, r2⟩ := fresh_ok (e' := e) S (fun _ q => q) hv
    exact h G' H' v F' S' r1 r2
theorem set_owned {i : Nat} {w' : W} {s' : Sl} (S : StOk B z G H e σ) (hi : (e[i]? = some (.o w) ∧ s' = .o w') ∨ (e[i]? = some (.p w) ∧ s' = .p w')) : ∀ b, Owned (e.set i s') σ b → Owned e σ b := by
  rintro b ⟨j, ⟨u, c⟩, d⟩
  by_cases hj : j = i
  · subst hj
    exact ⟨j, ⟨w, by rcases hi with ⟨h, _⟩ | ⟨h, _⟩; exact .inl h; exact .inr h⟩, d⟩
  · rw [List.getElem?_set_ne (Ne.symm hj)] at c
    exact ⟨j, ⟨u, c⟩, d⟩
theorem landedIo_ok {rf : RF} {i : Nat} (S : StOk B z G H e σ) (hi : e[i]? = some (.o w)) (ha : σ[i]? = some (some (.ref a))) (h : PostE B z W' σ G H e (landedIo rf i e) Q) : PostC B (some a) G H rf Q (WE W' σ) := by
  cases rf with
  | err => exact h
  | exn x s0 =>
    intro G' H' cls d F E R
    obtain ⟨w', rfl, o⟩ := E
    obtain ⟨S', F'⟩ := S.call1 (.inl ⟨hi, rfl⟩) ha F o
    exact h G' H' cls d F' S' R
  | ok fr w s0 =>
    intro G' H' v F E hv
    obtain ⟨w', rfl, o⟩ := E
    obtain ⟨S', F'⟩ := S.call1 (.inl ⟨hi, rfl⟩) ha F o
    obtain ⟨r1, r2⟩ := fresh_ok S (set_owned S (.inl ⟨hi, rfl⟩)) hv
    exact h G' H' v F' S' r1 r2
theorem landedIoP_ok {rf : RF} {i : Nat} (S : StOk B z G H e σ) (hi : e[i]? = some (.p w)) (ha : σ[i]? = some (some (.ref a))) (h : PostE B z W' σ G H e (landedIoP rf i e) Q) : PostC B (some a) G H rf Q (WE W' σ) := by
  cases rf with
  | err => exact h
  | exn x s0 =>
    intro G' H' cls d F E R
    obtain ⟨w', rfl, o⟩ := E
    obtain ⟨S', F'⟩ := S.call1 (.inr ⟨hi, rfl⟩) ha F o
    exact h G' H' cls d F' S' R
  | ok fr w s0 =>
    intro G' H' v F E hv
    obtain ⟨w', rfl, o⟩ := E
    obtain ⟨S', F'⟩ := S.call1 (.inr ⟨hi, rfl⟩) ha F o
    obtain ⟨r1, r2⟩ := fresh_ok S (set_owned S (.inr ⟨hi, rfl⟩)) hv
    exact h G' H' v F' S' r1 r2
theorem s_call {f : Nat} {y : Str} {es : List Expr} (xx : XOk L B KK k N s X) (tk : Takes X W') (hg : glB s y = true) (hf : L.fn f = some y) (hh : L.T.has f = true) (hp : plB ea = true) (hps : es.all plB = true) (ha : PA X (ea :: es) (tA B z W' fa)) :
    PE X (.Call (.Name y p) (ea :: es) [] pos) (tE B z W' fun e => argsE (fa e) fun ws e' => landed (KK f (ws.map .v)) e') := by
  obtain ⟨fd, ps, F, hk, hb⟩ := xx.wd.ok f hh
  obtain ⟨hm, hdb⟩ := xx.wd.fn f y hf
  refine pe_imp (pe_callS (E := WE W') F xx.room (gl_of xx hg) hm hk hb (fun σ => passAt tk σ) ha hdb (star_pl hp) (one_pl hps)) fun σ H Q ⟨G, e, S, h⟩ => ⟨G, e, S, argsE_post h fun ws e1 G1 H1 vs F1 S1 R q => ?_⟩
  exact ⟨G1, S1.sub, .inl ⟨ws, R, landed_ok S1 q⟩⟩
theorem has_slot {i : Nat} {r : RE R1} (S : StOk B z G H e σ) (h : PostE B z W' σ G H e (hasE i e r) Q) : (∃ v, σ[i]? = some (some v)) ∧ PostE B z W' σ G H e r Q := by
  unfold hasE at h
  split at h
  · rename_i w hq
    obtain ⟨x, h1, v, rfl, h2⟩ := S.sl i _ hq
    exact ⟨⟨v, h1⟩, h⟩
  · rename_i w hq
    obtain ⟨x, h1, a, rfl, h2⟩ := S.sl i _ hq
    exact ⟨⟨_, h1⟩, h⟩
  · rename_i w hq
    obtain ⟨x, h1, a, rfl, h2⟩ := S.sl i _ hq
    exact ⟨⟨_, h1⟩, h⟩
  · exact h.elim
theorem s_callIo {f i : Nat} {y n : Str} {es : List Expr} {pn : Pos} (xx : XOk L B KK k N s X) (tk : Takes X W') (hg : glB s y = true) (hf : L.fn f = some y) (hh : L.T.has f = true) (hn : viB N s i n = true) (hps : es.all plB = true) (ha : PA X es (tA B z W' fa)) :
    PE X (.Call (.Name y p) (.Name n pn :: es) [] pos) (tE B z W' fun e => hasE i e (argsE (fa e) (ioE KK f i))) := by
  obtain ⟨fd, ps, F, hk, hb⟩ := xx.wd.ok f hh
  obtain ⟨hm, hdb⟩ := xx.wd.fn f y hf
  refine pe_imp (pe_callS (E := WE W') F xx.room (gl_of xx hg) hm hk hb (fun σ => passAt tk σ) (pa_cons (vi_of xx hn).1 ha (star_pl rfl)) hdb (star_pl rfl) (one_pl hps)) fun σ H Q ⟨G, e, S, h⟩ => ?_
  obtain ⟨⟨v0, hv0⟩, h⟩ := has_slot S h
  refine ⟨v0, hv0, G, e, S, argsE_post h fun ws e1 G1 H1 vs F1 S1 R q => ⟨G1, S1.sub, ?_⟩⟩
  unfold ioE at q
  split at q
  · rename_i w hq
    obtain ⟨x, h1, a, rfl, h2, _⟩ := S1.sl i _ hq
    rw [hv0] at h1; cases h1
    exact .inr ⟨w, ws, a, vs, rfl, h2, R, landedIo_ok S1 hq hv0 q⟩
  · rename_i w hq
    obtain ⟨x, h1, a, rfl, h2, _⟩ := S1.sl i _ hq
    rw [hv0] at h1; cases h1
    exact .inr ⟨w, ws, a, vs, rfl, h2, R, landedIoP_ok S1 hq hv0 q⟩
  · rename_i w hq
    obtain ⟨x, h1, v, rfl, h2⟩ := S1.sl i _ hq
    rw [hv0] at h1; cases h1
    exact .inl ⟨w :: ws, .cons h2 R, landed_ok S1 q⟩
  · exact q.elim
theorem s_callV {i : Nat} {y : Str} {es : List Expr} (xx : XOk L B KK k N s X) (tk : Takes X W') (hn : viB N s i y = true) (hp : plB ea = true) (hps : es.all plB = true) (ha : PA X (ea :: es) (tA B z W' fa)) :
    PE X (.Call (.Name y p) (ea :: es) [] pos) (tE B z W' fun e => cvE L.T KK i e (fa e)) := by
  refine ⟨fun pins sh σ H Q I h => ?_⟩
  obtain ⟨G, e, S, h⟩ := h
  dsimp only at h
  unfold cvE at h
  split at h
  · rename_i f hq
    obtain ⟨x, h1, v, rfl, h2⟩ := S.sl i _ hq
    have hv : v = .ref (B.fa f) := (show RdW B G G (.fn f) v from .inl h2).fn
    subst hv
    split at h
    rename_i hh
    have hp2 : PostA B z W' σ G H e (fa e) fun vs H1 => ∃ G1, Sub G1 H1 ∧ ∃ ws, Reps B G1 ws vs ∧ PostC B none G1 H1 (KK f (ws.map .v)) Q (WE W' σ) :=
      argsE_post h fun ws e1 G1 H1 vs F1 S1 R q => ⟨G1, S1.sub, ws, R, landed_ok S1 q⟩
    · obtain ⟨fd, ps, F, hk, hb⟩ := xx.wd.ok f hh
      obtain ⟨hvar, _, _, _, _⟩ := vi_of (pos := p) xx hn
      refine PySem.wpAny_Call_Name_kw (thn (hvar.run pins sh σ H (fun v H1 => v = .ref (B.fa f) ∧ H1 = H) I ⟨_, h1, rfl, rfl⟩) fun u s1 ⟨v, H1, I1, r1, q1⟩ => ?_)
      obtain ⟨rfl, rfl⟩ := q1
      cases r1
      refine PySem.W.callWith_K (h₀ := X.base) I.ok.mod.kin hk (thn (ha.run pos pins s1 σ _ _ I1 ⟨G, e, S, hp2⟩) fun us s2 ⟨vs, H2, I2, r, q⟩ => ⟨I2.kIn, ?_⟩) (star_pl hp) (one_pl hps)
      obtain ⟨G1, sg, ws, rs, q⟩ := q
      exact run_fnS (E := WE W') F xx.room hb (passAt tk σ) I2 r ⟨G1, sg, .inl ⟨ws, rs, q⟩⟩
    · exact h.elim
  · exact h.elim
end Iv
end

section
set_option Elab.async false
set_option linter.all false
set_option maxRecDepth 100000
namespace Iv
open PySem L2
set_option autoImplicit false
variable {B : Bd} {z : Option Addr} {G H G' H' G0 H0 G1 H1 G2 H2 : Hp} {W' : WX}
variable {L : Lx} {KK : Nat → List Sl → RF} {k : Nat} {N : List Str} {s : Sx} {X : Cx} {a b c d : E}

/-- a value's iterable is the value -/
theorem Ok1.of (hpe : ∀ (s : Sx) (X : Cx) (z : Option Addr) (W' : WX), XOk L B KK k N s X → Takes X W' → ∀ ex, chk L N a s (.e ex) = true → PE X ex (tE B z W' (ev L.T KK a)))
    (hpt : ∀ (s : Sx) (X : Cx) (z : Option Addr) (W' : WX), XOk L B KK k N s X → Takes X W' → isIte a = false → ∀ ex, chk L N a s (.e ex) = true → PT X ex (tT B z W' fun en => tst (ev L.T KK a en)))
    (hl : ∀ s xs, chk L N a s (.l xs) = false) (hb : ∀ s op xs pos, chk L N a s (.e (.BoolOp op xs pos)) = false) (hi : ∀ s x, chk L N a s (.i x) = chk L N a s (.e x) ∨ chk L N a s (.i x) = false) : Ok1 L B KK k N a where
  pe := hpe
  pa := fun s X z W' xx tk xs h => by rw [hl] at h; cases h
  pt := hpt
  pw := fun s X z W' xx tk op xs pos h => by rw [hb] at h; cases h
  pi := fun s X z W' xx tk tg ex _ h => by
    rcases hi s ex with q | q
    · rw [q] at h; exact s_piV (hpe s X z W' xx tk ex h)
    · rw [q] at h; cases h
/-- .. whose test is by its value -/
theorem Ok1.val (hpe : ∀ (s : Sx) (X : Cx) (z : Option Addr) (W' : WX), XOk L B KK k N s X → Takes X W' → ∀ ex, chk L N a s (.e ex) = true → PE X ex (tE B z W' (ev L.T KK a)))
    (ht : ∀ s ex, chk L N a s (.e ex) = true → tvB ex = true)
    (hl : ∀ s xs, chk L N a s (.l xs) = false) (hb : ∀ s op xs pos, chk L N a s (.e (.BoolOp op xs pos)) = false) (hi : ∀ s x, chk L N a s (.i x) = chk L N a s (.e x) ∨ chk L N a s (.i x) = false) : Ok1 L B KK k N a :=
  .of hpe (fun s X z W' xx tk _ ex h => pt_ofE (hpe s X z W' xx tk ex h) (ht s ex h)) hl hb hi
theorem Ok1.no (h : ∀ s p, chk L N a s p = false) : Ok1 L B KK k N a where
  pe := fun s X z W' xx tk xs q => by rw [h] at q; cases q
  pa := fun s X z W' xx tk xs q => by rw [h] at q; cases q
  pt := fun s X z W' xx tk _ xs q => by rw [h] at q; cases q
  pw := fun s X z W' xx tk op xs pos q => by rw [h] at q; cases q
  pi := fun s X z W' xx tk tg ex _ q => by rw [h] at q; cases q

theorem ok_v (i : Nat) : Ok1 L B KK k N (.v i) := by
  refine .val (fun s X z W' xx tk ex h => ?_) (fun s ex h => ?_) (fun _ _ => rfl) (fun _ _ _ _ => rfl) (fun _ x => .inl (by cases x <;> rfl))
  · cases ex <;> first | exact pe_v xx h | (cases h; done)
  · cases ex <;> first | rfl | (cases h; done)
theorem ok_k (w : W) : Ok1 L B KK k N (.k w) := by
  refine .val (fun s X z W' xx tk ex h => ?_) (fun s ex h => ?_) (fun _ _ => rfl) (fun _ _ _ _ => rfl) (fun _ x => .inr rfl)
  · cases ex <;> first | exact pe_k h | (cases h; done)
  · cases ex <;> first | rfl | (cases h; done)
theorem ok_g (x : Str) (i : Int) : Ok1 L B KK k N (.g x i) := by
  refine .val (fun s X z W' xx tk ex h => ?_) (fun s ex h => ?_) (fun _ _ => rfl) (fun _ _ _ _ => rfl) (fun _ x => .inr rfl)
  · cases ex with
    | Name y pos =>
      have h : (decide (y = x) && glB s y && decide ((x, i) ∈ L.g)) = true := h
      simp only [Bool.and_eq_true, decide_eq_true_eq] at h
      obtain ⟨⟨rfl, hg⟩, hm⟩ := h
      obtain ⟨⟨u, h1, h2⟩, h3⟩ := xx.wd.g y i hm
      exact pe_imp (pe_glob (gl_of xx hg) h1 h2 h3) fun σ H Q ⟨G, e, S, q⟩ => post_c S q (.int _)
    | _ => cases h
  · cases ex <;> first | rfl | (cases h; done)
theorem ok_fn (f : Nat) : Ok1 L B KK k N (.fn f) := by
  refine .val (fun s X z W' xx tk ex h => ?_) (fun s ex h => ?_) (fun _ _ => rfl) (fun _ _ _ _ => rfl) (fun _ x => .inr rfl)
  · cases ex with
    | Name y pos =>
      have h : (glB s y && decide (L.fn f = some y) && L.T.has f) = true := h
      simp only [Bool.and_eq_true, decide_eq_true_eq] at h
      obtain ⟨⟨hg, hf⟩, _⟩ := h
      obtain ⟨h1, h3⟩ := xx.wd.fn f y hf
      exact pe_imp (pe_glob (v := .ref (B.fa f)) (gl_of xx hg) h1 rfl h3) fun σ H Q ⟨G, e, S, q⟩ => post_c S q (.fn _)
    | _ => cases h
  · cases ex <;> first | rfl | (cases h; done)
theorem ok_bin (o : BOp) (ha : Ok1 L B KK k N a) (hb : Ok1 L B KK k N b) : Ok1 L B KK k N (.bin o a b) := by
  refine .val (fun s X z W' xx tk ex h => ?_) (fun s ex h => ?_) (fun _ _ => rfl) (fun _ _ _ _ => rfl) (fun _ x => .inl (by cases x <;> rfl))
  · cases ex with
    | BinOp a' o' b' pos =>
      have h : (bopB o o' && chk L N a s (.e a') && chk L N b s (.e b')) = true := h
      simp only [Bool.and_eq_true] at h
      have e1 := bopB_ok h.1.1
      subst e1
      exact s_bin (ha.pe s X z W' xx tk _ h.1.2) (hb.pe s X z W' xx tk _ h.2)
    | _ => cases h
  · cases ex <;> first | rfl | (cases h; done)
theorem ok_neg (ha : Ok1 L B KK k N a) : Ok1 L B KK k N (.neg a) := by
  refine .val (fun s X z W' xx tk ex h => ?_) (fun s ex h => ?_) (fun _ _ => rfl) (fun _ _ _ _ => rfl) (fun _ x => .inr rfl)
  · cases ex with
    | UnaryOp o a' pos =>
      cases o with
      | USub => exact s_neg (ha.pe s X z W' xx tk _ h)
      | _ => cases h
    | _ => cases h
  · cases ex with
    | UnaryOp o a' pos =>
      cases o with
      | USub => rfl
      | _ => cases h
    | _ => cases h
theorem ok_not (ha : Ok1 L B KK k N a) : Ok1 L B KK k N (.not a) := by
  refine .of (fun s X z W' xx tk ex h => ?_) (fun s X z W' xx tk _ ex h => ?_) (fun _ _ => rfl) (fun _ _ _ _ => rfl) (fun _ x => .inr rfl)
  · cases ex with
    | UnaryOp o a' pos =>
      cases o with
      | Not =>
        have h : (!isIte a && chk L N a s (.e a')) = true := h
        rw [Bool.and_eq_true] at h
        exact s_not (ha.pe s X z W' xx tk _ h.2)
      | _ => cases h
    | _ => cases h
  · cases ex with
    | UnaryOp o a' pos =>
      cases o with
      | Not =>
        have h : (!isIte a && chk L N a s (.e a')) = true := h
        rw [Bool.and_eq_true, Bool.not_eq_true'] at h
        exact st_not (ha.pt s X z W' xx tk h.1 _ h.2)
      | _ => cases h
    | _ => cases h
theorem ok_and (ha : Ok1 L B KK k N a) (hb : Ok1 L B KK k N b) : Ok1 L B KK k N (.and a b) := by
  have key : ∀ (s : Sx) (a' b' : Expr) (rest : List Expr) (pos : Pos), chk L N (.and a b) s (.e (.BoolOp .And (a' :: b' :: rest) pos)) = true →
      isIte a = false ∧ isIte b = false ∧ chk L N a s (.e a') = true ∧ ((rest = [] ∧ chk L N b s (.e b') = true) ∨ chk L N b s (.e (.BoolOp .And (b' :: rest) pos)) = true) := by
    intro s a' b' rest pos h
    have h : (!isIte a && !isIte b && chk L N a s (.e a') && tlB (chk L N b s (.e b')) (chk L N b s (.e (.BoolOp .And (b' :: rest) pos))) rest) = true := h
    simp only [Bool.and_eq_true, Bool.not_eq_true'] at h
    refine ⟨h.1.1.1, h.1.1.2, h.1.2, ?_⟩
    cases rest with
    | nil => exact .inl ⟨rfl, h.2⟩
    | cons => exact .inr h.2
  have pw : ∀ (s : Sx) (X : Cx) (z : Option Addr) (W' : WX), XOk L B KK k N s X → Takes X W' → ∀ op xs pos, chk L N (.and a b) s (.e (.BoolOp op xs pos)) = true → PW X (.BoolOp op xs pos) (tT B z W' fun en => tst (ev L.T KK (.and a b) en)) := by
    intro s X z W' xx tk op xs pos h
    cases op with
    | And =>
      match xs, h with
      | a' :: b' :: rest, h =>
        obtain ⟨i1, i2, h1, h2⟩ := key s a' b' rest pos h
        refine sw_and (ha.pt s X z W' xx tk i1 _ h1) ?_
        rcases h2 with ⟨rfl, h2⟩ | h2
        · exact pw_and1 (hb.pt s X z W' xx tk i2 _ h2)
        · exact hb.pw s X z W' xx tk _ _ _ h2
    | Or => cases h
  refine ⟨fun s X z W' xx tk ex h => ?_, fun s X z W' xx tk xs h => by (cases h), fun s X z W' xx tk _ ex h => ?_, pw, fun s X z W' xx tk tg ex _ h => by (cases h)⟩
  · cases ex with
    | BoolOp op xs pos =>
      cases op with
      | And =>
        match xs, h with
        | a' :: b' :: rest, h =>
          obtain ⟨i1, i2, h1, h2⟩ := key s a' b' rest pos h
          refine s_and (ha.pe s X z W' xx tk _ h1) ?_
          rcases h2 with ⟨rfl, h2⟩ | h2
          · exact pe_one (hb.pe s X z W' xx tk _ h2)
          · exact hb.pe s X z W' xx tk _ h2
      | Or => cases h
    | _ => cases h
  · cases ex with
    | BoolOp op xs pos => exact (pw s X z W' xx tk op xs pos h).pt
    | _ => cases h
theorem ok_or (ha : Ok1 L B KK k N a) (hb : Ok1 L B KK k N b) : Ok1 L B KK k N (.or a b) := by
  have key : ∀ (s : Sx) (a' b' : Expr) (rest : List Expr) (pos : Pos), chk L N (.or a b) s (.e (.BoolOp .Or (a' :: b' :: rest) pos)) = true →
      isIte a = false ∧ isIte b = false ∧ chk L N a s (.e a') = true ∧ ((rest = [] ∧ chk L N b s (.e b') = true) ∨ chk L N b s (.e (.BoolOp .Or (b' :: rest) pos)) = true) := by
    intro s a' b' rest pos h
    have h : (!isIte a && !isIte b && chk L N a s (.e a') && tlB (chk L N b s (.e b')) (chk L N b s (.e (.BoolOp .Or (b' :: rest) pos))) rest) = true := h
    simp only [Bool.and_eq_true, Bool.not_eq_true'] at h
    refine ⟨h.1.1.1, h.1.1.2, h.1.2, ?_⟩
    cases rest with
    | nil => exact .inl ⟨rfl, h.2⟩
    | cons => exact .inr h.2
  have pw : ∀ (s : Sx) (X : Cx) (z : Option Addr) (W' : WX), XOk L B KK k N s X → Takes X W' → ∀ op xs pos, chk L N (.or a b) s (.e (.BoolOp op xs pos)) = true → PW X (.BoolOp op xs pos) (tT B z W' fun en => tst (ev L.T KK (.or a b) en)) := by
    intro s X z W' xx tk op xs pos h
    cases op with
    | Or =>
      match xs, h with
      | a' :: b' :: rest, h =>
        obtain ⟨i1, i2, h1, h2⟩ := key s a' b' rest pos h
        refine sw_or (ha.pt s X z W' xx tk i1 _ h1) ?_
        rcases h2 with ⟨rfl, h2⟩ | h2
        · exact pw_or1 (hb.pt s X z W' xx tk i2 _ h2)
        · exact hb.pw s X z W' xx tk _ _ _ h2
    | And => cases h
  refine ⟨fun s X z W' xx tk ex h => ?_, fun s X z W' xx tk xs h => by (cases h), fun s X z W' xx tk _ ex h => ?_, pw, fun s X z W' xx tk tg ex _ h => by (cases h)⟩
  · cases ex with
    | BoolOp op xs pos =>
      cases op with
      | Or =>
        match xs, h with
        | a' :: b' :: rest, h =>
          obtain ⟨i1, i2, h1, h2⟩ := key s a' b' rest pos h
          refine s_or (ha.pe s X z W' xx tk _ h1) ?_
          rcases h2 with ⟨rfl, h2⟩ | h2
          · exact pe_one (hb.pe s X z W' xx tk _ h2)
          · exact hb.pe s X z W' xx tk _ h2
      | And => cases h
    | _ => cases h
  · cases ex with
    | BoolOp op xs pos => exact (pw s X z W' xx tk op xs pos h).pt
    | _ => cases h
theorem ok_cmp (o : COp) (ha : Ok1 L B KK k N a) (hb : Ok1 L B KK k N b) : Ok1 L B KK k N (.cmp o a b) := by
  have key : ∀ (s : Sx) (ex : Expr), chk L N (.cmp o a b) s (.e ex) = true → ∃ a' b' pos, ex = .Compare a' [cop o] [b'] pos ∧ plB b' = true ∧ chk L N a s (.e a') = true ∧ chk L N b s (.e b') = true := by
    intro s ex h
    cases ex with
    | Compare a' os bs pos =>
      match os, bs, h with
      | [o'], [b'], h =>
        have h : (copB o o' && plB b' && chk L N a s (.e a') && chk L N b s (.e b')) = true := h
        simp only [Bool.and_eq_true] at h
        have e1 := copB_ok h.1.1.1
        subst e1
        exact ⟨a', b', pos, rfl, h.1.1.2, h.1.2, h.2⟩
    | _ => cases h
  refine .of (fun s X z W' xx tk ex h => ?_) (fun s X z W' xx tk _ ex h => ?_) (fun _ _ => rfl) (fun _ _ _ _ => rfl) (fun _ x => .inr rfl)
  · obtain ⟨a', b', pos, rfl, hp, h1, h2⟩ := key s ex h
    exact s_cmp xx.room (ha.pe s X z W' xx tk _ h1) (hb.pe s X z W' xx tk _ h2) (beh_pl hp)
  · obtain ⟨a', b', pos, rfl, hp, h1, h2⟩ := key s ex h
    exact st_cmp xx.room (ha.pe s X z W' xx tk _ h1) (hb.pe s X z W' xx tk _ h2) (beh_pl hp)
theorem ok_cmp2 (o q : COp) (ha : Ok1 L B KK k N a) (hb : Ok1 L B KK k N b) (hc : Ok1 L B KK k N c) : Ok1 L B KK k N (.cmp2 o q a b c) := by
  have key : ∀ (s : Sx) (ex : Expr), chk L N (.cmp2 o q a b c) s (.e ex) = true → ∃ a' b' c' pos, ex = .Compare a' [cop o, cop q] [b', c'] pos ∧ plB c' = true ∧ chk L N a s (.e a') = true ∧ chk L N b s (.e b') = true ∧ chk L N c s (.e c') = true := by
    intro s ex h
    cases ex with
    | Compare a' os bs pos =>
      match os, bs, h with
      | [o', q'], [b', c'], h =>
        have h : (copB o o' && copB q q' && plB c' && chk L N a s (.e a') && chk L N b s (.e b') && chk L N c s (.e c')) = true := h
        simp only [Bool.and_eq_true] at h
        have e1 := copB_ok h.1.1.1.1.1
        have e2 := copB_ok h.1.1.1.1.2
        subst e1 e2
        exact ⟨a', b', c', pos, rfl, h.1.1.1.2, h.1.1.2, h.1.2, h.2⟩
    | _ => cases h
  refine .of (fun s X z W' xx tk ex h => ?_) (fun s X z W' xx tk _ ex h => ?_) (fun _ _ => rfl) (fun _ _ _ _ => rfl) (fun _ x => .inr rfl)
  · obtain ⟨a', b', c', pos, rfl, hp, h1, h2, h3⟩ := key s ex h
    exact s_cmp2 xx.room (ha.pe s X z W' xx tk _ h1) (hb.pe s X z W' xx tk _ h2) (hc.pe s X z W' xx tk _ h3) hp
  · obtain ⟨a', b', c', pos, rfl, hp, h1, h2, h3⟩ := key s ex h
    exact st_cmp2 xx.room (ha.pe s X z W' xx tk _ h1) (hb.pe s X z W' xx tk _ h2) (hc.pe s X z W' xx tk _ h3) hp
theorem ok_ite (hc : Ok1 L B KK k N c) (ha : Ok1 L B KK k N a) (hb : Ok1 L B KK k N b) : Ok1 L B KK k N (.ite c a b) := by
  refine .of (fun s X z W' xx tk ex h => ?_) (fun s X z W' xx tk hi ex h => by cases hi) (fun _ _ => rfl) (fun _ _ _ _ => rfl) (fun _ x => .inl (by cases x <;> rfl))
  cases ex with
  | IfExp c' a' b' pos =>
    have h : (!isIte c && chk L N c s (.e c') && chk L N a s (.e a') && chk L N b s (.e b')) = true := h
    simp only [Bool.and_eq_true, Bool.not_eq_true'] at h
    exact s_ite (hc.pt s X z W' xx tk h.1.1.1 _ h.1.1.2) (ha.pe s X z W' xx tk _ h.1.2) (hb.pe s X z W' xx tk _ h.2)
  | _ => cases h
theorem ok_ix (ha : Ok1 L B KK k N a) (hb : Ok1 L B KK k N b) : Ok1 L B KK k N (.ix a b) := by
  refine .val (fun s X z W' xx tk ex h => ?_) (fun s ex h => ?_) (fun _ _ => rfl) (fun _ _ _ _ => rfl) (fun _ x => .inl (by cases x <;> rfl))
  · cases ex with
    | Subscript a' b' pos =>
      have h : (plB b' && chk L N a s (.e a') && chk L N b s (.e b')) = true := h
      simp only [Bool.and_eq_true] at h
      exact s_ix xx.room (ha.pe s X z W' xx tk _ h.1.2) (hb.pe s X z W' xx tk _ h.2) h.1.1
    | _ => cases h
  · cases ex <;> first | rfl | (cases h; done)
theorem ok_sl (ha : Ok1 L B KK k N a) (hb : Ok1 L B KK k N b) (hc : Ok1 L B KK k N c) : Ok1 L B KK k N (.sl a b c) := by
  refine .val (fun s X z W' xx tk ex h => ?_) (fun s ex h => ?_) (fun _ _ => rfl) (fun _ _ _ _ => rfl) (fun _ x => .inl (by cases x <;> rfl))
  · cases ex with
    | Subscript a' b' pos =>
      cases b' with
      | Slice lo hi st p2 =>
        cases st with
        | none =>
          have h : (chk L N a s (.e a') && optB (isNil b) (fun x => chk L N b s (.e x)) lo && optB (isNil c) (fun x => chk L N c s (.e x)) hi) = true := h
          simp only [Bool.and_eq_true] at h
          refine s_sl xx.wd.sk (ha.pe s X z W' xx tk _ h.1.1) (s_part ?_) (s_part ?_)
          · cases lo with
            | none => exact h.1.2
            | some l =>
              have q : (!isNil b && chk L N b s (.e l)) = true := h.1.2
              simp only [Bool.and_eq_true, Bool.not_eq_true'] at q
              exact ⟨q.1, hb.pe s X z W' xx tk _ q.2⟩
          · cases hi with
            | none => exact h.2
            | some l =>
              have q : (!isNil c && chk L N c s (.e l)) = true := h.2
              simp only [Bool.and_eq_true, Bool.not_eq_true'] at q
              exact ⟨q.1, hc.pe s X z W' xx tk _ q.2⟩
        | some _ => cases h
      | _ => cases h
    | _ => cases h
  · cases ex <;> first | rfl | (cases h; done)
theorem ok_rev (ha : Ok1 L B KK k N a) : Ok1 L B KK k N (.rev a) := by
  refine .val (fun s X z W' xx tk ex h => ?_) (fun s ex h => ?_) (fun _ _ => rfl) (fun _ _ _ _ => rfl) (fun _ x => .inl (by cases x <;> rfl))
  · replace h : (match gExpr (.e ex) with
      | some (.Subscript a' (.Slice none none (some (.UnaryOp .USub (.Constant (.int 1) _ _) _)) _) _) => chk L N a s (.e a')
      | _ => false) = true := h
    split at h
    · rename_i q
      cases q
      exact s_rev (ha.pe s X z W' xx tk _ h)
    · cases h
  · cases ex <;> first | rfl | (cases h; done)
theorem ok_tup (ha : Ok1 L B KK k N a) : Ok1 L B KK k N (.tup a) := by
  refine .val (fun s X z W' xx tk ex h => ?_) (fun s ex h => ?_) (fun _ _ => rfl) (fun _ _ _ _ => rfl) (fun _ x => .inl (by cases x <;> rfl))
  · cases ex with
    | Tuple xs j pos => exact s_tup (ha.pa s X z W' xx tk _ h).1
    | _ => cases h
  · cases ex <;> first | rfl | (cases h; done)
theorem ok_lst (ha : Ok1 L B KK k N a) : Ok1 L B KK k N (.lst a) := by
  refine .val (fun s X z W' xx tk ex h => ?_) (fun s ex h => ?_) (fun _ _ => rfl) (fun _ _ _ _ => rfl) (fun _ x => .inl (by cases x <;> rfl))
  · cases ex with
    | List xs pos => exact s_lst (ha.pa s X z W' xx tk _ h).1
    | _ => cases h
  · cases ex <;> first | rfl | (cases h; done)
theorem ok_d0 (t : Bool) : Ok1 L B KK k N (.d0 t) := by
  refine .val (fun s X z W' xx tk ex h => ?_) (fun s ex h => ?_) (fun _ _ => rfl) (fun _ _ _ _ => rfl) (fun _ x => .inr rfl)
  · cases ex with
    | Dict ks vs pos =>
      match ks, vs, h with
      | [], [], h => exact s_d0 t
    | _ => cases h
  · cases ex <;> first | rfl | (cases h; done)
theorem ok_b1 (f : B1) (ha : Ok1 L B KK k N a) : Ok1 L B KK k N (.b1 f a) := by
  refine .val (fun s X z W' xx tk ex h => ?_) (fun s ex h => ?_) (fun _ _ => rfl) (fun _ _ _ _ => rfl) (fun _ x => .inl (by cases x <;> rfl))
  · replace h : (match gExpr (.e ex) with
      | some (.Call (.Name y _) [a'] [] _) => b1B f && decide (y = b1N f) && glB s y && plB a' && chk L N a s (.e a')
      | _ => false) = true := h
    split at h
    · rename_i q
      cases q
      simp only [Bool.and_eq_true, decide_eq_true_eq] at h
      obtain ⟨⟨⟨⟨h0, rfl⟩, h1⟩, h2⟩, h3⟩ := h
      exact s_b1 h0 xx h1 h2 (ha.pe s X z W' xx tk _ h3)
    · cases h
  · cases ex <;> first | rfl | (cases h; done)
theorem ok_b2 (f : B2) (ha : Ok1 L B KK k N a) (hb : Ok1 L B KK k N b) : Ok1 L B KK k N (.b2 f a b) := by
  refine .val (fun s X z W' xx tk ex h => ?_) (fun s ex h => ?_) (fun _ _ => rfl) (fun _ _ _ _ => rfl) (fun _ x => .inr rfl)
  · replace h : (match Px.e ex with
      | .e (.Call (.Name y _) [a', b'] [] _) => decide (y = b2N f) && glB s y && plB a' && plB b' && chk L N a s (.e a') && chk L N b s (.e b')
      | _ => false) = true := h
    split at h
    · rename_i q
      cases q
      simp only [Bool.and_eq_true, decide_eq_true_eq] at h
      obtain ⟨⟨⟨⟨⟨rfl, h1⟩, h2⟩, h3⟩, h4⟩, h5⟩ := h
      exact s_b2 xx h1 h2 h3 (ha.pe s X z W' xx tk _ h4) (hb.pe s X z W' xx tk _ h5)
    · cases h
  · cases ex <;> first | rfl | (cases h; done)
theorem ok_isi (ts : List Ty) (tp : Bool) (ha : Ok1 L B KK k N a) : Ok1 L B KK k N (.isi a ts tp) := by
  refine .val (fun s X z W' xx tk ex h => ?_) (fun s ex h => ?_) (fun _ _ => rfl) (fun _ _ _ _ => rfl) (fun _ x => .inr rfl)
  · replace h : (match Px.e ex with
      | .e (.Call (.Name y _) [a', t'] [] _) => decide (y = ("isinstance" : Str)) && glB s y && plB a' && chk L N a s (.e a') && isiB (tyB s ts) tp ts.length t'
      | _ => false) = true := h
    split at h
    · rename_i q
      cases q
      simp only [Bool.and_eq_true, decide_eq_true_eq] at h
      obtain ⟨⟨⟨⟨rfl, h1⟩, h2⟩, h3⟩, h4⟩ := h
      unfold isiB at h4
      split at h4
      · simp only [Bool.and_eq_true, decide_eq_true_eq] at h4
        cases ts with
        | nil => exact absurd h4.1.1.1.2 (by decide)
        | cons t ts => exact s_isiT xx h1 h2 h4.2 h4.1.1.2 (ha.pe s X z W' xx tk _ h3)
      · simp only [Bool.and_eq_true, decide_eq_true_eq] at h4
        cases ts with
        | nil => exact absurd h4.1.2 (by decide)
        | cons t ts => exact s_isi1 xx h1 h2 h4.1.1.2 h4.2 (ha.pe s X z W' xx tk _ h3)
    · cases h
  · cases ex <;> first | rfl | (cases h; done)
theorem ok_lrng (ha : Ok1 L B KK k N a) : Ok1 L B KK k N (.lrng a) := by
  refine .val (fun s X z W' xx tk ex h => ?_) (fun s ex h => ?_) (fun _ _ => rfl) (fun _ _ _ _ => rfl) (fun _ x => .inl (by cases x <;> rfl))
  · replace h : (match gExpr (.e ex) with
      | some (.Call (.Name y _) [.Call (.Name y2 _) [a'] [] _] [] _) => decide (y = ("list" : Str)) && glB s y && decide (y2 = ("range" : Str)) && glB s y2 && plB a' && chk L N a s (.e a')
      | _ => false) = true := h
    split at h
    · rename_i q
      cases q
      simp only [Bool.and_eq_true, decide_eq_true_eq] at h
      obtain ⟨⟨⟨⟨⟨rfl, h1⟩, rfl⟩, h2⟩, h3⟩, h4⟩ := h
      exact s_lrng xx h1 h2 h3 (ha.pe s X z W' xx tk _ h4)
    · cases h
  · cases ex <;> first | rfl | (cases h; done)
theorem ok_trng (ha : Ok1 L B KK k N a) : Ok1 L B KK k N (.trng a) := by
  refine .val (fun s X z W' xx tk ex h => ?_) (fun s ex h => ?_) (fun _ _ => rfl) (fun _ _ _ _ => rfl) (fun _ x => .inl (by cases x <;> rfl))
  · replace h : (match gExpr (.e ex) with
      | some (.Call (.Name y _) [.Call (.Name y2 _) [a'] [] _] [] _) => decide (y = ("tuple" : Str)) && glB s y && decide (y2 = ("range" : Str)) && glB s y2 && plB a' && chk L N a s (.e a')
      | _ => false) = true := h
    split at h
    · rename_i q
      cases q
      simp only [Bool.and_eq_true, decide_eq_true_eq] at h
      obtain ⟨⟨⟨⟨⟨rfl, h1⟩, rfl⟩, h2⟩, h3⟩, h4⟩ := h
      exact s_trng xx h1 h2 h3 (ha.pe s X z W' xx tk _ h4)
    · cases h
  · cases ex <;> first | rfl | (cases h; done)
end Iv
end

section
set_option Elab.async false
set_option linter.all false
set_option maxRecDepth 100000
namespace Iv
open PySem L2
set_option autoImplicit false
variable {B : Bd} {z : Option Addr} {G H G' H' G0 H0 G1 H1 G2 H2 : Hp} {W' : WX}
variable {L : Lx} {KK : Nat → List Sl → RF} {k : Nat} {N : List Str} {s : Sx} {X : Cx} {a b c d : E}

theorem blk_ok (xx : XOk L B KK k N s X) (s' : Shared) (H : Hp) (scope : Scope) (cl : List (Str × Addr)) (C : Addr) (fp : List Addr) : XOk L B KK k N (inner s scope) (X.blk s' H scope (PySem.compEnvC scope cl C X.env) fp) where
  hN := xx.hN
  hsc := by
    show relS scope X.env.scope = relS scope s.sc
    rw [xx.hsc]
  nd := xx.nd
  room := xx.room
  calm := xx.calm
  wd := xx.wd
  sto := fun y h => by
    have h : scope.names.lookup y = some .cell := h
    show (scope.names.lookup y == some .cell) = true
    rw [h]; rfl
theorem Ok1.it (hpe : ∀ s x, chk L N a s (.e x) = false) (hl : ∀ s xs, chk L N a s (.l xs) = false)
    (hpi : ∀ (s : Sx) (X : Cx) (z : Option Addr) (W' : WX), XOk L B KK k N s X → Takes X W' → ∀ tg ex, tgB a tg = true → chk L N a s (.i ex) = true → PI X tg ex (tI B z W' fun en => asItems (ev L.T KK a en))) : Ok1 L B KK k N a where
  pe := fun s X z W' xx tk xs q => by rw [hpe] at q; cases q
  pa := fun s X z W' xx tk xs q => by rw [hl] at q; cases q
  pt := fun s X z W' xx tk _ xs q => by rw [hpe] at q; cases q
  pw := fun s X z W' xx tk op xs pos q => by rw [hpe] at q; cases q
  pi := hpi
theorem ok_rng1 (ha : Ok1 L B KK k N a) : Ok1 L B KK k N (.rng1 a) := by
  refine .it (fun _ _ => rfl) (fun _ _ => rfl) fun s X z W' xx tk tg ex _ h => ?_
  replace h : (match Px.i ex with
    | .i (.Call (.Name y _) [a'] [] _) => decide (y = ("range" : Str)) && glB s y && plB a' && chk L N a s (.e a')
    | _ => false) = true := h
  split at h
  · rename_i q
    cases q
    simp only [Bool.and_eq_true, decide_eq_true_eq] at h
    obtain ⟨⟨⟨rfl, h1⟩, h2⟩, h3⟩ := h
    exact s_rng1 xx h1 h2 (ha.pe s X z W' xx tk _ h3)
  · cases h
theorem ok_rng2 (ha : Ok1 L B KK k N a) (hb : Ok1 L B KK k N b) : Ok1 L B KK k N (.rng2 a b) := by
  refine .it (fun _ _ => rfl) (fun _ _ => rfl) fun s X z W' xx tk tg ex _ h => ?_
  replace h : (match Px.i ex with
    | .i (.Call (.Name y _) [a', b'] [] _) => decide (y = ("range" : Str)) && glB s y && plB a' && plB b' && chk L N a s (.e a') && chk L N b s (.e b')
    | _ => false) = true := h
  split at h
  · rename_i q
    cases q
    simp only [Bool.and_eq_true, decide_eq_true_eq] at h
    obtain ⟨⟨⟨⟨⟨rfl, h1⟩, h2⟩, h3⟩, h4⟩, h5⟩ := h
    exact s_rng2 xx h1 h2 h3 (ha.pe s X z W' xx tk _ h4) (hb.pe s X z W' xx tk _ h5)
  · cases h
theorem ok_rng3 (ha : Ok1 L B KK k N a) (hb : Ok1 L B KK k N b) (hc : Ok1 L B KK k N c) : Ok1 L B KK k N (.rng3 a b c) := by
  refine .it (fun _ _ => rfl) (fun _ _ => rfl) fun s X z W' xx tk tg ex _ h => ?_
  replace h : (match Px.i ex with
    | .i (.Call (.Name y _) [a', b', c'] [] _) => decide (y = ("range" : Str)) && glB s y && plB a' && plB b' && plB c' && chk L N a s (.e a') && chk L N b s (.e b') && chk L N c s (.e c')
    | _ => false) = true := h
  split at h
  · rename_i q
    cases q
    simp only [Bool.and_eq_true, decide_eq_true_eq] at h
    obtain ⟨⟨⟨⟨⟨⟨⟨rfl, h1⟩, h2⟩, h3⟩, h4⟩, h5⟩, h6⟩, h7⟩ := h
    exact s_rng3 xx h1 h2 h3 h4 (ha.pe s X z W' xx tk _ h5) (hb.pe s X z W' xx tk _ h6) (hc.pe s X z W' xx tk _ h7)
  · cases h
theorem tg_tup {x : Expr} (h : (match x with | .Tuple .. => true | _ => false) = true) : ∃ es j p, x = .Tuple es j p := by
  cases x <;> first | exact ⟨_, _, _, rfl⟩ | cases h
theorem ok_enu (ha : Ok1 L B KK k N a) : Ok1 L B KK k N (.enu a) := by
  refine .it (fun _ _ => rfl) (fun _ _ => rfl) fun s X z W' xx tk tg ex htg h => ?_
  replace h : (match Px.i ex with
    | .i (.Call (.Name y _) [a'] [] _) => decide (y = ("enumerate" : Str)) && glB s y && plB a' && !isIt a && chk L N a s (.e a')
    | _ => false) = true := h
  split at h
  · rename_i q
    cases q
    simp only [Bool.and_eq_true, decide_eq_true_eq] at h
    obtain ⟨⟨⟨⟨rfl, h1⟩, h2⟩, h3⟩, h4⟩ := h
    obtain ⟨es, j, p, rfl⟩ := tg_tup htg
    exact s_enu xx h1 h2 (ha.pe s X z W' xx tk _ h4)
  · cases h
theorem ok_zip (ha : Ok1 L B KK k N a) (hb : Ok1 L B KK k N b) : Ok1 L B KK k N (.zip a b) := by
  refine .it (fun _ _ => rfl) (fun _ _ => rfl) fun s X z W' xx tk tg ex htg h => ?_
  replace h : (match Px.i ex with
    | .i (.Call (.Name y _) [a', b'] [] _) => decide (y = ("zip" : Str)) && glB s y && plB a' && plB b' && !isIt a && !isIt b && chk L N a s (.e a') && chk L N b s (.e b')
    | _ => false) = true := h
  split at h
  · rename_i q
    cases q
    simp only [Bool.and_eq_true, decide_eq_true_eq] at h
    obtain ⟨⟨⟨⟨⟨⟨⟨rfl, h1⟩, h2⟩, h3⟩, h4⟩, h5⟩, h6⟩, h7⟩ := h
    obtain ⟨es, j, p, rfl⟩ := tg_tup htg
    exact s_zip xx h1 h2 h3 (ha.pe s X z W' xx tk _ h6) (hb.pe s X z W' xx tk _ h7)
  · cases h
/-- the tests of a clause -/
theorem ifs_ok {ifs : List Expr} (hc : Ok1 L B KK k N c) (h : ifsB (isNil c) (isIte c) (fun t => chk L N c s (.e t)) ifs = true) (xx : XOk L B KK k N s X) (tk : Takes X W0) : PTs X ifs (tT B z W0 (condE (cond (isNil c) (ev L.T KK c)))) := by
  match ifs, h with
  | [], h =>
    have h : isNil c = true := h
    unfold cond
    rw [h]
    exact ⟨fun pins s σ H Q I ⟨G, e, S, q⟩ => pts_nil.run pins s σ H Q I (q G H .refl S)⟩
  | [t], h =>
    have h : (!isNil c && !isIte c && chk L N c s (.e t)) = true := h
    simp only [Bool.and_eq_true, Bool.not_eq_true'] at h
    unfold cond
    rw [h.1.1]
    exact pts_one (hc.pt s X z W0 xx tk h.1.2 _ h.2)
theorem blk_of (xx : XOk L B KK k N s X) {own : List Nat} {scope : Scope} (h : blkC N s.sc scope (ownOf N own) = true) : BlkOk X.N X.env.scope scope (ownOf N own) := by
  rw [xx.hN, xx.hsc]
  exact blkOk_by h
theorem ok_lc (own : List Nat) (pt : Pt) (ha : Ok1 L B KK k N a) (hc : Ok1 L B KK k N c) (hd : Ok1 L B KK k N d) : Ok1 L B KK k N (.lc own pt a c d) := by
  refine .val (fun s X z W' xx tk ex h => ?_) (fun s ex h => ?_) (fun _ _ => rfl) (fun _ _ _ _ => rfl) (fun _ x => .inl (by cases x <;> rfl))
  · replace h : (match gExpr (.e ex) with
      | some (.ListComp elt [⟨tg, iter, ifs, 0⟩] scope _) => decide own.Nodup && ptOwn own pt && plB iter && blkC N s.sc scope (ownOf N own) && tgB a tg && chk L N a s (.i iter) && ptB N (inner s scope) pt tg && ifsB (isNil c) (isIte c) (fun t => chk L N c (inner s scope) (.e t)) ifs && chk L N d (inner s scope) (.e elt)
      | _ => false) = true := h
    split at h
    · rename_i q
      cases q
      simp only [Bool.and_eq_true, decide_eq_true_eq] at h
      obtain ⟨⟨⟨⟨⟨⟨⟨⟨h1, h2⟩, h3⟩, h4⟩, h5⟩, h6⟩, h7⟩, h8⟩, h9⟩ := h
      exact s_lc xx (ha.pi s X z W' xx tk _ _ h5 h6) (blk_of xx h4) h2 (fun s' H C cl fp => pg_pt (blk_ok xx s' H _ cl C fp) h7) (fun s' H C cl fp => ifs_ok hc h8 (blk_ok xx s' H _ cl C fp) takes0)
        (fun s' H C cl fp => hd.pe _ _ z W0 (blk_ok xx s' H _ cl C fp) takes0 _ h9) h3
    · cases h
  · cases ex <;> first | rfl | (cases h; done)
theorem ok_lc2 (own own1 : List Nat) (pt pt1 : Pt) {a1 c1 : E} (ha : Ok1 L B KK k N a) (hc : Ok1 L B KK k N c) (ha1 : Ok1 L B KK k N a1) (hc1 : Ok1 L B KK k N c1) (hd : Ok1 L B KK k N d) : Ok1 L B KK k N (.lc2 own own1 pt a c pt1 a1 c1 d) := by
  refine .val (fun s X z W' xx tk ex h => ?_) (fun s ex h => ?_) (fun _ _ => rfl) (fun _ _ _ _ => rfl) (fun _ x => .inl (by cases x <;> rfl))
  · replace h : (match gExpr (.e ex) with
      | some (.ListComp elt [⟨tg, iter, ifs, 0⟩, ⟨tg1, iter1, ifs1, 0⟩] scope _) => decide own.Nodup && decide own1.Nodup && own1.all (own.contains ·) && ptOwn own pt && ptOwn own1 pt1 && plB iter && plB iter1 && blkC N s.sc scope (ownOf N own) && tgB a tg && chk L N a s (.i iter) && ptB N (inner s scope) pt tg && ifsB (isNil c) (isIte c) (fun t => chk L N c (inner s scope) (.e t)) ifs && tgB a1 tg1 && chk L N a1 (inner s scope) (.i iter1) && ptB N (inner s scope) pt1 tg1 && ifsB (isNil c1) (isIte c1) (fun t => chk L N c1 (inner s scope) (.e t)) ifs1 && chk L N d (inner s scope) (.e elt)
      | _ => false) = true := h
    split at h
    · rename_i q
      cases q
      simp only [Bool.and_eq_true, decide_eq_true_eq] at h
      obtain ⟨⟨⟨⟨⟨⟨⟨⟨⟨⟨⟨⟨⟨⟨⟨⟨h1, h2⟩, h3⟩, h4⟩, h5⟩, h6⟩, h7⟩, h8⟩, h9⟩, h10⟩, h11⟩, h12⟩, h13⟩, h14⟩, h15⟩, h16⟩, h17⟩ := h
      exact s_lc2 xx (ha.pi s X z W' xx tk _ _ h9 h10) (blk_of xx h8) h4 h5 (fun i hi => List.contains_iff_mem.mp (List.all_eq_true.mp h3 i hi)) (fun s' H C cl fp => pg_pt (blk_ok xx s' H _ cl C fp) h11) (fun s' H C cl fp => ifs_ok hc h12 (blk_ok xx s' H _ cl C fp) takes0)
        (fun s' H C cl fp => ha1.pi _ _ z W0 (blk_ok xx s' H _ cl C fp) takes0 _ _ h13 h14) (fun s' H C cl fp => pg_pt (blk_ok xx s' H _ cl C fp) h15) (fun s' H C cl fp => ifs_ok hc1 h16 (blk_ok xx s' H _ cl C fp) takes0)
        (fun s' H C cl fp => hd.pe _ _ z W0 (blk_ok xx s' H _ cl C fp) takes0 _ h17) h6 h7
    · cases h
  · cases ex <;> first | rfl | (cases h; done)
theorem ok_dc (t : Bool) (own : List Nat) (pt : Pt) {kx vx : E} (ha : Ok1 L B KK k N a) (hc : Ok1 L B KK k N c) (hk : Ok1 L B KK k N kx) (hv : Ok1 L B KK k N vx) : Ok1 L B KK k N (.dc t own pt a c kx vx) := by
  refine .val (fun s X z W' xx tk ex h => ?_) (fun s ex h => ?_) (fun _ _ => rfl) (fun _ _ _ _ => rfl) (fun _ x => .inr rfl)
  · replace h : (match Px.e ex with
      | .e (.DictComp kx' vx' [⟨tg, iter, ifs, 0⟩] scope _) => !t && decide own.Nodup && ptOwn own pt && plB iter && blkC N s.sc scope (ownOf N own) && tgB a tg && chk L N a s (.i iter) && ptB N (inner s scope) pt tg && ifsB (isNil c) (isIte c) (fun t => chk L N c (inner s scope) (.e t)) ifs && chk L N kx (inner s scope) (.e kx') && chk L N vx (inner s scope) (.e vx')
      | _ => false) = true := h
    split at h
    · rename_i q
      cases q
      simp only [Bool.and_eq_true, decide_eq_true_eq] at h
      obtain ⟨⟨⟨⟨⟨⟨⟨⟨⟨⟨h0, h1⟩, h2⟩, h3⟩, h4⟩, h5⟩, h6⟩, h7⟩, h8⟩, h9⟩, h10⟩ := h
      exact s_dc xx (ha.pi s X z W' xx tk _ _ h5 h6) (blk_of xx h4) h2 (fun s' H C cl fp => pg_pt (blk_ok xx s' H _ cl C fp) h7) (fun s' H C cl fp => ifs_ok hc h8 (blk_ok xx s' H _ cl C fp) takes0)
        (fun s' H C cl fp => hk.pe _ _ z W0 (blk_ok xx s' H _ cl C fp) takes0 _ h9) (fun s' H C cl fp => hv.pe _ _ z W0 (blk_ok xx s' H _ cl C fp) takes0 _ h10) h3
    · cases h
  · cases ex <;> first | rfl | (cases h; done)
theorem ok_call (f : Nat) (ha : Ok1 L B KK k N a) : Ok1 L B KK k N (.call f a) := by
  refine .val (fun s X z W' xx tk ex h => ?_) (fun s ex h => ?_) (fun _ _ => rfl) (fun _ _ _ _ => rfl) (fun _ x => .inl (by cases x <;> rfl))
  · replace h : (match gExpr (.e ex) with
      | some (.Call (.Name y _) (x :: xs) [] _) => glB s y && decide (L.fn f = some y) && L.T.has f && plB x && xs.all plB && chk L N a s (.l (x :: xs))
      | _ => false) = true := h
    split at h
    · rename_i q
      cases q
      simp only [Bool.and_eq_true, decide_eq_true_eq] at h
      obtain ⟨⟨⟨⟨⟨h1, h2⟩, h3⟩, h4⟩, h5⟩, h6⟩ := h
      exact s_call xx tk h1 h2 h3 h4 h5 (ha.pa s X z W' xx tk _ h6).1
    · cases h
  · cases ex <;> first | rfl | (cases h; done)
theorem ok_callIo (f i : Nat) (ha : Ok1 L B KK k N a) : Ok1 L B KK k N (.callIo f i a) := by
  refine .val (fun s X z W' xx tk ex h => ?_) (fun s ex h => ?_) (fun _ _ => rfl) (fun _ _ _ _ => rfl) (fun _ x => .inl (by cases x <;> rfl))
  · replace h : (match gExpr (.e ex) with
      | some (.Call (.Name y _) (.Name n _ :: xs) [] _) => glB s y && decide (L.fn f = some y) && L.T.has f && viB N s i n && xs.all plB && chk L N a s (.l xs)
      | _ => false) = true := h
    split at h
    · rename_i q
      cases q
      simp only [Bool.and_eq_true, decide_eq_true_eq] at h
      obtain ⟨⟨⟨⟨⟨h1, h2⟩, h3⟩, h4⟩, h5⟩, h6⟩ := h
      exact s_callIo xx tk h1 h2 h3 h4 h5 (ha.pa s X z W' xx tk _ h6).1
    · cases h
  · cases ex <;> first | rfl | (cases h; done)
theorem ok_callV (i : Nat) (ha : Ok1 L B KK k N a) : Ok1 L B KK k N (.callV i a) := by
  refine .val (fun s X z W' xx tk ex h => ?_) (fun s ex h => ?_) (fun _ _ => rfl) (fun _ _ _ _ => rfl) (fun _ x => .inr rfl)
  · replace h : (match Px.e ex with
      | .e (.Call (.Name y _) (x :: xs) [] _) => viB N s i y && plB x && xs.all plB && chk L N a s (.l (x :: xs))
      | _ => false) = true := h
    split at h
    · rename_i q
      cases q
      simp only [Bool.and_eq_true, decide_eq_true_eq] at h
      obtain ⟨⟨⟨h1, h2⟩, h3⟩, h4⟩ := h
      exact s_callV xx tk h1 h2 h3 (ha.pa s X z W' xx tk _ h4).1
    · cases h
  · cases ex <;> first | rfl | (cases h; done)
theorem Ok1.ls (hpe : ∀ s x, chk L N a s (.e x) = false) (hi : ∀ s x, chk L N a s (.i x) = false)
    (hpa : ∀ (s : Sx) (X : Cx) (z : Option Addr) (W' : WX), XOk L B KK k N s X → Takes X W' → ∀ xs, chk L N a s (.l xs) = true → PA X xs (tA B z W' (ev L.T KK a)) ∧ xs.all plB = true) : Ok1 L B KK k N a where
  pe := fun s X z W' xx tk xs q => by rw [hpe] at q; cases q
  pa := hpa
  pt := fun s X z W' xx tk _ xs q => by rw [hpe] at q; cases q
  pw := fun s X z W' xx tk op xs pos q => by rw [hpe] at q; cases q
  pi := fun s X z W' xx tk tg ex _ q => by rw [hi] at q; cases q
theorem ok_nil : Ok1 L B KK k N .nil := by
  refine .ls (fun _ _ => rfl) (fun _ _ => rfl) fun s X z W' xx tk xs h => ?_
  cases xs with
  | nil => exact ⟨sa_nil, rfl⟩
  | cons => cases h
theorem ok_cons (ha : Ok1 L B KK k N a) (hb : Ok1 L B KK k N b) : Ok1 L B KK k N (.cons a b) := by
  refine .ls (fun _ _ => rfl) (fun _ _ => rfl) fun s X z W' xx tk xs h => ?_
  cases xs with
  | nil => cases h
  | cons x xs =>
    have h : (plB x && chk L N a s (.e x) && chk L N b s (.l xs)) = true := h
    simp only [Bool.and_eq_true] at h
    obtain ⟨h1, h2⟩ := hb.pa s X z W' xx tk _ h.2
    exact ⟨sa_cons (ha.pe s X z W' xx tk _ h.1.2) h1 h.1.1, by rw [List.all_cons, h.1.1, h2]; rfl⟩
theorem ok_consR (ha : Ok1 L B KK k N a) (hb : Ok1 L B KK k N b) : Ok1 L B KK k N (.consR a b) := by
  refine .ls (fun _ _ => rfl) (fun _ _ => rfl) fun s X z W' xx tk xs h => ?_
  cases xs with
  | nil => cases h
  | cons x xs =>
    have h : (plB x && chk L N a s (.e x) && chk L N b s (.l xs)) = true := h
    simp only [Bool.and_eq_true] at h
    obtain ⟨h1, h2⟩ := hb.pa s X z W' xx tk _ h.2
    exact ⟨sa_consR (ha.pe s X z W' xx tk _ h.1.2) h1 h.1.1, by rw [List.all_cons, h.1.1, h2]; rfl⟩
theorem ok_all : ∀ e : E, Ok1 L B KK k N e := by
  intro e
  induction e with
  | v i => exact ok_v i
  | k w => exact ok_k w
  | g x i => exact ok_g x i
  | fn f => exact ok_fn f
  | bin o a b ha hb => exact ok_bin o ha hb
  | neg a ha => exact ok_neg ha
  | not a ha => exact ok_not ha
  | and a b ha hb => exact ok_and ha hb
  | or a b ha hb => exact ok_or ha hb
  | cmp o a b ha hb => exact ok_cmp o ha hb
  | cmp2 o p a b c ha hb hc => exact ok_cmp2 o p ha hb hc
  | cmp3 => exact .no fun _ _ => rfl
  | ite c a b hc ha hb => exact ok_ite hc ha hb
  | ix a b ha hb => exact ok_ix ha hb
  | sl a b c ha hb hc => exact ok_sl ha hb hc
  | rev a ha => exact ok_rev ha
  | tup a ha => exact ok_tup ha
  | lst a ha => exact ok_lst ha
  | d0 t => exact ok_d0 t
  | dd => exact .no fun _ _ => rfl
  | b1 f a ha => exact ok_b1 f ha
  | b2 f a b ha hb => exact ok_b2 f ha hb
  | isi a ts tp ha => exact ok_isi ts tp ha
  | lrng a ha => exact ok_lrng ha
  | trng a ha => exact ok_trng ha
  | trng3 => exact .no fun _ _ => rfl
  | rng1 a ha => exact ok_rng1 ha
  | rng2 a b ha hb => exact ok_rng2 ha hb
  | rng3 a b c ha hb hc => exact ok_rng3 ha hb hc
  | enu a ha => exact ok_enu ha
  | zip a b ha hb => exact ok_zip ha hb
  | lc own p it c el ha hc hd => exact ok_lc own p ha hc hd
  | lc2 own own1 p it c p1 it1 c1 el h1 h2 h3 h4 h5 => exact ok_lc2 own own1 p p1 h1 h2 h3 h4 h5
  | dc t own p it c kx vx h1 h2 h3 h4 => exact ok_dc t own p h1 h2 h3 h4
  | call f es h => exact ok_call f h
  | callIo f i es h => exact ok_callIo f i h
  | callV i es h => exact ok_callV i h
  | meth => exact .no fun _ _ => rfl
  | make => exact .no fun _ _ => rfl
  | «at» => exact .no fun _ _ => rfl
  | pop0 => exact .no fun _ _ => rfl
  | pop1 => exact .no fun _ _ => rfl
  | index => exact .no fun _ _ => rfl
  | get => exact .no fun _ _ => rfl
  | nil => exact ok_nil
  | cons a b ha hb => exact ok_cons ha hb
  | consR a b ha hb => exact ok_consR ha hb
end Iv
end

section
set_option Elab.async false
set_option linter.all false
set_option maxRecDepth 100000
namespace Iv
open PySem L2
set_option autoImplicit false
variable {B : Bd} {z : Option Addr} {G H G' H' G0 H0 G1 H1 G2 H2 Gb Hb : Hp} {e e' e0 e1 e2 eb' : En} {σ σ' σ0 σ1 σ2 σb : St} {w x y : W} {v v1 v2 : V} {a : Addr} {r r1 : R1} {W' : WX} {D : Ends}
variable {L : Lx} {KK : Nat → List Sl → RF} {k : Nat} {N : List Str} {s : Sx} {X : Cx} {fa fb fc : En → RE R1} {ea eb ec : Expr} {pos p p2 : Pos} {tg : Expr}

def ResS (B : Bd) (z : Option Addr) (G H : Hp) (e : En) (σ : St) (G' H' : Hp) (fr : Bool) (w : W) (v : V) : Prop := match fr with
  | true => ∃ a, v = .ref a ∧ Own B G' H' w a ∧ z ≠ some a ∧ (Owned e σ a ∨ H a = none)
  | false => Rep B G' w v
def EndF (B : Bd) (z : Option Addr) (G H : Hp) (e : En) (σ : St) (G' H' : Hp) (σ' : St) (f : Fl) (D : Ends) : Prop := match f with
  | .next => D.nx σ' H'
  | .brk => D.bk σ' H'
  | .cont => D.ct σ' H'
  | .ret fr w => ∀ v, ResS B z G H e σ G' H' fr w v → D.rt v H'
def PostS (B : Bd) (z : Option Addr) (W' : WX) (G H : Hp) (e : En) (σ : St) (r : RE Fl) (D : Ends) : Prop := match r with
  | .err => False
  | .ok f e' => ∀ G' H' σ', Fr G H e σ G' H' e' σ' → StOk B z G' H' e' σ' → EndF B z G H e σ G' H' σ' f D
  | .exn x e' => ∀ G' H' σ' cls d, Fr G H e σ G' H' e' σ' → StOk B z G' H' e' σ' → ExR B G' H' x cls d → W' cls d σ' H'
def tS (B : Bd) (z : Option Addr) (W' : WX) (f : En → RE Fl) : TS := fun D σ H => ∃ G e, StOk B z G H e σ ∧ PostS B z W' G H e σ (f e) D
theorem ResS.up {fr : Bool} (F : Fr G0 H0 e0 σ0 G H e σ) (h : ResS B z G H e σ G' H' fr w v) : ResS B z G0 H0 e0 σ0 G' H' fr w v := by
  cases fr with
  | false => exact h
  | true =>
    obtain ⟨a, h1, h2, h3, h4⟩ := h
    refine ⟨a, h1, h2, h3, ?_⟩
    rcases h4 with h4 | h4
    · exact F.own a h4
    · exact .inr (F.free h4)
theorem PostS.up {r : RE Fl} (F : Fr G0 H0 e0 σ0 G H e σ) (h : PostS B z W' G0 H0 e0 σ0 r D) : PostS B z W' G H e σ r D := by
  cases r with
  | err => exact h
  | exn x e' => exact fun G' H' σ' cls d F' S R => h G' H' σ' cls d (F.trans F') S R
  | ok f e' =>
    intro G' H' σ' F' S
    have q := h G' H' σ' (F.trans F') S
    cases f with
    | next => exact q
    | brk => exact q
    | cont => exact q
    | ret fr w => exact fun v R => q v (R.up F)
theorem ps_imp {st : Stmt} {t t' : TS} (h : PS X st t) (k : ∀ D σ H, t' D σ H → t D σ H) : PS X st t' := ⟨fun p s σ H D I q => h.run p s σ H D I (k D σ H q)⟩
theorem pss_imp {st : List Stmt} {t t' : TS} (h : PSs X st t) (k : ∀ D σ H, t' D σ H → t D σ H) : PSs X st t' := ⟨fun p s σ H D I q => h.run p s σ H D I (k D σ H q)⟩

/-! ### from an expression -/
theorem resE_post {f : RE R1} {kk : R1 → En → RE Fl} {QE : VK} (h : PostS B z W' G H e σ (resE f kk) D)
    (hk : ∀ r e1 G1 H1 v, Fr G H e σ G1 H1 e1 σ → StOk B z G1 H1 e1 σ → RepR B z G1 H1 e1 σ r v → New H r v → PostS B z W' G H e σ (kk r e1) D → QE v H1) : PostE B z W' σ G H e f QE := by
  cases f with
  | err => exact h
  | exn x e1 => exact fun G' H' cls d F S R => h G' H' σ cls d F S R
  | ok r e1 => exact fun G1 H1 v F S R n => hk r e1 G1 H1 v F S R n h
theorem valE_post {f : RE R1} {kk : W → En → RE Fl} {QE : VK} (h : PostS B z W' G H e σ (valE f kk) D)
    (hk : ∀ w e1 G1 H1 v, Fr G H e σ G1 H1 e1 σ → StOk B z G1 H1 e1 σ → Rep B G1 w v → PostS B z W' G H e σ (kk w e1) D → QE v H1) : PostE B z W' σ G H e f QE := by
  cases f with
  | err => exact h
  | exn x e1 => exact fun G' H' cls d F S R => h G' H' σ cls d F S R
  | ok r e1 =>
    intro G1 H1 v F S R n
    unfold valE at h
    dsimp only at h
    cases hu : use r e1 with
    | none => rw [hu] at h; exact h.elim
    | some q =>
      obtain ⟨w, e2⟩ := q
      rw [hu] at h
      obtain ⟨G2, F2, S2, R2⟩ := use_ok F S R n hu
      exact hk w e2 G2 H1 v F2 S2 R2 h
theorem s_expr (ha : PE X ea (tE B z W' fa)) (hn : ncB ea = true) : PS X (.Expr ea pos) (tS B z W' fun e => resE (fa e) fun _ e1 => .ok .next e1) := by
  refine ps_imp (ps_expr ha (swaps_nc hn)) fun D σ H ⟨G, e, S, h⟩ => ⟨G, e, S, resE_post h fun r e1 G1 H1 v F S1 R n q => q G1 H1 σ F S1⟩
theorem ret_res {fr : Bool} (F : Fr G H e σ G1 H1 e1 σ) (S1 : StOk B z G1 H1 e1 σ) (R : RepR B z G1 H1 e1 σ r v) (n : New H r v) (h : back r e1 = some (fr, w)) : ResS B z G H e σ G1 H1 fr w v := by
  cases r with
  | w w' => cases h; exact R
  | l rs => exact R.elim
  | f w' =>
    cases h
    have hn := fun a => n w a rfl
    obtain ⟨a, rfl, o, no, zn⟩ := R
    exact ⟨a, rfl, o, zn, .inr (hn a rfl)⟩
  | s i =>
    have R : σ[i]? = some (some v) := R
    unfold back at h
    dsimp only at h
    split at h
    · rename_i w' hq
      cases h
      obtain ⟨x, h1, u, rfl, h2⟩ := S1.sl i _ hq
      rw [R] at h1; cases h1
      exact h2
    · rename_i w' hq
      cases h
      obtain ⟨x, h1, a, rfl, h2, h3⟩ := S1.sl i _ hq
      rw [R] at h1; cases h1
      exact ⟨a, rfl, h2, h3, F.own a ⟨i, ⟨w, .inl hq⟩, R⟩⟩
    · cases h
theorem s_ret (ha : PE X ea (tE B z W' fa)) : PS X (.Return (some ea) pos) (tS B z W' fun e => resE (fa e) retE) := by
  refine ps_imp (ps_ret ha) fun D σ H ⟨G, e, S, h⟩ => ⟨G, e, S, resE_post h fun r e1 G1 H1 v F S1 R n q => ?_⟩
  unfold retE at q
  split at q
  · rename_i fr w hb
    exact q G1 H1 σ F S1 v (ret_res F S1 R n hb)
  · exact q.elim
theorem s_retN : PS X (.Return none pos) (tS B z W' fun e => resE (.ok (.w .non) e) retE) := by
  refine ps_imp ps_retN fun D σ H ⟨G, e, S, h⟩ => ?_
  exact h G H σ .refl S .non Rep.non
theorem iteE_postS {c : RE Bool} {f g : En → RE Fl} (h : PostS B z W' G H e σ (iteE c f g) D) : PostT B z W' σ G H e c fun b H' => if b = true then tS B z W' f D σ H' else tS B z W' g D σ H' := by
  cases c with
  | err => exact h
  | exn x e1 => exact fun G' H' cls d F S R => h G' H' σ cls d F S R
  | ok b e1 =>
    intro G1 H1 F S
    cases b with
    | true => rw [if_pos rfl]; exact ⟨G1, e1, S, PostS.up F h⟩
    | false => rw [if_neg (by decide)]; exact ⟨G1, e1, S, PostS.up F h⟩
theorem s_if {c : En → RE Bool} {f g : En → RE Fl} {sa sb : List Stmt} (hc : PT X ec (tT B z W' c)) (ha : PSs X sa (tS B z W' f)) (hb : PSs X sb (tS B z W' g)) : PS X (.If ec sa sb pos) (tS B z W' fun e => iteE (c e) f g) :=
  ps_imp (ps_if hc ha hb) fun D σ H ⟨G, e, S, h⟩ => ⟨G, e, S, iteE_postS h⟩
theorem s_nil : PSs X [] (tS B z W' fun e => .ok .next e) := pss_imp pss_nil fun D σ H ⟨G, e, S, h⟩ => h G H σ .refl S
theorem s_pass : PS X (.Pass pos) (tS B z W' fun e => .ok .next e) := ps_imp ps_pass fun D σ H ⟨G, e, S, h⟩ => h G H σ .refl S
theorem s_brk : PS X (.Break pos) (tS B z W' fun e => .ok .brk e) := ps_imp ps_break fun D σ H ⟨G, e, S, h⟩ => h G H σ .refl S
theorem s_cont : PS X (.Continue pos) (tS B z W' fun e => .ok .cont e) := ps_imp ps_continue fun D σ H ⟨G, e, S, h⟩ => h G H σ .refl S
theorem s_seq {st : Stmt} {rest : List Stmt} {f g : En → RE Fl} (h1 : PS X st (tS B z W' f)) (h2 : PSs X rest (tS B z W' g)) : PSs X (st :: rest) (tS B z W' fun e => seqE (f e) g) := by
  refine pss_imp (pss_cons h1 h2) fun D σ H ⟨G, e, S, h⟩ => ⟨G, e, S, ?_⟩
  dsimp only at h
  cases hf : f e with
  | err => rw [hf] at h; exact h
  | exn x e1 => rw [hf] at h; exact h
  | ok fl e1 =>
    rw [hf] at h
    cases fl with
    | next => exact fun G1 H1 σ1 F S1 => ⟨G1, e1, S1, PostS.up F h⟩
    | brk => exact h
    | cont => exact h
    | ret fr w => exact h
/-! ### loops -/
theorem s_for {pt : Pt} {fi : En → RE (List W)} {f : En → RE Fl} {iter : Expr} {body : List Stmt} (hp : PySem.PassesOwn (model X.prog X.w) X.A X.env X.xe) (hc : X.calm = true) (hi : PI X tg iter (tI B z W' fi)) (hg : PG X tg (gPt B z pt)) (hb : PSs X body (tS B z W' f)) (hs : plB iter = true) :
    PS X (.For tg iter body [] pos) (tS B z W' fun e => itE (fi e) (forL (bindP pt) f)) := by
  refine ps_imp (ps_for hp hc hi hg hb (fold_pl hs)) fun D σ H ⟨G, e, S, h⟩ => ⟨G, e, S, ?_⟩
  dsimp only at h
  cases hf : fi e with
  | err => rw [hf] at h; exact h
  | exn x e1 => rw [hf] at h; exact fun G' H' cls d F S R => h G' H' σ cls d F S R
  | ok xs e1 =>
    rw [hf] at h
    intro G1 H1 J F1 S1 wk
    have h : PostS B z W' G1 H1 e1 σ (forL (bindP pt) f xs e1) D := PostS.up F1 h
    refine ⟨fun i m σ2 H2 => ∃ G2 e2 pre xs', xs = pre ++ xs' ∧ pre.length = i ∧ m = xs'.length ∧ Sub G1 G2 ∧ StOk B z G2 H2 e2 σ2 ∧ PostS B z W' G2 H2 e2 σ2 (forL (bindP pt) f xs' e2) D,
      ⟨xs.length, G1, e1, [], xs, rfl, rfl, rfl, fun _ _ h => h, S1, h⟩, fun i m σ2 H2 hW => ?_⟩
    obtain ⟨G2, e2, pre, xs', hx, hi, hm, sg, S2, h2⟩ := hW
    cases xs' with
    | nil =>
      exact .inl ⟨wk.stop i G2 H2 sg S2.sub (by rw [hx, ← hi]; simp), h2 G2 H2 σ2 .refl S2⟩
    | cons x xs' =>
      have hg : xs[i]? = some x := by rw [hx, ← hi]; simp
      refine .inr ⟨wk.go i G2 H2 sg S2.sub (by rw [hx, ← hi]; simp), fun σ' H' => ∃ G3 e3, Sub G1 G3 ∧ StOk B z G3 H' e3 σ' ∧ PostS B z W' G3 H' e3 σ' (forL (bindP pt) f xs' e3) D, fun σ' H' hN => ?_, fun u H' hy => ?_⟩
      · obtain ⟨G3, e3, sg3, S3, h3⟩ := hN
        exact ⟨xs'.length, by rw [hm]; exact Nat.lt_succ_self _, G3, e3, pre ++ [x], xs', by rw [hx]; simp, by simp [hi], rfl, sg3, S3, h3⟩
      · obtain ⟨G3, F3, S3, R3⟩ := wk.yld i G2 H2 u H' z e2 σ2 x sg S2 hy hg
        have h3 := PostS.up F3 h2
        unfold forL at h3
        cases hbi : bindP pt x e2 with
        | none => rw [hbi] at h3; exact h3.elim
        | some e3 =>
          rw [hbi] at h3
          dsimp only at h3
          refine ⟨G3, e2, x, e3, S3, R3, hbi, fun σ3 S4 ch => ⟨G3, e3, S4, ?_⟩⟩
          have h4 := PostS.up (ch.fr (G := G3) (H := H')) h3
          have sg3 : Sub G1 G3 := fun a o q => F3.g a o (sg a o q)
          cases hfb : f e3 with
          | err => rw [hfb] at h4; exact h4
          | exn q e4 => rw [hfb] at h4; exact h4
          | ok fl e4 =>
            rw [hfb] at h4
            cases fl with
            | next => exact fun G5 H5 σ5 F5 S5 => ⟨G5, e4, fun a o q => F5.g a o (sg3 a o q), S5, PostS.up F5 h4⟩
            | cont => exact fun G5 H5 σ5 F5 S5 => ⟨G5, e4, fun a o q => F5.g a o (sg3 a o q), S5, PostS.up F5 h4⟩
            | brk => exact h4
            | ret fr w => exact h4
theorem s_while {c : En → RE Bool} {f : En → RE Fl} {n : Nat} {body : List Stmt} (hp : PySem.PassesOwn (model X.prog X.w) X.A X.env X.xe) (hc : PT X ec (tT B z W' c)) (hb : PSs X body (tS B z W' f)) : PS X (.While ec body [] pos) (tS B z W' fun e => whileL c f n e) := by
  refine ps_imp (ps_while hp hc hb) fun D σ H ⟨G, e, S, h⟩ => ⟨fun m σ2 H2 => ∃ G2 e2, StOk B z G2 H2 e2 σ2 ∧ PostS B z W' G2 H2 e2 σ2 (whileL c f m e2) D, ⟨n, G, e, S, h⟩, fun m σ2 H2 hW => ?_⟩
  obtain ⟨G2, e2, S2, h2⟩ := hW
  cases m with
  | zero => exact h2.elim
  | succ m =>
    refine ⟨G2, e2, S2, ?_⟩
    unfold whileL at h2
    cases hce : c e2 with
    | err => rw [hce] at h2; exact h2
    | exn x e1 => rw [hce] at h2; exact fun G' H' cls d F S R => h2 G' H' σ2 cls d F S R
    | ok b e3 =>
      rw [hce] at h2
      intro G3 H3 F3 S3
      cases b with
      | false =>
        rw [if_neg (by decide)]
        exact h2 G3 H3 σ2 F3 S3
      | true =>
        rw [if_pos rfl]
        dsimp only at h2
        have h3 := PostS.up F3 h2
        refine ⟨fun σ' H' => ∃ G3 e3, StOk B z G3 H' e3 σ' ∧ PostS B z W' G3 H' e3 σ' (whileL c f m e3) D, fun σ' H' hN => ⟨m, Nat.lt_succ_self _, hN⟩, G3, e3, S3, ?_⟩
        cases hfb : f e3 with
        | err => rw [hfb] at h3; exact h3
        | exn q e4 => rw [hfb] at h3; exact h3
        | ok fl e4 =>
          rw [hfb] at h3
          cases fl with
          | next => exact fun G5 H5 σ5 F5 S5 => ⟨G5, e4, S5, PostS.up F5 h3⟩
          | cont => exact fun G5 H5 σ5 F5 S5 => ⟨G5, e4, S5, PostS.up F5 h3⟩
          | brk => exact h3
          | ret fr w => exact h3

/-! ### stores -/
/-- what nobody holds stays so, but v -/
structure FKp (B : Bd) (z : Option Addr) (r : R1) (v : V) (G H : Hp) (e : En) (σ : St) (G' H' : Hp) (e' : En) (σ' : St) : Prop where
  g : Sub G G'
  f : ∀ b w, FOk B z G H e σ w b → (∀ w', r = .f w' → v ≠ .ref b) → FOk B z G' H' e' σ' w b
theorem FKp.fr (F : Fr G H e σ G' H' e' σ') : FKp B z r v G H e σ G' H' e' σ' := ⟨F.g, fun b w f _ => f.fr F⟩
theorem FKp.trans (x : FKp B z r v G H e σ G1 H1 e1 σ1) (y : FKp B z r v G1 H1 e1 σ1 G2 H2 e2 σ2) : FKp B z r v G H e σ G2 H2 e2 σ2 := ⟨fun a o h => y.g a o (x.g a o h), fun b w f n => y.f b w (x.f b w f n) n⟩
def PostU (B : Bd) (z : Option Addr) (W' : WX) (Gb Hb : Hp) (eb' : En) (σb : St) (r0 : R1) (v : V) (G H : Hp) (e : En) (σ : St) (r : RE Unit) (Q : St → Hp → Prop) : Prop := match r with
  | .err => False
  | .ok _ e' => ∀ G' H' σ', Fr Gb Hb eb' σb G' H' e' σ' → FKp B z r0 v G H e σ G' H' e' σ' → StOk B z G' H' e' σ' → Q σ' H'
  | .exn x e' => ∀ G' H' σ' cls d, Fr Gb Hb eb' σb G' H' e' σ' → StOk B z G' H' e' σ' → ExR B G' H' x cls d → W' cls d σ' H'
/-- a target takes r; Gb Hb eb' σb: where the statement began -/
def gTg (B : Bd) (z : Option Addr) (W' : WX) (f : R1 → En → RE Unit) : TG := fun v σ H Q => ∃ Gb Hb eb' σb G e r, Fr Gb Hb eb' σb G H e σ ∧ StOk B z G H e σ ∧ RepR B z G H e σ r v ∧ New Hb r v ∧ PostU B z W' Gb Hb eb' σb r v G H e σ (f r e) Q
theorem store_o {i : Nat} (S : StOk B z G H e σ) (fo : FOk B z G H e σ w a) (F : Fr Gb Hb eb' σb G H e σ) (hn : Hb a = none) (h : store i (.o w) e = some e') : StOk B z G H e' (σ.set i (some (.ref a))) ∧ Fr Gb Hb eb' σb G H e' (σ.set i (some (.ref a))) ∧ FKp B z (.f w) (.ref a) G H e σ G H e' (σ.set i (some (.ref a))) := by
  unfold store at h
  have hl : i < e.length ∧ e' = e.set i (.o w) := by
    split at h
    · cases h
    · rename_i hq
      cases h
      exact ⟨(List.getElem?_eq_some_iff.mp hq).1, rfl⟩
    · cases h
  obtain ⟨hl, rfl⟩ := hl
  have hls : i < σ.length := by rw [← S.len]; exact hl
  have oa : ∀ j b, OwnAt (e.set i (.o w)) (σ.set i (some (.ref a))) j b → (j = i ∧ b = a) ∨ (j ≠ i ∧ OwnAt e σ j b) := by
    rintro j b ⟨⟨u, c⟩, d⟩
    by_cases hj : j = i
    · subst hj
      rw [List.getElem?_set_self hls] at d
      cases d
      exact .inl ⟨rfl, rfl⟩
    · rw [List.getElem?_set_ne (Ne.symm hj)] at c d
      exact .inr ⟨hj, ⟨u, c⟩, d⟩
  refine ⟨⟨S.sub, by rw [List.length_set, List.length_set]; exact S.len, fun j q hq => ?_, fun j l b hj hk => ?_, S.zin⟩, ⟨F.g, F.keep, F.tr, fun b ⟨j, q⟩ => ?_⟩, ⟨fun _ _ h => h, fun b w' f nb => ⟨f.own, fun ⟨j, q⟩ => ?_, f.zn⟩⟩⟩
  · by_cases hj : j = i
    · subst hj
      rw [List.getElem?_set_self hl] at hq
      cases hq
      exact ⟨_, List.getElem?_set_self hls, a, rfl, fo.own, fo.zn⟩
    · rw [List.getElem?_set_ne (Ne.symm hj)] at hq ⊢
      exact S.sl j q hq
  · rcases oa j b hj with ⟨h1, h2⟩ | ⟨h1, h2⟩
    · rcases oa l b hk with ⟨h3, h4⟩ | ⟨h3, h4⟩
      · rw [h1, h3]
      · exact absurd ⟨l, h2 ▸ h4⟩ fo.no
    · rcases oa l b hk with ⟨h3, h4⟩ | ⟨h3, h4⟩
      · exact absurd ⟨j, h4 ▸ h2⟩ fo.no
      · exact S.inj j l b h2 h4
  · rcases oa j b q with ⟨h1, h2⟩ | ⟨h1, h2⟩
    · exact .inr (by rw [h2]; exact hn)
    · exact F.own b ⟨j, h2⟩
  · rcases oa j b q with ⟨h1, h2⟩ | ⟨h1, h2⟩
    · exact nb w rfl (by rw [h2])
    · exact f.no ⟨j, h2⟩
/-- what is handed on, seen from where the statement began -/
theorem use_base (F : Fr Gb Hb eb' σb G H e σ) (S : StOk B z G H e σ) (R : RepR B z G H e σ r v) (n : New Hb r v) (hu : use r e = some (w, e1)) : ∃ G2, Fr Gb Hb eb' σb G2 H e1 σ ∧ StOk B z G2 H e1 σ ∧ Rep B G2 w v ∧ FKp B z r v G H e σ G2 H e1 σ := by
  cases r with
  | w w' => cases hu; exact ⟨G, F, S, R, .fr .refl⟩
  | l rs => cases hu
  | f w' =>
    unfold use at hu
    dsimp only at hu
    split at hu
    · cases hu
      obtain ⟨a, rfl, o, no, zn⟩ := R
      obtain ⟨ob, qo, hr⟩ := o.ex
      have sg : Sub G (upd G a ob) := fun b u q => by rw [upd_ne (ne_of_none q o.no)]; exact q
      have ha : Hb a = none := n _ _ rfl rfl
      refine ⟨upd G a ob, ⟨fun b u q => sg b u (F.g b u q), fun b u q nb => ?_, F.tr, F.own⟩, S.fixF qo o.no no, .obj upd_same (hr.mono sg), ⟨sg, fun b w' f nb => ?_⟩⟩
      · obtain ⟨h1, h2⟩ := F.keep b u q nb
        exact ⟨h1, (upd_ne (ne_of_none q ha)).trans h2⟩
      · have hb : b ≠ a := fun q => nb w rfl (by rw [q])
        obtain ⟨u, q, r⟩ := f.own.ex
        exact ⟨⟨⟨u, q, r.mono sg⟩, by rw [upd_ne hb]; exact f.own.no, f.own.mu⟩, f.no, f.zn⟩
    · cases hu
  | s i =>
    obtain ⟨G2, F2, S2, R2⟩ := use_ok (Fr.refl (G := G) (H := H) (e := e) (σ := σ)) S R (fun _ _ q => by cases q) hu
    exact ⟨G2, F.trans F2, S2, R2, .fr F2⟩
def usePt (q : Pt) (r : R1) (e : En) : RE Unit := match use r e with
  | some (w, e') => ofU (bindP q w e')
  | none => .err
theorem putP_use {q : Pt} (h : ∀ i w, ¬ (q = .n i ∧ r = .f w)) : putP q r e = usePt q r e := by
  unfold putP
  split
  · rename_i i w
    exact absurd ⟨rfl, rfl⟩ (h i w)
  · rfl
theorem usePt_ok {q : Pt} {r : R1} {Q : St → Hp → Prop} (F : Fr Gb Hb eb' σb G H e σ) (S : StOk B z G H e σ) (R : RepR B z G H e σ r v) (n : New Hb r v) (hp : PostU B z W' Gb Hb eb' σb r v G H e σ (usePt q r e) Q) : gPt B z q v σ H Q := by
  unfold usePt at hp
  cases hu : use r e with
  | none => rw [hu] at hp; exact hp.elim
  | some u =>
    obtain ⟨w, e1⟩ := u
    rw [hu] at hp
    dsimp only at hp
    obtain ⟨G2, F2, S2, R2, K2⟩ := use_base F S R n hu
    cases hb : bindP q w e1 with
    | none => rw [hb] at hp; exact hp.elim
    | some e2 =>
      rw [hb] at hp
      exact ⟨G2, e1, w, e2, S2, R2, hb, fun σ' S' ch => hp G2 H σ' (F2.trans ch.fr) (K2.trans (.fr ch.fr)) S'⟩
/-- a name takes a value -/
theorem putN_ok {i : Nat} {Q : St → Hp → Prop} (F : Fr Gb Hb eb' σb G H e σ) (S : StOk B z G H e σ) (R : RepR B z G H e σ r v) (n : New Hb r v) (hp : PostU B z W' Gb Hb eb' σb r v G H e σ (putP (.n i) r e) Q) : Q (σ.set i (some v)) H := by
  have val : (∀ w, r ≠ .f w) → Q (σ.set i (some v)) H := fun hr => by
    rw [putP_use (fun j w q => hr w q.2)] at hp
    obtain ⟨G2, e1, w, e2, S2, R2, hb, q⟩ := usePt_ok F S R n hp
    obtain ⟨S', ch⟩ := store_st S2 R2 hb
    exact q _ S' ch
  cases r with
  | w w => exact val fun w q => by cases q
  | s j => exact val fun w q => by cases q
  | l rs => exact R.elim
  | f w =>
    have hp : PostU B z W' Gb Hb eb' σb (.f w) v G H e σ (ofU (store i (.o w) e)) Q := hp
    cases hs : store i (.o w) e with
    | none => rw [hs] at hp; exact hp.elim
    | some e' =>
      rw [hs] at hp
      have hn := fun a => n w a rfl
      obtain ⟨a, rfl, o, no, zn⟩ := R
      obtain ⟨S', F', K'⟩ := store_o S ⟨o, no, zn⟩ F (hn a rfl) hs
      exact hp G H _ F' K' S'
theorem pg_p (xx : XOk L B KK k N s X) {q : Pt} (h : ptB N s q tg = true) : PG X tg (gTg B z W' (putP q)) := by
  cases q with
  | n i =>
    unfold ptB at h
    split at h
    · rename_i y q
      obtain ⟨h1, h2, h3⟩ := st_of xx h
      exact pg_imp (pg_name (by rw [xx.hN]; exact xx.nd) h1 h2 h3) fun v σ H Q ⟨Gb, Hb, eb', σb, G, e, r, F, S, R, n, hp⟩ => putN_ok F S R n hp
    · cases h
  | t2 a b => exact pg_imp (pg_pt xx h) fun v σ H Q ⟨Gb, Hb, eb', σb, G, e, r, F, S, R, n, hp⟩ => usePt_ok F S R n (by rw [← putP_use (fun j w q => by cases q.1)]; exact hp)
  | t3 a b c => exact pg_imp (pg_pt xx h) fun v σ H Q ⟨Gb, Hb, eb', σb, G, e, r, F, S, R, n, hp⟩ => usePt_ok F S R n (by rw [← putP_use (fun j w q => by cases q.1)]; exact hp)
end Iv
end

section
set_option Elab.async false
set_option linter.all false
set_option maxRecDepth 100000
namespace Iv
open PySem L2
set_option autoImplicit false
variable {B : Bd} {z : Option Addr} {G H G' H' G0 H0 G1 H1 G2 H2 Gb Hb : Hp} {e e' e0 e1 e2 eb' : En} {σ σ' σ0 σ1 σ2 σb : St} {w x y x' : W} {v v1 v2 : V} {a : Addr} {r r1 : R1} {W' : WX} {D : Ends}
variable {L : Lx} {KK : Nat → List Sl → RF} {k : Nat} {N : List Str} {s : Sx} {X : Cx} {fa fb fc : En → RE R1} {ea eb ec : Expr} {pos p p2 : Pos} {tg : Expr}

/-! ### a changed object -/
theorem chg_ok {i : Nat} {g : W → Option W} (h : chg i g e = some e') : ∃ x y s', g x = some y ∧ ((e[i]? = some (.o x) ∧ s' = .o y) ∨ (e[i]? = some (.p x) ∧ s' = .p y)) ∧ e' = e.set i s' := by
  unfold chg at h
  split at h
  · rename_i x hq
    split at h
    · rename_i y hg; cases h; exact ⟨x, y, _, hg, .inl ⟨hq, rfl⟩, rfl⟩
    · cases h
  · rename_i x hq
    split at h
    · rename_i y hg; cases h; exact ⟨x, y, _, hg, .inr ⟨hq, rfl⟩, rfl⟩
    · cases h
  · cases h
theorem own_slot {i : Nat} {s' : Sl} (S : StOk B z G H e σ) (hi : (e[i]? = some (.o x) ∧ s' = .o y) ∨ (e[i]? = some (.p x) ∧ s' = .p y)) : ∃ a, σ[i]? = some (some (.ref a)) ∧ Own B G H x a := by
  rcases hi with ⟨h, _⟩ | ⟨h, _⟩
  · obtain ⟨u, h1, a, rfl, h2, _⟩ := S.sl i _ h
    exact ⟨a, h1, h2⟩
  · obtain ⟨u, h1, a, rfl, h2, _⟩ := S.sl i _ h
    exact ⟨a, h1, h2⟩
theorem mutO {i : Nat} {s' : Sl} {o' : HO} (S : StOk B z G H e σ) (hi : (e[i]? = some (.o x) ∧ s' = .o y) ∨ (e[i]? = some (.p x) ∧ s' = .p y)) (ha : σ[i]? = some (some (.ref a))) (o : Own B G H x a) (h : HoRep B G y o') (mu : isMut y = true) :
    StOk B z G (upd H a o') (e.set i s') σ ∧ Fr G H e σ G (upd H a o') (e.set i s') σ := by
  refine S.call1 hi ha ⟨fun _ _ h => h, fun b u q => ?_, fun b u q nb => ?_, fun b q => ?_⟩ ⟨⟨o', upd_same, h⟩, o.no, mu⟩
  · rw [upd_ne (ne_of_none q o.no)]; exact S.sub b u q
  · have hb : b ≠ a := fun q => nb (by rw [q])
    exact ⟨by rw [upd_ne hb]; exact q, rfl⟩
  · by_cases hb : b = a
    · subst hb; rw [upd_same]; exact fun q => by cases q
    · rw [upd_ne hb]; exact q
def rSt (X : Cx) : TSet := fun o i v H Q => ∃ t : TSet, PSet X t ∧ t o i v H Q
theorem rSt_ok : PSet X (rSt X) := fun pins s σ H o i v ov iv u Q I ro ri rv ⟨t, ht, q⟩ => ht pins s σ H o i v ov iv u Q I ro ri rv q
theorem setW_ok (hr : Room k X.A) (S : StOk B z G H e σ) (o : Own B G H x a) (hy : RdW B G H y v1) (hw : Rep B G w v2) (h : setW x y w = some x') : ∃ o', HoRep B G x' o' ∧ isMut x' = true ∧ ∀ Q : Hp → Prop, Q (upd H a o') → rSt X (.ref a) v1 v2 H Q := by
  have hu : X.A.units + 1 < cLine := by have := hr.un; omega
  obtain ⟨ob, ho, hrep⟩ := o.ex
  unfold setW at h
  split at h
  · split at h
    · rename_i i
      split at h
      · rename_i j hj
        cases h
        cases hrep with
        | lst rs =>
          rename_i vs
          refine ⟨.lst (vs.set j v2), .lst (rs.set hw j), rfl, fun Q q => ⟨_, set_list, a, vs, i, j, rfl, hy.int, ho, ?_, q⟩⟩
          rw [← rs.length]
          exact hj
      · cases h
    · cases h
  · split at h
    · rename_i ks ws ky hky
      split at h
      · rename_i c
        cases h
        cases hrep with
        | dK q rs =>
          rename_i kvs
          subst q
          obtain ⟨p1, p2⟩ := putK_ok (ky := ky) hw rs
          refine ⟨.dK (L2.putK kvs ky v2), .dK p1 p2, rfl, fun Q q => ⟨_, set_dict hu, a, _, rfl, ?_, q⟩⟩
          rw [toKy_ok hky hy]
          rw [List.length_map] at c
          exact DPut.k ho (by rw [← lim_eq]; exact c)
      · cases h
    · cases h
  · split at h
    · split at h
      · rename_i ks ws _ _ ky hky
        split at h
        · rename_i c
          cases h
          cases hrep with
          | dT q rs =>
            rename_i kvs
            subst q
            obtain ⟨p1, p2⟩ := putT_ok (ky := ky) hw rs
            obtain ⟨b, us, rfl, hb, rt⟩ := hy.tup
            refine ⟨.dT (L2.putK kvs ky v2), .dT p1 p2, rfl, fun Q q => ⟨_, set_dict hu, a, _, rfl, ?_, q⟩⟩
            rw [List.length_map] at c
            exact DPut.t ho (by rw [← toKys_ok hky rt]; exact S.sub _ _ hb) (by rw [← lim_eq]; exact c)
        · cases h
      · cases h
    · cases h
  · cases h
theorem hasE_slot {α : Type} {i : Nat} {rr : RE α} (S : StOk B z G H e σ) : (hasE i e rr = rr ∧ ∃ v, σ[i]? = some (some v)) ∨ hasE i e rr = .err := by
  unfold hasE
  split
  · rename_i w hq
    obtain ⟨x, h1, v, rfl, h2⟩ := S.sl i _ hq
    exact .inl ⟨rfl, v, h1⟩
  · rename_i w hq
    obtain ⟨x, h1, a, rfl, h2⟩ := S.sl i _ hq
    exact .inl ⟨rfl, _, h1⟩
  · rename_i w hq
    obtain ⟨x, h1, a, rfl, h2⟩ := S.sl i _ hq
    exact .inl ⟨rfl, _, h1⟩
  · exact .inr rfl
theorem assign_pl {o i : Expr} {env : Env} (h : plB i = true) : ∀ v, assign (.Subscript o i pos) env v = (do
      let ov ← holding [v] (eval o env)
      let iv ← holding [v, ov] (eval i env)
      standAt pos
      holding [v, ov, iv] (setItem ov iv v)
      release [v, ov, iv] []) := by
  cases i <;> first | (intro _; rfl) | (cases h)
theorem pg_s {i : Nat} {y : Str} {py : Pos} {idx : Expr} (xx : XOk L B KK k N s X) (hv : viB N s i y = true) (hp : plB idx = true) (hi : PE X idx (tE B z W' fa)) : PG X (.Subscript (.Name y py) idx pos) (gTg B z W' (putS i fa)) := by
  refine pg_imp (pg_sub (vi_of xx hv).1 hi rSt_ok (assign_pl hp)) fun v σ H Q ⟨Gb, Hb, eb', σb, G, e, r, F, S, R, n, h⟩ => ?_
  unfold putS at h
  cases hu : use r e with
  | none => rw [hu] at h; exact h.elim
  | some q =>
    obtain ⟨w, e1⟩ := q
    rw [hu] at h
    dsimp only at h
    obtain ⟨G1, F1, S1, R1', K1⟩ := use_base F S R n hu
    rcases hasE_slot S1 (i := i) (rr := resE (fa e1) (putS2 i w)) with ⟨he, vv, hvv⟩ | he
    · rw [he] at h
      refine ⟨vv, hvv, G1, e1, S1, ?_⟩
      cases hf : fa e1 with
      | err => rw [hf] at h; exact h
      | exn x e2 => rw [hf] at h; exact fun G' H' cls d F' S R => h G' H' σ cls d (F1.trans F') S R
      | ok r2 e2 =>
        rw [hf] at h
        intro G2 H2 v2 F2 S2 R2 n2
        unfold resE putS2 at h
        dsimp only at h
        split at h
        · rename_i y hy
          have ry := peek_ok S2 R2 hy
          cases hc : chg i (fun x => setW x y w) e2 with
          | none => rw [hc] at h; exact h.elim
          | some e3 =>
            rw [hc] at h
            obtain ⟨x, x', s', hx, hsl, rfl⟩ := chg_ok hc
            obtain ⟨a, ha, o⟩ := own_slot S2 hsl
            rw [hvv] at ha; cases ha
            obtain ⟨o', h1, h2, h3⟩ := setW_ok xx.room S2 o ry (Rep.mono F2.g _ _ R1') hx
            refine h3 _ ?_
            obtain ⟨S3, F3⟩ := mutO S2 hsl hvv o h1 h2
            exact h G2 _ σ (F1.trans (F2.trans F3)) (K1.trans (.fr (F2.trans F3))) S3
        · exact h.elim
    · rw [he] at h; exact h.elim

/-! ### target = value -/
def swB : Expr → Expr → Bool
  | .Tuple .., .Tuple .. => false
  | .List .., _ => false
  | _, _ => true
theorem sw_none {env : Env} (h : swB tg ea = true) : swappedStores [tg] ea env = pure none := by
  cases tg <;> first | rfl | (cases h; done) | (cases ea <;> first | rfl | (cases h; done))
theorem sole_nc {l : Nat} {env : Env} (h : ncB ea = true) : swapsWithSole [tg] ea l env = pure false := swaps_nc h
theorem one_pl' {env : Env} (h : plB tg = true) : (assignEach [tg] env).map (·.2) = [assign tg env] := by
  rw [assignEach_pl h]; rfl
theorem s_asg {f : R1 → En → RE Unit} (ha : PE X ea (tE B z W' fa)) (hg : PG X tg (gTg B z W' f)) (hs : swapsWithSole [tg] ea pos.line X.env = pure false) (hw : swB tg ea = true) (hp : plB tg = true) :
    PS X (.Assign [tg] ea pos) (tS B z W' fun e => resE (fa e) fun r e1 => unitF (f r e1)) := by
  refine ps_imp (ps_asg ha hg hs (sw_none hw) (one_pl' hp)) fun D σ H ⟨G, e, S, h⟩ => ⟨G, e, S, resE_post h fun r e1 G1 H1 v F S1 R n q => ?_⟩
  refine ⟨G, H, e, σ, G1, e1, r, F, S1, R, n, ?_⟩
  cases hf : f r e1 with
  | err => rw [hf] at q; exact q
  | exn x e2 => rw [hf] at q; exact q
  | ok u e2 => rw [hf] at q; exact fun G' H' σ' F _ S => q G' H' σ' F S

/-! ### xs[i] += e -/
theorem get_list : PGet X (fun o i H Q => ∃ p xs j z, o = .ref p ∧ i = .int j ∧ SqL X.K H p xs ∧ L2.atI xs j = some z ∧ Q z H) := by
  intro pins s σ H x y v u Q I rx ry h
  obtain ⟨p, xs, i, z, rfl, rfl, hq, he, q⟩ := h
  cases rx
  obtain ⟨t, rfl⟩ := ry
  obtain ⟨its, r, pl, hz⟩ := I.list hq
  obtain ⟨j, h1, h2, h3, h4, h5⟩ := atI_get he
  obtain ⟨w, ew, rw'⟩ := r.get h2
  have hl := r.length
  have hn := line63
  have fin : EP X pins σ Q w s := ⟨z, H, I, rw', q⟩
  by_cases h0 : 0 ≤ i
  · have hj : i.toNat = j := by
      rw [seqIndex_of h0 h5] at h1
      exact Option.some.inj h1
    exact PySem.wpAny_getItem_list pl.isList h0 (by omega) (by rw [hj]; simpa using ew) fin
  · have hj : (i + (its.toArray.size : Int)).toNat = j := by
      rw [seqIndex_neg (by omega) h4] at h1
      rw [List.size_toArray, ← hl]
      exact Option.some.inj h1
    exact PySem.wpAny_getItem_list_neg pl.isList (by omega) (by rw [List.size_toArray] <;> omega) (by omega) (by rw [hj]; simpa using ew) fin
theorem get_dict (hu : X.A.units + 1 < cLine) : PGet X (fun o i H Q => ∃ a v, o = .ref a ∧ DGet H a i (some v) ∧ Q v H) := by
  intro pins s σ H x y v u Q I rx ry h
  obtain ⟨a, z, rfl, g, q⟩ := h
  cases rx
  exact d_getItem hu I g ry fun w' s3 I3 rw' => ⟨z, H, I3, rw', q⟩
def rGt (X : Cx) : V → V → Hp → VK → Prop := fun o i H Q => ∃ t, PGet X t ∧ t o i H Q
theorem rGt_ok : PGet X (rGt X) := fun pins s σ H o i ov iv Q I ro ri ⟨t, ht, q⟩ => ht pins s σ H o i ov iv Q I ro ri q
theorem getW_ok (hr : Room k X.A) (S : StOk B z G H e σ) (hx : RdW B G H x v1) (hy : RdW B G H y v2) (h : ixW x y = some w) (hm : isMut x = true) (Q : VK) (q : ∀ v, Rep B G w v → Q v H) : rGt X v1 v2 H Q := by
  have hu : X.A.units + 1 < cLine := by have := hr.un; omega
  unfold ixW at h
  split at h
  · obtain ⟨p, vs, rfl, hp, rs⟩ := hx.lst S.sub
    obtain ⟨v, h1, h2⟩ := atL_ok h rs
    rw [hy.int]
    exact ⟨_, get_list, p, vs, _, v, rfl, rfl, .of hp, h1, q v h2⟩
  · cases hm
  · split at h
    · rename_i ks vs _ ky hky
      obtain ⟨a, kvs, rfl, ha, rfl, rs⟩ := hx.dK S.sub
      have ev := toKy_ok hky hy
      rcases getK_ok (ky := ky) rs with ⟨h1, h2⟩ | ⟨w', v, h1, h2, h3⟩
      · rw [h1] at h; cases h
      · rw [h1] at h; cases h
        exact ⟨_, get_dict hu, a, v, rfl, by rw [ev, ← h2]; exact DGet.k ha, q v h3⟩
    · cases h
  · split at h
    · rename_i ks vs _ _ ky hky
      obtain ⟨a, kvs, rfl, ha, rfl, rs⟩ := hx.dT S.sub
      obtain ⟨b, us, rfl, hb, rt⟩ := hy.tup
      have ev := toKys_ok hky rt
      rcases getT_ok (ky := ky) rs with ⟨h1, h2⟩ | ⟨w', v, h1, h2, h3⟩
      · rw [h1] at h; cases h
      · rw [h1] at h; cases h
        exact ⟨_, get_dict hu, a, v, rfl, by rw [← h2]; exact DGet.t ha (by rw [← ev]; exact S.sub _ _ hb), q v h3⟩
    · cases h
  · cases h
def rIp (X : Cx) (o : Operator) : TIp := fun x y H Q => ∃ t : TIp, PIp X o t ∧ t x y H Q
theorem rIp_ok {o : Operator} : PIp X o (rIp X o) := fun pins s σ H x y v u Q I rx ry ⟨t, ht, q⟩ => ht pins s σ H x y v u Q I rx ry q
theorem augOp_ok {o : BOp} {i j m : Int} {Q : VK} (h : augOp o i j = some m) (q : Q (.int m) H) : rIp X (bop o) (.int i) (.int j) H Q := by
  cases o with
  | add => cases h; exact ⟨_, ip_add, i, j, rfl, rfl, q⟩
  | sub => cases h; exact ⟨_, ip_sub, i, j, rfl, rfl, q⟩
  | _ => cases h
theorem augStore_pl {i : Expr} (h : plB i = true) : ∀ ov iv new, augStore i ov iv new = (do holding [new, ov, iv] (setItem ov iv new); release [new, ov, iv] []; pure .next) := by
  cases i <;> first | (intros; rfl) | (cases h)
theorem s_aug {i : Nat} {o : BOp} {y : Str} {py : Pos} {idx : Expr} (xx : XOk L B KK k N s X) (hv : viB N s i y = true) (hp : plB idx = true) (ha : PE X idx (tE B z W' fa)) (hb : PE X eb (tE B z W' fb)) :
    PS X (.AugAssign (.Subscript (.Name y py) idx p) (bop o) eb pos) (tS B z W' fun e => hasE i e (resE (fa e) (augE i o fb))) := by
  refine ps_imp (ps_augS (vi_of xx hv).1 ha rGt_ok hb (rIp_ok (o := bop o)) rSt_ok (augStore_pl hp)) fun D σ H ⟨G, e, S, h⟩ => ?_
  rcases hasE_slot S (i := i) (rr := resE (fa e) (augE i o fb)) with ⟨he, vv, hvv⟩ | he
  · dsimp only at h
    rw [he] at h
    refine ⟨vv, hvv, G, e, S, resE_post h fun r e1 G1 H1 v F1 S1 R1' n1 q => ?_⟩
    unfold augE at q
    split at q
    · rename_i y
      split at q
      · rename_i x hx
        have hown : ∃ a, vv = .ref a ∧ Own B G1 H1 x a := by
          unfold mutAt at hx
          split at hx
          · rename_i w' hq
            cases hx
            obtain ⟨u, h1, a, rfl, h2, _⟩ := S1.sl i _ hq
            rw [hvv] at h1; cases h1
            exact ⟨a, rfl, h2⟩
          · rename_i w' hq
            cases hx
            obtain ⟨u, h1, a, rfl, h2, _⟩ := S1.sl i _ hq
            rw [hvv] at h1; cases h1
            exact ⟨a, rfl, h2⟩
          · cases hx
        obtain ⟨a, rfl, ow⟩ := hown
        obtain ⟨ob, hob, hrob⟩ := ow.ex
        split at q
        · rename_i old hix
          refine getW_ok xx.room S1 (.inr ⟨a, ob, rfl, hob, hrob, ow.mu⟩) (.inl R1') hix ow.mu _ fun v3 r3 => ?_
          have e3 := (show RdW B G1 H1 (.int old) v3 from .inl r3).int
          subst e3
          refine ⟨G1, e1, S1, ?_⟩
          have q := PostS.up F1 q
          refine resE_post q fun r2 e2 G2 H2 v4 F2 S2 R2 n2 q => ?_
          unfold augE2 at q
          split at q
          · rename_i zz hz
            have rz := (peek_ok S2 R2 hz).int
            subst rz
            split at q
            · rename_i new hnew
              refine augOp_ok hnew ?_
              cases hc : chg i (fun x => setW x y (.int new)) e2 with
              | none => rw [hc] at q; exact q.elim
              | some e3 =>
                rw [hc] at q
                obtain ⟨x2, x', s', hx2, hsl, rfl⟩ := chg_ok hc
                obtain ⟨a, ha, o⟩ := own_slot S2 hsl
                rw [hvv] at ha; cases ha
                obtain ⟨o', h1, h2, h3⟩ := setW_ok xx.room S2 o (.inl (Rep.mono F2.g _ _ R1')) (.int new) hx2
                refine h3 _ ?_
                obtain ⟨S3, F3⟩ := mutO S2 hsl hvv o h1 h2
                exact q G2 _ σ (F2.trans F3) S3
            · exact q.elim
          · exact q.elim
        · exact q.elim
      · exact q.elim
    · exact q.elim
  · dsimp only at h
    rw [he] at h; exact h.elim
end Iv
end

section
set_option Elab.async false
set_option linter.all false
set_option maxRecDepth 100000
namespace Iv
open PySem L2
def starB : Expr → Bool
  | .Starred .. => true
  | _ => false
def nmOf (kf : Str → Option NameKind) (line : Nat) : Expr → Option Str
  | .Name id pos => if (kf id == some .local && pos.line == line) = true then some id else none
  | _ => none
def lineOf (ts : List Expr) : Nat := (ts.head?.map (·.pos.line)).getD 0
theorem sw_eq {ts vs : List Expr} {k k2 : Nat} {p p2 : Pos} {env : Env} : swappedStores [.Tuple ts k p] (.Tuple vs k2 p2) env =
    if (!(ts.length == 2 || ts.length == 3) || vs.length != ts.length || env.blockKind != ScopeKind.function) = true then pure none else
    if vs.any starB = true then pure none else
    if ((ts.filterMap (nmOf env.kindOf (lineOf ts))).length != ts.length || (ts.filterMap (nmOf env.kindOf (lineOf ts))).eraseDups.length != (ts.filterMap (nmOf env.kindOf (lineOf ts))).length) = true then pure none else
    if vs.all (foldedForSure 8) = true then pure none else
    if vs.all (constantsAlone 8) = true then (do unsupported "assign.tuple-of-constant-expressions:order-of-the-stores"; pure (some (ts.filterMap (nmOf env.kindOf (lineOf ts))))) else pure (some (ts.filterMap (nmOf env.kindOf (lineOf ts)))) := by
  rfl
theorem star_pl' {vs : List Expr} (h : vs.all plB = true) : vs.any starB = false := by
  induction vs with
  | nil => rfl
  | cons v vs ih =>
    rw [List.all_cons, Bool.and_eq_true] at h
    rw [List.any_cons, ih h.2, Bool.or_false]
    cases v <;> first | rfl | (cases h.1; done)
/-- the pair is made -/
def parN (kf : Str → Option NameKind) (ts vs : List Expr) : Bool := (ts.filterMap (nmOf kf (lineOf ts))).length != ts.length || (ts.filterMap (nmOf kf (lineOf ts))).eraseDups.length != (ts.filterMap (nmOf kf (lineOf ts))).length || vs.all (foldedForSure 8) || !(ts.length == 2 || ts.length == 3)
theorem sw_no {ts vs : List Expr} {k k2 : Nat} {p p2 : Pos} {env : Env} (hv : vs.all plB = true) (h : parN env.kindOf ts vs = true) : swappedStores [.Tuple ts k p] (.Tuple vs k2 p2) env = pure none := by
  rw [sw_eq]
  split
  · rfl
  · rename_i h0
    rw [star_pl' hv, if_neg (by decide)]
    split
    · rfl
    · rename_i h1
      split
      · rfl
      · rename_i h2
        exfalso
        unfold parN at h
        simp only [Bool.or_eq_true, Bool.not_eq_true', not_or, Bool.not_eq_false, Bool.not_eq_true] at h h0 h1 h2
        simp_all
theorem sw_yes {ts vs : List Expr} {k k2 : Nat} {p p2 : Pos} {env : Env} (hb : env.blockKind = .function) (hv : vs.all plB = true) (hl : vs.length = ts.length) (h : parN env.kindOf ts vs = false) (hc : vs.all (constantsAlone 8) = false) : swappedStores [.Tuple ts k p] (.Tuple vs k2 p2) env = pure (some (ts.filterMap (nmOf env.kindOf (lineOf ts)))) := by
  unfold parN at h
  simp only [Bool.or_eq_false_iff, Bool.not_eq_false'] at h
  rw [sw_eq, if_neg (by simp [hb, hl, h.2]), star_pl' hv, if_neg (by decide), if_neg (by simp [h.1.1.1, h.1.1.2]), if_neg (by simp [h.1.2]), if_neg (by simp [hc])]
set_option autoImplicit false
variable {B : Bd} {z : Option Addr} {G H G' H' G0 H0 G1 H1 G2 H2 Gb Hb : Hp} {e e' e0 e1 e2 eb' : En} {σ σ' σ0 σ1 σ2 σb : St} {w x y x' : W} {v v1 v2 : V} {a : Addr} {r r1 : R1} {W' : WX} {D : Ends}
variable {L : Lx} {KK : Nat → List Sl → RF} {k : Nat} {N : List Str} {s : Sx} {X : Cx} {fa fb fc : En → RE R1} {ea eb ec : Expr} {pos p p2 : Pos} {tg : Expr}

/-! ### a list that grows -/
theorem mutAt_slot {i : Nat} (S : StOk B z G H e σ) (h : mutAt i e = some x) : ∃ a, σ[i]? = some (some (.ref a)) ∧ Own B G H x a := by
  unfold mutAt at h
  split at h
  · rename_i w' hq
    cases h
    obtain ⟨u, h1, a, rfl, h2, _⟩ := S.sl i _ hq
    exact ⟨a, h1, h2⟩
  · rename_i w' hq
    cases h
    obtain ⟨u, h1, a, rfl, h2, _⟩ := S.sl i _ hq
    exact ⟨a, h1, h2⟩
  · cases h
theorem hasL_slot {α : Type} {i : Nat} {rr : RE α} (S : StOk B z G H e σ) : (hasL i e rr = rr ∧ ∃ a vs, σ[i]? = some (some (.ref a)) ∧ H a = some (.lst vs)) ∨ hasL i e rr = .err := by
  unfold hasL
  split
  · rename_i xs hq
    obtain ⟨a, h1, o⟩ := mutAt_slot S hq
    obtain ⟨ob, ho, hr⟩ := o.ex
    cases hr with
    | lst rs => exact .inl ⟨rfl, a, _, h1, ho⟩
  · exact .inr rfl
theorem few_pl {env : Env} (h : plB ea = true) : ((backTo pos (starEach [ea] env)).all (fun x => !x.1) && (backToKw pos (keywordEach [] env)).all (fun x => x.1.isSome)
      && decide ([ea].length + ([] : List Keyword).length + (if ([] : List Keyword).isEmpty then 0 else 1) < 30)) = true := by
  rw [star_pl h]; rfl
theorem s_app {i : Nat} {y : Str} {py apos cpos : Pos} (xx : XOk L B KK k N s X) (hv : viB N s i y = true) (hp : plB ea = true) (hl : (apos.endLine == cpos.line) = true) (ha : PE X ea (tE B z W' fa)) :
    PS X (.Expr (.Call (.Attribute (.Name y py) "append" apos) [ea] [] cpos) pos) (tS B z W' fun e => hasL i e (valE (fa e) fun w e2 => nxt (chg i (appW w) e2))) := by
  have hm : MtR X "list.append" rAppend := mt_append
  refine ps_imp (ps_expr (pe_bm PySem.F.plainAttrs_list PySem.F.slot_list_append PySem.F.type_list_append hm (vi_of xx hv).1 (pa_cons ha pa_nil (star_pl hp)) rfl (few_pl hp) hl (star_pl hp) rfl) rfl) fun D σ H ⟨G, e, S, h⟩ => ?_
  dsimp only at h
  rcases hasL_slot S (i := i) (rr := valE (fa e) fun w e2 => nxt (chg i (appW w) e2)) with ⟨he, a, vs, hvv, hlv⟩ | he
  · rw [he] at h
    refine ⟨_, hvv, .inl ⟨rfl, vs, .of hlv⟩, G, e, S, valE_post h fun w e1 G1 H1 v F1 S1 R1' q => ?_⟩
    cases hc : chg i (appW w) e1 with
    | none => rw [hc] at q; exact q.elim
    | some e2 =>
      rw [hc] at q
      obtain ⟨x, x', s', hx, hsl, rfl⟩ := chg_ok hc
      obtain ⟨a', ha', o⟩ := own_slot S1 hsl
      rw [hvv] at ha'; cases ha'
      obtain ⟨ob, hob, hr⟩ := o.ex
      unfold appW at hx
      split at hx
      · split at hx
        · rename_i xs c
          cases hx
          cases hr with
          | lst rs =>
            rename_i us
            obtain ⟨S3, F3⟩ := mutO (o' := .lst (us ++ [v])) S1 hsl hvv o (.lst (rs.append (.cons R1' .nil))) rfl
            exact ⟨a, us, v, rfl, rfl, hob, by rw [← rs.length, ← lim_eq]; exact c, q G1 _ σ (F1.trans F3) S3⟩
        · cases hx
      · cases hx
  · rw [he] at h; exact h.elim
theorem s_ext {i : Nat} {y : Str} {py apos cpos : Pos} (xx : XOk L B KK k N s X) (hv : viB N s i y = true) (hp : plB ea = true) (hl : (apos.endLine == cpos.line) = true) (ha : PE X ea (tE B z W' fa)) :
    PS X (.Expr (.Call (.Attribute (.Name y py) "extend" apos) [ea] [] cpos) pos) (tS B z W' fun e => hasL i e (valE (fa e) fun w e2 => nxt (chg i (extW w) e2))) := by
  have hm : MtR X "list.extend" rExtend := mt_extend
  refine ps_imp (ps_expr (pe_bm PySem.F.plainAttrs_list PySem.F.slot_list_extend PySem.F.type_list_extend hm (vi_of xx hv).1 (pa_cons ha pa_nil (star_pl hp)) rfl (few_pl hp) hl (star_pl hp) rfl) rfl) fun D σ H ⟨G, e, S, h⟩ => ?_
  dsimp only at h
  rcases hasL_slot S (i := i) (rr := valE (fa e) fun w e2 => nxt (chg i (extW w) e2)) with ⟨he, a, vs, hvv, hlv⟩ | he
  · rw [he] at h
    refine ⟨_, hvv, .inl ⟨rfl, vs, .of hlv⟩, G, e, S, valE_post h fun w e1 G1 H1 v F1 S1 R1' q => ?_⟩
    cases hc : chg i (extW w) e1 with
    | none => rw [hc] at q; exact q.elim
    | some e2 =>
      rw [hc] at q
      obtain ⟨x, x', s', hx, hsl, rfl⟩ := chg_ok hc
      obtain ⟨a', ha', o⟩ := own_slot S1 hsl
      rw [hvv] at ha'; cases ha'
      obtain ⟨ob, hob, hr⟩ := o.ex
      unfold extW at hx
      split at hx
      · split at hx
        · rename_i ys xs c
          cases hx
          cases hr with
          | lst rs =>
            rename_i us
            obtain ⟨b, ts, rfl, hb, rt⟩ := Rep.lst R1'
            obtain ⟨S3, F3⟩ := mutO (o' := .lst (us ++ ts)) S1 hsl hvv o (.lst (rs.append rt)) rfl
            exact ⟨a, b, us, ts, rfl, rfl, hob, S1.sub _ _ hb, by rw [← rs.length, ← rt.length, ← lim_eq]; exact c, q G1 _ σ (F1.trans F3) S3⟩
        · cases hx
      · cases hx
  · rw [he] at h; exact h.elim

/-! ### several targets -/
def PostV (B : Bd) (z : Option Addr) (W' : WX) (Gb Hb : Hp) (eb' : En) (σb : St) (r : RE Unit) (Q : St → Hp → Prop) : Prop := match r with
  | .err => False
  | .ok _ e' => ∀ G' H' σ', Fr Gb Hb eb' σb G' H' e' σ' → StOk B z G' H' e' σ' → Q σ' H'
  | .exn x e' => ∀ G' H' σ' cls d, Fr Gb Hb eb' σb G' H' e' σ' → StOk B z G' H' e' σ' → ExR B G' H' x cls d → W' cls d σ' H'
def noS : List R1 → Prop
  | [] => True
  | r :: rs => (∀ i, r ≠ .s i) ∧ noS rs
theorem reps_kept : ∀ {rs : List R1} {vs : List V}, noS rs → RepRs B z G H e σ rs vs → FKp B z r v G H e σ G' H' e' σ' → (∀ w a, r = .f w → v = .ref a → ∀ w', (R1.f w', V.ref a) ∉ rs.zip vs) → RepRs B z G' H' e' σ' rs vs
  | [], [], _, _, _, _ => trivial
  | [], _ :: _, _, h, _, _ => h.elim
  | _ :: _, [], _, h, _, _ => h.elim
  | q :: rs, u :: vs, hn, h, K, d => by
    refine ⟨?_, reps_kept hn.2 h.2.1 K fun w a h1 h2 w' h3 => d w a h1 h2 w' (by rw [List.zip_cons_cons]; exact List.mem_cons_of_mem _ h3), h.2.2⟩
    cases q with
    | w w => exact Rep.mono K.g _ _ h.1
    | s i => exact absurd rfl (hn.1 i)
    | l _ => exact h.1
    | f w =>
      obtain ⟨b, rfl, o, no, zn⟩ := h.1
      have f2 := K.f b w ⟨o, no, zn⟩ fun w' h1 h2 => d w' b h1 h2 w (by rw [List.zip_cons_cons]; exact List.mem_cons_self)
      exact ⟨b, rfl, f2.own, f2.no, f2.zn⟩
theorem puts_cons {V' : E → En → RE R1} {t : Tg} {ts : List Tg} {rs : List R1} {vs : List V} {Q : St → Hp → Prop} (F : Fr Gb Hb eb' σb G H e σ) (S : StOk B z G H e σ) (hs : noS (r :: rs)) (R : RepRs B z G H e σ (r :: rs) (v :: vs)) (n : ∀ w a, (R1.f w, V.ref a) ∈ (r :: rs).zip (v :: vs) → Hb a = none)
    (h : PostV B z W' Gb Hb eb' σb (puts V' (t :: ts) (r :: rs) e) Q) : PostU B z W' Gb Hb eb' σb r v G H e σ (put V' t r e) (fun σ' H' => ∃ G' e1, Fr Gb Hb eb' σb G' H' e1 σ' ∧ StOk B z G' H' e1 σ' ∧ RepRs B z G' H' e1 σ' rs vs ∧ (∀ w a, (R1.f w, V.ref a) ∈ rs.zip vs → Hb a = none) ∧ PostV B z W' Gb Hb eb' σb (puts V' ts rs e1) Q) ∧ RepR B z G H e σ r v ∧ New Hb r v := by
  refine ⟨?_, R.1, fun w a h1 h2 => n w a (by rw [List.zip_cons_cons, h1, h2]; exact List.mem_cons_self)⟩
  unfold puts at h
  cases hp : put V' t r e with
  | err => rw [hp] at h; exact h
  | exn x e1 => rw [hp] at h; exact h
  | ok u e1 =>
    rw [hp] at h
    exact fun G' H' σ' F' K' S' => ⟨G', e1, F', S', reps_kept hs.2 R.2.1 K' R.2.2, fun w a q => n w a (by rw [List.zip_cons_cons]; exact List.mem_cons_of_mem _ q), h⟩
def gTgs (B : Bd) (z : Option Addr) (W' : WX) (f : List R1 → En → RE Unit) : TGs := fun vs σ H Q => ∃ Gb Hb eb' σb G e rs, Fr Gb Hb eb' σb G H e σ ∧ StOk B z G H e σ ∧ noS rs ∧ RepRs B z G H e σ rs vs ∧ (∀ w a, (R1.f w, V.ref a) ∈ rs.zip vs → Hb a = none) ∧ PostV B z W' Gb Hb eb' σb (f rs e) Q
theorem pgs_imp {ts : List Expr} {t t' : TGs} (h : PGs X ts t) (k : ∀ v σ H Q, t' v σ H Q → t v σ H Q) : PGs X ts t' := ⟨fun p s σ H v u Q I r q => h.run p s σ H v u Q I r (k v σ H Q q)⟩
def tgOk (B : Bd) (X : Cx) (z : Option Addr) (W' : WX) (V' : E → En → RE R1) : List Tg → List Expr → Prop
  | [], [] => True
  | t :: ts, x :: xs => PG X x (gTg B z W' (put V' t)) ∧ plB x = true ∧ tgOk B X z W' V' ts xs
  | _, _ => False
theorem pgs_tgs {V' : E → En → RE R1} : ∀ {ts : List Tg} {xs : List Expr}, tgOk B X z W' V' ts xs → PGs X xs (gTgs B z W' (puts V' ts))
  | [], [], _ => pgs_imp pgs_nil fun vs σ H Q ⟨Gb, Hb, eb', σb, G, e, rs, F, S, hs, R, n, h⟩ => by
    cases rs with
    | nil =>
      cases vs with
      | nil => exact ⟨rfl, h G H σ F S⟩
      | cons => exact R.elim
    | cons => exact h.elim
  | t :: ts, x :: xs, ⟨h1, h2, h3⟩ => by
    refine pgs_imp (pgs_cons h1 (pgs_tgs h3) (by rw [assignEach_pl h2]; rfl)) fun vs σ H Q ⟨Gb, Hb, eb', σb, G, e, rs, F, S, hs, R, n, h⟩ => ?_
    cases rs with
    | nil => exact h.elim
    | cons r rs =>
      cases vs with
      | nil => exact R.elim
      | cons v vs =>
        obtain ⟨q1, q2, q3⟩ := puts_cons F S hs R n h
        refine ⟨v, vs, rfl, Gb, Hb, eb', σb, G, e, r, F, S, q2, q3, ?_⟩
        cases hp : put V' t r e with
        | err => rw [hp] at q1; exact q1
        | exn x e1 => rw [hp] at q1; exact q1
        | ok u e1 =>
          rw [hp] at q1
          intro G' H' σ' F' K' S'
          obtain ⟨G2, e2, F2, S2, R2, n2, h2⟩ := q1 G' H' σ' F' K' S'
          exact ⟨Gb, Hb, eb', σb, G2, e2, rs, F2, S2, hs.2, R2, n2, h2⟩
  | [], _ :: _, h => h.elim
  | _ :: _, [], h => h.elim
theorem noSB_ok : ∀ {rs : List R1}, noSB rs = true → noS rs
  | [], _ => trivial
  | r :: rs, h => by
    unfold noSB at h
    rw [Bool.and_eq_true] at h
    refine ⟨fun i q => ?_, noSB_ok h.2⟩
    subst q
    cases h.1
theorem repRs_len : ∀ {rs : List R1} {us : List V}, RepRs B z G H e σ rs us → rs.length = us.length
  | [], [], _ => rfl
  | [], _ :: _, h => h.elim
  | _ :: _, [], h => h.elim
  | _ :: rs, _ :: us, h => by rw [List.length_cons, List.length_cons, repRs_len h.2.1]
theorem tgOk_len {V' : E → En → RE R1} : ∀ {ts : List Tg} {xs : List Expr}, tgOk B X z W' V' ts xs → ts.length = xs.length
  | [], [], _ => rfl
  | [], _ :: _, h => h.elim
  | _ :: _, [], h => h.elim
  | _ :: ts, _ :: xs, h => by rw [List.length_cons, List.length_cons, tgOk_len h.2.2]
theorem tgOk_pl {V' : E → En → RE R1} : ∀ {ts : List Tg} {xs : List Expr}, tgOk B X z W' V' ts xs → xs.all plB = true
  | [], [], _ => rfl
  | [], _ :: _, h => h.elim
  | _ :: _, [], h => h.elim
  | _ :: ts, _ :: xs, h => by rw [List.all_cons, h.2.1, tgOk_pl h.2.2]; rfl
theorem assignEach_len {env : Env} : ∀ {xs : List Expr}, xs.all plB = true → (assignEach xs env).length = xs.length ∧ (assignEach xs env).findIdx? (·.1) = none
  | [], _ => ⟨rfl, rfl⟩
  | x :: xs, h => by
    rw [List.all_cons, Bool.and_eq_true] at h
    obtain ⟨h1, h2⟩ := assignEach_len (env := env) h.2
    rw [assignEach_pl h.1, List.length_cons, List.length_cons, List.findIdx?_cons, h1, h2]
    exact ⟨rfl, rfl⟩
/-- what is evaluated ahead of the stores -/
theorem rsE_post {f : RE R1} {kk : List R1 → En → RE Fl} {QA : List V → Hp → Prop} (h : PostS B z W' G H e σ (rsE f kk) D)
    (hk : ∀ rs e1 G1 H1 vs, Fr G H e σ G1 H1 e1 σ → StOk B z G1 H1 e1 σ → RepRs B z G1 H1 e1 σ rs vs → (∀ w a, (R1.f w, V.ref a) ∈ rs.zip vs → H a = none) → PostS B z W' G H e σ (kk rs e1) D → QA vs H1) : PostA B z W' σ G H e f QA := by
  cases f with
  | err => exact h
  | exn x e1 => exact fun G' H' cls d F S R => h G' H' σ cls d F S R
  | ok r e1 =>
    cases r with
    | w w => exact h.elim
    | s i => exact h.elim
    | f w => exact h.elim
    | l rs => exact ⟨rs, rfl, fun G1 H1 vs F S R n => hk rs e1 G1 H1 vs F S R n h⟩
theorem parE_post {V' : E → En → RE R1} {ts : List Tg} {rs : List R1} (h : PostS B z W' G H e σ (parE V' ts rs e1) D) : noS rs ∧ PostV B z W' G H e σ (puts V' ts rs e1) D.nx ∧ rs.length = ts.length ∧ ts.length ≤ 100 := by
  unfold parE at h
  split at h
  · rename_i c
    simp only [Bool.and_eq_true, beq_iff_eq, decide_eq_true_eq] at c
    refine ⟨noSB_ok c.1.1, ?_, c.1.2, c.2⟩
    cases hp : puts V' ts rs e1 with
    | err => rw [hp] at h; exact h
    | exn x e1 => rw [hp] at h; exact h
    | ok u e1 => rw [hp] at h; exact h
  · exact h.elim
theorem laid_reps {p : Addr} {o : HO} (S : StOk B z G H e σ) (hp : H p = none) : ∀ {rs : List R1} {vs : List V}, RepRs B z G H e σ rs vs → RepRs B z G (upd H p o) e σ rs vs
  | [], [], _ => trivial
  | [], _ :: _, h => h.elim
  | _ :: _, [], h => h.elim
  | q :: rs, u :: vs, h => ⟨h.1.fr (S.laid hp).2.1, laid_reps S hp h.2.1, h.2.2⟩
theorem s_par {V' : E → En → RE R1} {ts : List Tg} {xs vs : List Expr} {kt k2 : Nat} {pt pt2 : Pos} {fes : En → RE R1} (hc : X.calm = true) (ha : PA X vs (tA B z W' fes)) (hg : tgOk B X z W' V' ts xs) (hv : vs.all plB = true) (hn : parN X.env.kindOf xs vs = true) :
    PS X (.Assign [.Tuple xs kt pt] (.Tuple vs k2 pt2) pos) (tS B z W' fun e => rsE (fes e) (parE V' ts)) := by
  have hpl := tgOk_pl hg
  obtain ⟨hl, hf⟩ := assignEach_len (env := X.env) hpl
  refine ps_imp (ps_asg (pe_tup ha) (pg_tup hc (pgs_tgs hg) hl hf) rfl (sw_no hv hn) rfl) fun D σ H ⟨G, e, S, h⟩ => ⟨G, e, S, rsE_post h fun rs e1 G1 H1 us F S1 R n q => ?_⟩
  obtain ⟨hs, hq, h1, h2⟩ := parE_post q
  have h3 := repRs_len R
  have h4 := tgOk_len hg
  refine ⟨by rw [sizeLine_eq]; have : (100 : Nat) ≤ 16777216 := by decide
             omega, fun p hp => ?_⟩
  obtain ⟨S2, F2, _⟩ := S1.laid (o := .tup us) hp
  exact ⟨p, us, rfl, .of upd_same, by omega, G, H, e, σ, G1, e1, rs, F.trans F2, S2, hs, laid_reps S1 hp R, n, hq⟩
theorem nm_dich (kf : Str → Option NameKind) (ln : Nat) (u : Str) (pu : Pos) : nmOf kf ln (.Name u pu) = some u ∨ nmOf kf ln (.Name u pu) = none := by
  show (if (kf u == some .local && pu.line == ln) = true then some u else none) = _ ∨ (if (kf u == some .local && pu.line == ln) = true then some u else none) = _
  by_cases h : (kf u == some .local && pu.line == ln) = true
  · rw [if_pos h]; exact .inl rfl
  · rw [if_neg h]; exact .inr rfl
/-- two names, three names of the frame's own: stored at once -/
theorem s_par2 {V' : E → En → RE R1} {i j : Nat} {x y : Str} {a b : Expr} {px py pt pt2 : Pos} {kt k2 : Nat} {fes : En → RE R1} (hc : X.calm = true) (hN : X.N.Nodup) (hi : X.N[i]? = some x) (hj : X.N[j]? = some y) (hij : i ≠ j)
    (hx : X.env.scope.names.lookup x = some .local) (hy : X.env.scope.names.lookup y = some .local) (hb : X.env.blockKind = .function) (ha : PA X [a, b] (tA B z W' fes)) (hv : [a, b].all plB = true) (hn : parN X.env.kindOf [.Name x px, .Name y py] [a, b] = false) (hcc : [a, b].all (constantsAlone 8) = false) :
    PS X (.Assign [.Tuple [.Name x px, .Name y py] kt pt] (.Tuple [a, b] k2 pt2) pos) (tS B z W' fun e => rsE (fes e) (parE V' [.p (.n i), .p (.n j)])) := by
  have hnm : [Expr.Name x px, .Name y py].filterMap (nmOf X.env.kindOf (lineOf [.Name x px, .Name y py])) = [x, y] := by
    unfold parN at hn
    simp only [Bool.or_eq_false_iff] at hn
    have q := hn.1.1.1
    have e1 := nm_dich X.env.kindOf (lineOf [.Name x px, .Name y py]) x px
    have e2 := nm_dich X.env.kindOf (lineOf [.Name x px, .Name y py]) y py
    rcases e1 with e1 | e1 <;> rcases e2 with e2 | e2 <;> simp [List.filterMap_cons, e1, e2] at q ⊢
  have hw := sw_yes (ts := [.Name x px, .Name y py]) (k := kt) (k2 := k2) (p := pt) (p2 := pt2) hb hv rfl hn hcc
  rw [hnm] at hw
  refine ps_imp (ps_par hc hN hi hj hij hx hy ha hw rfl) fun D σ H ⟨G, e, S, h⟩ => ⟨G, e, S, rsE_post h fun rs e1 G1 H1 us F S1 R n q => ?_⟩
  obtain ⟨hs, hq, h1, h2⟩ := parE_post q
  match rs, h1, us, R with
  | [r1, r2], _, [u1, u2], R =>
    refine ⟨u1, u2, rfl, ?_⟩
    obtain ⟨q1, q2, q3⟩ := puts_cons F S1 hs R n hq
    obtain ⟨G2, e2, F2, S2, R2, n2, hq2⟩ := putN_ok F S1 q2 q3 q1
    obtain ⟨q4, q5, q6⟩ := puts_cons F2 S2 hs.2 R2 n2 hq2
    obtain ⟨G3, e3, F3, S3, _, _, hq3⟩ := putN_ok F2 S2 q5 q6 q4
    exact hq3 G3 H1 _ F3 S3
theorem s_par3 {V' : E → En → RE R1} {i j l : Nat} {x y t : Str} {a b c : Expr} {px py pz pt pt2 : Pos} {kt k2 : Nat} {fes : En → RE R1} (hc : X.calm = true) (hN : X.N.Nodup) (hi : X.N[i]? = some x) (hj : X.N[j]? = some y) (hl : X.N[l]? = some t) (hij : i ≠ j) (hil : i ≠ l) (hjl : j ≠ l)
    (hx : X.env.scope.names.lookup x = some .local) (hy : X.env.scope.names.lookup y = some .local) (ht : X.env.scope.names.lookup t = some .local) (hb : X.env.blockKind = .function) (ha : PA X [a, b, c] (tA B z W' fes)) (hv : [a, b, c].all plB = true) (hn : parN X.env.kindOf [.Name x px, .Name y py, .Name t pz] [a, b, c] = false) (hcc : [a, b, c].all (constantsAlone 8) = false) :
    PS X (.Assign [.Tuple [.Name x px, .Name y py, .Name t pz] kt pt] (.Tuple [a, b, c] k2 pt2) pos) (tS B z W' fun e => rsE (fes e) (parE V' [.p (.n i), .p (.n j), .p (.n l)])) := by
  have hnm : [Expr.Name x px, .Name y py, .Name t pz].filterMap (nmOf X.env.kindOf (lineOf [.Name x px, .Name y py, .Name t pz])) = [x, y, t] := by
    unfold parN at hn
    simp only [Bool.or_eq_false_iff] at hn
    have q := hn.1.1.1
    have e0 := nm_dich X.env.kindOf (lineOf [.Name x px, .Name y py, .Name t pz])
    rcases e0 x px with e1 | e1 <;> rcases e0 y py with e2 | e2 <;> rcases e0 t pz with e3 | e3 <;> simp [List.filterMap_cons, e1, e2, e3] at q ⊢
  have hw := sw_yes (ts := [.Name x px, .Name y py, .Name t pz]) (k := kt) (k2 := k2) (p := pt) (p2 := pt2) hb hv rfl hn hcc
  rw [hnm] at hw
  refine ps_imp (ps_par3 hc hN hi hj hl hij hil hjl hx hy ht ha hw rfl) fun D σ H ⟨G, e, S, h⟩ => ⟨G, e, S, rsE_post h fun rs e1 G1 H1 us F S1 R n q => ?_⟩
  obtain ⟨hs, hq, h1, h2⟩ := parE_post q
  match rs, h1, us, R with
  | [r1, r2, r3], _, [u1, u2, u3], R =>
    refine ⟨u1, u2, u3, rfl, ?_⟩
    obtain ⟨q1, q2, q3⟩ := puts_cons F S1 hs R n hq
    obtain ⟨G2, e2, F2, S2, R2, n2, hq2⟩ := putN_ok F S1 q2 q3 q1
    obtain ⟨q4, q5, q6⟩ := puts_cons F2 S2 hs.2 R2 n2 hq2
    obtain ⟨G3, e3, F3, S3, R3, n3, hq3⟩ := putN_ok F2 S2 q5 q6 q4
    obtain ⟨q7, q8, q9⟩ := puts_cons F3 S3 hs.2.2 R3 n3 hq3
    obtain ⟨G4, e4, F4, S4, _, _, hq4⟩ := putN_ok F3 S3 q8 q9 q7
    exact hq4 G4 H1 _ F4 S4
end Iv
end

section
set_option Elab.async false
set_option linter.all false
set_option maxRecDepth 100000
namespace Iv
open PySem L2
set_option autoImplicit false
variable {B : Bd} {z : Option Addr} {G H G' H' G0 H0 G1 H1 G2 H2 Gb Hb : Hp} {e e' e0 e1 e2 eb' : En} {σ σ' σ0 σ1 σ2 σb : St} {w x y x' : W} {v v1 v2 : V} {a : Addr} {r r1 : R1} {W' : WX} {D : Ends}
variable {L : Lx} {KK : Nat → List Sl → RF} {k : Nat} {N : List Str} {s : Sx} {X : Cx} {fa fb fc : En → RE R1} {ea eb ec : Expr} {pos p p2 : Pos} {tg : Expr} {own own1 : List Nat} {pt pt1 : Pt}

/-! ### name = [..] on one line -/
def scOf : Expr → Option Scope
  | .ListComp _ _ s _ => some s
  | .SetComp _ _ s _ => some s
  | .DictComp _ _ _ s _ => some s
  | _ => none
def swV (s : Sx) (y : Str) (py : Pos) (scope : Scope) (l : Nat) : Bool := decide (s.sc.names.lookup y = some .local) && py.line == l && !(scope.names.any fun (n, k) => n == y && (k == .local || k == .cell))
/-- does the name take the list itself -/
def swT (s : Sx) (tg v : Expr) : Bool := match scOf v, tg with
  | some scope, .Name y py => swV s y py scope v.pos.line
  | _, _ => false
theorem swaps_eq {y : Str} {py : Pos} {v : Expr} {scope : Scope} {l : Nat} (hb : X.env.blockKind = .function) (hs : X.env.scope = s.sc) (hv : scOf v = some scope) : swapsWith v (some (.Name y py)) l X.env = pure (swV s y py scope v.pos.line) := by
  have e1 : ∀ scope : Scope, (X.env.blockKind == .function && X.env.kindOf y == some .local && py.line == v.pos.line && !(scope.names.any fun (n, k) => n == y && (k == .local || k == .cell))) = swV s y py scope v.pos.line := by
    intro scope
    unfold swV
    rw [hb, show X.env.kindOf y = s.sc.names.lookup y by rw [← hs]; rfl]
    have e2 : (s.sc.names.lookup y == some NameKind.local) = decide (s.sc.names.lookup y = some .local) := by
      by_cases h : s.sc.names.lookup y = some .local
      · rw [h]; rfl
      · rw [decide_eq_false h]; exact beq_eq_false_iff_ne.mpr h
    rw [e2]; rfl
  cases v <;> first | (cases hv; done) | (cases hv; rw [← e1 scope]; rfl)
theorem swaps_no {l : Nat} (hb : X.env.blockKind = .function) (hs : X.env.scope = s.sc) (h : swT s tg ea = false) : swapsWithSole [tg] ea l X.env = pure false := by
  show swapsWith ea (some tg) l X.env = pure false
  cases hv : scOf ea with
  | none => cases ea <;> first | rfl | (cases hv; done)
  | some scope =>
    cases tg with
    | Name y py =>
      rw [swaps_eq hb hs hv]
      unfold swT at h
      rw [hv] at h
      dsimp only at h
      rw [h]
    | _ => cases ea <;> first | rfl | (cases hv; done)
section
variable {elt iter iter1 tg1 : Expr} {ifs ifs1 : List Expr} {scope : Scope} {fi fi1 : En → RE (List W)} {c c1 : Option (En → RE R1)} {fel : En → RE R1} {i : Nat} {y : Str} {py spos : Pos}
theorem setLc_post {el : En → RE (List W)} (h : PostS B z W' G H e σ (resE (itE (lcRun own (fi e) (lcTurn own pt c el)) fun ws e' => .ok (.f (.lst ws)) e') fun r e1 => unitF (putP (.n i) r e1)) D) :
    PostE B z W' σ G H e (itE (lcRun own (fi e) (lcTurn own pt c el)) fun ws e' => .ok (.f (.lst ws)) e') fun v H1 => D.nx (σ.set i (some v)) H1 :=
  resE_post h fun r e1 G1 H1 v F S1 R n q => by
    refine putN_ok (W' := W') F S1 R n ?_
    cases hf : putP (.n i) r e1 with
    | err => rw [hf] at q; exact q
    | exn x e2 => rw [hf] at q; exact q
    | ok u e2 => rw [hf] at q; exact fun G' H' σ' F _ S => q G' H' σ' F S
theorem s_setLc (xx : XOk L B KK k N s X) (hy : stB N s i y = true) (hyl : X.env.scope.names.lookup y = some .local) (hsw : swapsWith (.ListComp elt [⟨tg, iter, ifs, 0⟩] scope pos) (some (.Name y py)) spos.line X.env = pure true) (hi : PI X tg iter (tI B z W' fi)) (ok : BlkOk X.N X.env.scope scope (ownOf N own)) (hown : ptOwn own pt = true)
    (hg : ∀ (s : Shared) (H : Hp) (C : Addr) (cl : List (Str × Addr)) (fp : List Addr), PG (X.blk s H scope (PySem.compEnvC scope cl C X.env) fp) tg (gPt B z pt))
    (ht : ∀ (s : Shared) (H : Hp) (C : Addr) (cl : List (Str × Addr)) (fp : List Addr), PTs (X.blk s H scope (PySem.compEnvC scope cl C X.env) fp) ifs (tT B z W0 (condE c)))
    (he : ∀ (s : Shared) (H : Hp) (C : Addr) (cl : List (Str × Addr)) (fp : List Addr), PE (X.blk s H scope (PySem.compEnvC scope cl C X.env) fp) elt (tE B z W0 fel)) (hs : plB iter = true) :
    PS X (.Assign [.Name y py] (.ListComp elt [⟨tg, iter, ifs, 0⟩] scope pos) spos) (tS B z W' fun e => resE (itE (lcRun own (fi e) (lcTurn own pt c (lcEl fel))) fun ws e' => .ok (.f (.lst ws)) e') fun r e1 => unitF (putP (.n i) r e1)) := by
  refine ps_imp (ps_setLc xx.calm (by rw [xx.hN]; exact xx.nd) (st_of xx hy).1 hyl hsw hi ok hg ht he (fold_pl hs)) fun D σ H ⟨G, e, S, h⟩ => ?_
  unfold tAsg tLc
  rw [ownOf_snd]
  exact ⟨G, e, S, lc_fin (fun D => el_lc rfl) hown (setLc_post h)⟩
theorem s_setLc2 (xx : XOk L B KK k N s X) (hy : stB N s i y = true) (hyl : X.env.scope.names.lookup y = some .local) (hsw : swapsWith (.ListComp elt [⟨tg, iter, ifs, 0⟩, ⟨tg1, iter1, ifs1, 0⟩] scope pos) (some (.Name y py)) spos.line X.env = pure true) (hi : PI X tg iter (tI B z W' fi)) (ok : BlkOk X.N X.env.scope scope (ownOf N own)) (hown : ptOwn own pt = true) (hown1 : ptOwn own1 pt1 = true) (hin : ∀ i ∈ own1, i ∈ own)
    (hg : ∀ (s : Shared) (H : Hp) (C : Addr) (cl : List (Str × Addr)) (fp : List Addr), PG (X.blk s H scope (PySem.compEnvC scope cl C X.env) fp) tg (gPt B z pt))
    (ht : ∀ (s : Shared) (H : Hp) (C : Addr) (cl : List (Str × Addr)) (fp : List Addr), PTs (X.blk s H scope (PySem.compEnvC scope cl C X.env) fp) ifs (tT B z W0 (condE c)))
    (hi1 : ∀ (s : Shared) (H : Hp) (C : Addr) (cl : List (Str × Addr)) (fp : List Addr), PI (X.blk s H scope (PySem.compEnvC scope cl C X.env) fp) tg1 iter1 (tI B z W0 fi1))
    (hg1 : ∀ (s : Shared) (H : Hp) (C : Addr) (cl : List (Str × Addr)) (fp : List Addr), PG (X.blk s H scope (PySem.compEnvC scope cl C X.env) fp) tg1 (gPt B z pt1))
    (ht1 : ∀ (s : Shared) (H : Hp) (C : Addr) (cl : List (Str × Addr)) (fp : List Addr), PTs (X.blk s H scope (PySem.compEnvC scope cl C X.env) fp) ifs1 (tT B z W0 (condE c1)))
    (he : ∀ (s : Shared) (H : Hp) (C : Addr) (cl : List (Str × Addr)) (fp : List Addr), PE (X.blk s H scope (PySem.compEnvC scope cl C X.env) fp) elt (tE B z W0 fel)) (hs : plB iter = true) (hs1 : plB iter1 = true) :
    PS X (.Assign [.Name y py] (.ListComp elt [⟨tg, iter, ifs, 0⟩, ⟨tg1, iter1, ifs1, 0⟩] scope pos) spos) (tS B z W' fun e => resE (itE (lcRun own (fi e) (lcTurn own pt c (fun e1 => match fi1 e1 with | .ok ys e2 => lcLoop own1 (lcTurn own1 pt1 c1 (lcEl fel)) ys e2 | _ => .err))) fun ws e' => .ok (.f (.lst ws)) e') fun r e1 => unitF (putP (.n i) r e1)) := by
  refine ps_imp (ps_setLc2 (vs1 := own1) xx.calm (by rw [xx.hN]; exact xx.nd) (st_of xx hy).1 hyl hsw hi ok (by rw [ownOf_snd]; exact hin) hg ht hi1 hg1 ht1 he (fold_pl hs) (fun env => fold_pl hs1)) fun D σ H ⟨G, e, S, h⟩ => ?_
  unfold tAsg tLc2
  rw [ownOf_snd]
  exact ⟨G, e, S, lc_fin (fun D => el_lc2 rfl (el_lc rfl) hown1) hown (setLc_post h)⟩
end
/-! ### the look at a statement -/
inductive Py where
  | st (x : Stmt) | ls (xs : List Stmt)
variable (L N) in
def chkTg (s : Sx) : Tg → Expr → Bool
  | .p q => fun x => ptB N s q x
  | .s i a => fun x => match x with
    | .Subscript (.Name y _) idx _ => viB N s i y && plB idx && chk L N a s (.e idx)
    | _ => false
  | .f _ _ => fun _ => false
variable (L N) in
def chkTgs (s : Sx) : List Tg → List Expr → Bool
  | [], [] => true
  | t :: ts, x :: xs => chkTg L N s t x && plB x && chkTgs s ts xs
  | _, _ => false
def par2B (s : Sx) (ts : List Tg) (xs vs : List Expr) : Bool := match ts, xs, vs with
  | [.p (.n i), .p (.n j)], [.Name x _, .Name y _], [_, _] => decide (i ≠ j) && stB' s i x && stB' s j y
  | [.p (.n i), .p (.n j), .p (.n l)], [.Name x _, .Name y _, .Name t _], [_, _, _] => decide (i ≠ j) && decide (i ≠ l) && decide (j ≠ l) && stB' s i x && stB' s j y && stB' s l t
  | _, _, _ => false
where stB' (s : Sx) (i : Nat) (x : Str) : Bool := decide (s.sc.names.lookup x = some .local)
def isLc : E → Bool
  | .lc _ _ _ _ _ => true
  | .lc2 _ _ _ _ _ _ _ _ _ => true
  | _ => false
def isN : Tg → Bool
  | .p (.n _) => true
  | _ => false
def chkH : HE → Expr → Bool
  | .k w => fun x => match x with
    | .Constant c _ _ => kB w c
    | _ => false
  | .fld => fun _ => false
  | .t2 a b => fun x => match x with
    | .Tuple [p, q] _ _ => plB p && plB q && chkH a p && chkH b q
    | _ => false
  | .add _ _ => fun _ => false
variable (L) in
def chkHs (s : Sx) : List (Nat × Option Nat × HE) → List ExceptHandler → Bool
  | [], [] => true
  | (c, none, h) :: hs, .ExceptHandler (some (.Name x _)) none [.Return (some v) _] _ :: ds => decide (L.xn c = some x) && glB s x && L.T.xcl c && chkH h v && chkHs s hs ds
  | (c, some _, _) :: hs, .ExceptHandler (some (.Name x _)) (some _) _ _ :: ds => decide (L.xn c = some x) && glB s x && L.T.xcl c && chkHs s hs ds
  | _, _ => false
variable (L N) in
def chkS : S → Sx → Py → Bool
  | .asg t a => fun s p => match p with
    | .st (.Assign [tg] v _) => chkTg L N s t tg && plB tg && swB tg v && (!swT s tg v || (isLc a && isN t)) && chk L N a s (.e v)
    | _ => false
  | .par ts es => fun s p => match p with
    | .st (.Assign [.Tuple xs _ _] (.Tuple vs _ _) _) => vs.all plB && chkTgs L N s ts xs && chk L N es s (.l vs) && (if parN (fun y => s.sc.names.lookup y) xs vs then true else par2B s ts xs vs && !vs.all (constantsAlone 8))
    | _ => false
  | .aug i o a b => fun s p => match p with
    | .st (.AugAssign (.Subscript (.Name y _) idx _) o' v _) => bopB o o' && viB N s i y && plB idx && chk L N a s (.e idx) && chk L N b s (.e v)
    | _ => false
  | .app i a => fun s p => match p with
    | .st (.Expr (.Call (.Attribute (.Name y _) m apos) [v] [] cpos) _) => decide (m = ("append" : Str)) && viB N s i y && plB v && (apos.endLine == cpos.line) && chk L N a s (.e v)
    | _ => false
  | .ext i a => fun s p => match p with
    | .st (.Expr (.Call (.Attribute (.Name y _) m apos) [v] [] cpos) _) => decide (m = ("extend" : Str)) && viB N s i y && plB v && (apos.endLine == cpos.line) && chk L N a s (.e v)
    | _ => false
  | .expr a => fun s p => match p with
    | .st (.Expr v _) => ncB v && chk L N a s (.e v)
    | _ => false
  | .ret a => fun s p => match p with
    | .st (.Return (some v) _) => chk L N a s (.e v)
    | .st (.Return none _) => (match a with | .k .non => true | _ => false)
    | _ => false
  | .ite c a b => fun s p => match p with
    | .st (.If c' as bs _) => !isIte c && chk L N c s (.e c') && chkS a s (.ls as) && chkS b s (.ls bs)
    | _ => false
  | .for pt it b => fun s p => match p with
    | .st (.For tg iter bs [] _) => ptB N s pt tg && plB iter && tgB it tg && chk L N it s (.i iter) && chkS b s (.ls bs)
    | _ => false
  | .while c b => fun s p => match p with
    | .st (.While c' bs [] _) => !isIte c && chk L N c s (.e c') && chkS b s (.ls bs)
    | _ => false
  | .raise c => fun s p => match p with
    | .st (.Raise (some (.Call (.Name x _) [.Constant (.str _) _ _] [] _)) none _) => decide (L.xc c = some x) && glB s x
    | _ => false
  | .raiseF _ _ => fun _ _ => false
  | .try b hs => fun s p => match p with
    | .st (.Try bs (d :: ds) [] [] _) => chkHs L s hs (d :: ds) && chkS b s (.ls bs)
    | _ => false
  | .pass => fun s p => match p with
    | .st (.Pass _) => true
    | _ => false
  | .brk => fun s p => match p with
    | .st (.Break _) => true
    | _ => false
  | .cont => fun s p => match p with
    | .st (.Continue _) => true
    | _ => false
  | .nil => fun s p => match p with
    | .ls [] => true
    | _ => false
  | .cons a b => fun s p => match p with
    | .ls (x :: xs) => chkS a s (.st x) && chkS b s (.ls xs)
    | _ => false
structure XSt (X : Cx) : Prop where
  stk : X.stack = X.env :: X.outer
  frm : X.env.frame = some X.env.locals
  hp : PySem.PassesOwn (model X.prog X.w) X.A X.env X.xe
  bk : X.env.blockKind = .function
theorem tg_ok {t : Tg} (xx : XOk L B KK k N s X) (tk : Takes X W') (h : chkTg L N s t tg = true) : PG X tg (gTg B z W' (put (ev L.T KK) t)) := by
  cases t with
  | p q => exact pg_p xx h
  | s i a =>
    cases tg with
    | Subscript o idx pos =>
      cases o with
      | Name y py =>
        have h : (viB N s i y && plB idx && chk L N a s (.e idx)) = true := h
        simp only [Bool.and_eq_true] at h
        exact pg_s xx h.1.1 h.1.2 ((ok_all a).pe s X z W' xx tk _ h.2)
      | _ => cases h
    | _ => cases h
  | f i g => cases h
theorem tgs_ok (xx : XOk L B KK k N s X) (tk : Takes X W') : ∀ {ts : List Tg} {xs : List Expr}, chkTgs L N s ts xs = true → tgOk B X z W' (ev L.T KK) ts xs
  | [], [], _ => trivial
  | [], _ :: _, h => by cases h
  | _ :: _, [], h => by cases h
  | t :: ts, x :: xs, h => by
    unfold chkTgs at h
    simp only [Bool.and_eq_true] at h
    exact ⟨tg_ok xx tk h.1.1, h.1.2, tgs_ok xx tk h.2⟩
theorem pt_name {i : Nat} (h : chkTg L N s (.p (.n i)) tg = true) : ∃ y py, tg = .Name y py ∧ stB N s i y = true := by
  cases tg with
  | Name y py => exact ⟨y, py, rfl, h⟩
  | _ => cases h
theorem asg_lc {i : Nat} {y : Str} {py spos : Pos} {it c el : E} {v : Expr} (xx : XOk L B KK k N s X) (xs : XSt X) (tk : Takes X W') (hy : stB N s i y = true) (hsw : swT s (.Name y py) v = true) (h : chk L N (.lc own pt it c el) s (.e v) = true) :
    PS X (.Assign [.Name y py] v spos) (tS B z W' fun e => resE (ev L.T KK (.lc own pt it c el) e) fun r e1 => unitF (putP (.n i) r e1)) := by
  replace h : (match gExpr (.e v) with
    | some (.ListComp elt [⟨tg, iter, ifs, 0⟩] scope _) => decide own.Nodup && ptOwn own pt && plB iter && blkC N s.sc scope (ownOf N own) && tgB it tg && chk L N it s (.i iter) && ptB N (inner s scope) pt tg && ifsB (isNil c) (isIte c) (fun t => chk L N c (inner s scope) (.e t)) ifs && chk L N el (inner s scope) (.e elt)
    | _ => false) = true := h
  split at h
  · rename_i q
    cases q
    simp only [Bool.and_eq_true, decide_eq_true_eq] at h
    obtain ⟨⟨⟨⟨⟨⟨⟨⟨h1, h2⟩, h3⟩, h4⟩, h5⟩, h6⟩, h7⟩, h8⟩, h9⟩ := h
    have hl : X.env.scope.names.lookup y = some .local := by
      unfold swT at hsw
      dsimp only [scOf] at hsw
      unfold swV at hsw
      simp only [Bool.and_eq_true, decide_eq_true_eq] at hsw
      rw [xx.hsc]; exact hsw.1.1
    refine s_setLc xx hy hl ((swaps_eq xs.bk xx.hsc rfl).trans (congrArg pure hsw)) ((ok_all it).pi s X z W' xx tk _ _ h5 h6) (blk_of xx h4) h2 (fun s' H C cl fp => pg_pt (blk_ok xx s' H _ cl C fp) h7) (fun s' H C cl fp => ifs_ok (ok_all c) h8 (blk_ok xx s' H _ cl C fp) takes0)
      (fun s' H C cl fp => (ok_all el).pe _ _ z W0 (blk_ok xx s' H _ cl C fp) takes0 _ h9) h3
  · cases h
theorem asg_lc2 {i : Nat} {y : Str} {py spos : Pos} {it c it1 c1 el : E} {v : Expr} (xx : XOk L B KK k N s X) (xs : XSt X) (tk : Takes X W') (hy : stB N s i y = true) (hsw : swT s (.Name y py) v = true) (h : chk L N (.lc2 own own1 pt it c pt1 it1 c1 el) s (.e v) = true) :
    PS X (.Assign [.Name y py] v spos) (tS B z W' fun e => resE (ev L.T KK (.lc2 own own1 pt it c pt1 it1 c1 el) e) fun r e1 => unitF (putP (.n i) r e1)) := by
  replace h : (match gExpr (.e v) with
    | some (.ListComp elt [⟨tg, iter, ifs, 0⟩, ⟨tg1, iter1, ifs1, 0⟩] scope _) => decide own.Nodup && decide own1.Nodup && own1.all (own.contains ·) && ptOwn own pt && ptOwn own1 pt1 && plB iter && plB iter1 && blkC N s.sc scope (ownOf N own) && tgB it tg && chk L N it s (.i iter) && ptB N (inner s scope) pt tg && ifsB (isNil c) (isIte c) (fun t => chk L N c (inner s scope) (.e t)) ifs && tgB it1 tg1 && chk L N it1 (inner s scope) (.i iter1) && ptB N (inner s scope) pt1 tg1 && ifsB (isNil c1) (isIte c1) (fun t => chk L N c1 (inner s scope) (.e t)) ifs1 && chk L N el (inner s scope) (.e elt)
    | _ => false) = true := h
  split at h
  · rename_i q
    cases q
    simp only [Bool.and_eq_true, decide_eq_true_eq] at h
    obtain ⟨⟨⟨⟨⟨⟨⟨⟨⟨⟨⟨⟨⟨⟨⟨⟨h1, h2⟩, h3⟩, h4⟩, h5⟩, h6⟩, h7⟩, h8⟩, h9⟩, h10⟩, h11⟩, h12⟩, h13⟩, h14⟩, h15⟩, h16⟩, h17⟩ := h
    have hl : X.env.scope.names.lookup y = some .local := by
      unfold swT at hsw
      dsimp only [scOf] at hsw
      unfold swV at hsw
      simp only [Bool.and_eq_true, decide_eq_true_eq] at hsw
      rw [xx.hsc]; exact hsw.1.1
    refine s_setLc2 xx hy hl ((swaps_eq xs.bk xx.hsc rfl).trans (congrArg pure hsw)) ((ok_all it).pi s X z W' xx tk _ _ h9 h10) (blk_of xx h8) h4 h5 (fun i hi => List.contains_iff_mem.mp (List.all_eq_true.mp h3 i hi)) (fun s' H C cl fp => pg_pt (blk_ok xx s' H _ cl C fp) h11) (fun s' H C cl fp => ifs_ok (ok_all c) h12 (blk_ok xx s' H _ cl C fp) takes0)
      (fun s' H C cl fp => (ok_all it1).pi _ _ z W0 (blk_ok xx s' H _ cl C fp) takes0 _ _ h13 h14) (fun s' H C cl fp => pg_pt (blk_ok xx s' H _ cl C fp) h15) (fun s' H C cl fp => ifs_ok (ok_all c1) h16 (blk_ok xx s' H _ cl C fp) takes0)
      (fun s' H C cl fp => (ok_all el).pe _ _ z W0 (blk_ok xx s' H _ cl C fp) takes0 _ h17) h6 h7
  · cases h
end Iv
end

section
set_option Elab.async false
set_option linter.all false
set_option maxRecDepth 100000
namespace Iv
open PySem L2
set_option autoImplicit false
variable {B : Bd} {W' : WX} {L : Lx} {KK : Nat → List Sl → RF} {k : Nat} {N : List Str} {s : Sx} {X : Cx}

structure OkS (L : Lx) (B : Bd) (KK : Nat → List Sl → RF) (k : Nat) (N : List Str) (c : S) : Prop where
  ps : ∀ (s : Sx) (X : Cx) (z : Option Addr) (W' : WX), XOk L B KK k N s X → XSt X → Takes X W' → ∀ st, chkS L N c s (.st st) = true → PS X st (tS B z W' (ex L.T KK c))
  pss : ∀ (s : Sx) (X : Cx) (z : Option Addr) (W' : WX), XOk L B KK k N s X → XSt X → Takes X W' → ∀ ls, chkS L N c s (.ls ls) = true → PSs X ls (tS B z W' (ex L.T KK c))
theorem OkS.of {c : S} (hl : ∀ s ls, chkS L N c s (.ls ls) = false) (h : ∀ (s : Sx) (X : Cx) (z : Option Addr) (W' : WX), XOk L B KK k N s X → XSt X → Takes X W' → ∀ st, chkS L N c s (.st st) = true → PS X st (tS B z W' (ex L.T KK c))) : OkS L B KK k N c :=
  ⟨h, fun s X z W' xx xs tk ls q => by rw [hl] at q; cases q⟩
theorem OkS.no {c : S} (h : ∀ s p, chkS L N c s p = false) : OkS L B KK k N c :=
  ⟨fun s X z W' xx xs tk ls q => by (rw [h] at q; cases q), fun s X z W' xx xs tk ls q => by (rw [h] at q; cases q)⟩
theorem kindOf_eq (xx : XOk L B KK k N s X) : X.env.kindOf = fun y => s.sc.names.lookup y := by
  funext y
  show X.env.scope.names.lookup y = _
  rw [xx.hsc]
theorem oks_asg (t : Tg) (a : E) : OkS L B KK k N (.asg t a) := by
  refine .of (fun _ _ => rfl) fun s X z W' xx xs tk st h => ?_
  replace h : (match Py.st st with
    | .st (.Assign [tg] v _) => chkTg L N s t tg && plB tg && swB tg v && (!swT s tg v || (isLc a && isN t)) && chk L N a s (.e v)
    | _ => false) = true := h
  split at h
  · rename_i q
    cases q
    rename_i tg v pos
    simp only [Bool.and_eq_true, Bool.or_eq_true, Bool.not_eq_true'] at h
    obtain ⟨⟨⟨⟨h1, h2⟩, h3⟩, h4⟩, h5⟩ := h
    by_cases hw : swT s tg v = true
    · rcases h4 with h4 | ⟨h4, h6⟩
      · rw [hw] at h4; cases h4
      · cases t with
        | p q =>
          cases q with
          | n i =>
            obtain ⟨y, py, rfl, hy⟩ := pt_name h1
            cases a with
            | lc own pt it c el => exact asg_lc xx xs tk hy hw h5
            | lc2 own own1 pt it c pt1 it1 c1 el => exact asg_lc2 xx xs tk hy hw h5
            | _ => cases h4
          | _ => cases h6
        | _ => cases h6
    · have hw : swT s tg v = false := by simpa using hw
      exact s_asg ((ok_all a).pe s X z W' xx tk _ h5) (tg_ok xx tk h1) (swaps_no xs.bk xx.hsc hw) h3 h2
  · cases h
theorem lk_of (xx : XOk L B KK k N s X) {i : Nat} {y : Str} (h : stB N s i y = true) : X.N[i]? = some y := (st_of xx h).1
theorem oks_par (ts : List Tg) (es : E) : OkS L B KK k N (.par ts es) := by
  refine .of (fun _ _ => rfl) fun s X z W' xx xst tk st h => ?_
  replace h : (match Py.st st with
    | .st (.Assign [.Tuple xs _ _] (.Tuple vs _ _) _) => vs.all plB && chkTgs L N s ts xs && chk L N es s (.l vs) && (if parN (fun y => s.sc.names.lookup y) xs vs then true else par2B s ts xs vs && !vs.all (constantsAlone 8))
    | _ => false) = true := h
  split at h
  · rename_i q
    cases q
    rename_i xs _ _ vs _ _ _
    simp only [Bool.and_eq_true] at h
    obtain ⟨⟨⟨h1, h2⟩, h3⟩, h4⟩ := h
    have ha := (ok_all es).pa s X z W' xx tk _ h3
    by_cases hn : parN (fun y => s.sc.names.lookup y) xs vs = true
    · exact s_par xx.calm ha.1 (tgs_ok xx tk h2) h1 (by rw [kindOf_eq xx]; exact hn)
    · rw [if_neg hn] at h4
      have hn : parN (fun y => s.sc.names.lookup y) xs vs = false := by simpa using hn
      simp only [Bool.and_eq_true, Bool.not_eq_true'] at h4
      obtain ⟨h5, h6⟩ := h4
      rw [← kindOf_eq xx] at hn
      have hN : X.N.Nodup := by rw [xx.hN]; exact xx.nd
      unfold par2B at h5
      split at h5
      · rename_i i j x px y py a b
        simp only [Bool.and_eq_true, decide_eq_true_eq] at h5
        obtain ⟨⟨h7, h8⟩, h9⟩ := h5
        unfold chkTgs chkTgs chkTgs at h2
        simp only [Bool.and_eq_true] at h2
        have l1 := of_decide_eq_true h8
        have l2 := of_decide_eq_true h9
        exact s_par2 xx.calm hN (lk_of xx h2.1.1) (lk_of xx h2.2.1.1) h7 (by rw [xx.hsc]; exact l1) (by rw [xx.hsc]; exact l2) xst.bk ha.1 h1 hn h6
      · rename_i i j l x px y py t pz a b c
        simp only [Bool.and_eq_true, decide_eq_true_eq] at h5
        obtain ⟨⟨⟨⟨⟨h7, h8⟩, h9⟩, h10⟩, h11⟩, h12⟩ := h5
        unfold chkTgs chkTgs chkTgs chkTgs at h2
        simp only [Bool.and_eq_true] at h2
        have l1 := of_decide_eq_true h10
        have l2 := of_decide_eq_true h11
        have l3 := of_decide_eq_true h12
        exact s_par3 xx.calm hN (lk_of xx h2.1.1) (lk_of xx h2.2.1.1) (lk_of xx h2.2.2.1.1) h7 h8 h9 (by rw [xx.hsc]; exact l1) (by rw [xx.hsc]; exact l2) (by rw [xx.hsc]; exact l3) xst.bk ha.1 h1 hn h6
      · cases h5
  · cases h
theorem oks_aug (i : Nat) (o : BOp) (a b : E) : OkS L B KK k N (.aug i o a b) := by
  refine .of (fun _ _ => rfl) fun s X z W' xx xs tk st h => ?_
  replace h : (match Py.st st with
    | .st (.AugAssign (.Subscript (.Name y _) idx _) o' v _) => bopB o o' && viB N s i y && plB idx && chk L N a s (.e idx) && chk L N b s (.e v)
    | _ => false) = true := h
  split at h
  · rename_i q
    cases q
    simp only [Bool.and_eq_true] at h
    obtain ⟨⟨⟨⟨h1, h2⟩, h3⟩, h4⟩, h5⟩ := h
    have e1 := bopB_ok h1
    subst e1
    exact s_aug xx h2 h3 ((ok_all a).pe s X z W' xx tk _ h4) ((ok_all b).pe s X z W' xx tk _ h5)
  · cases h
theorem oks_app (i : Nat) (a : E) : OkS L B KK k N (.app i a) := by
  refine .of (fun _ _ => rfl) fun s X z W' xx xs tk st h => ?_
  replace h : (match Py.st st with
    | .st (.Expr (.Call (.Attribute (.Name y _) m apos) [v] [] cpos) _) => decide (m = ("append" : Str)) && viB N s i y && plB v && (apos.endLine == cpos.line) && chk L N a s (.e v)
    | _ => false) = true := h
  split at h
  · rename_i q
    cases q
    simp only [Bool.and_eq_true, decide_eq_true_eq] at h
    obtain ⟨⟨⟨⟨rfl, h2⟩, h3⟩, h4⟩, h5⟩ := h
    exact s_app xx h2 h3 h4 ((ok_all a).pe s X z W' xx tk _ h5)
  · cases h
theorem oks_ext (i : Nat) (a : E) : OkS L B KK k N (.ext i a) := by
  refine .of (fun _ _ => rfl) fun s X z W' xx xs tk st h => ?_
  replace h : (match Py.st st with
    | .st (.Expr (.Call (.Attribute (.Name y _) m apos) [v] [] cpos) _) => decide (m = ("extend" : Str)) && viB N s i y && plB v && (apos.endLine == cpos.line) && chk L N a s (.e v)
    | _ => false) = true := h
  split at h
  · rename_i q
    cases q
    simp only [Bool.and_eq_true, decide_eq_true_eq] at h
    obtain ⟨⟨⟨⟨rfl, h2⟩, h3⟩, h4⟩, h5⟩ := h
    exact s_ext xx h2 h3 h4 ((ok_all a).pe s X z W' xx tk _ h5)
  · cases h
theorem oks_expr (a : E) : OkS L B KK k N (.expr a) := by
  refine .of (fun _ _ => rfl) fun s X z W' xx xs tk st h => ?_
  cases st with
  | Expr v pos =>
    have h : (ncB v && chk L N a s (.e v)) = true := h
    rw [Bool.and_eq_true] at h
    exact s_expr ((ok_all a).pe s X z W' xx tk _ h.2) h.1
  | _ => cases h
theorem oks_ret (a : E) : OkS L B KK k N (.ret a) := by
  refine .of (fun _ _ => rfl) fun s X z W' xx xs tk st h => ?_
  cases st with
  | Return v pos =>
    cases v with
    | some v => exact s_ret ((ok_all a).pe s X z W' xx tk _ h)
    | none =>
      cases a with
      | k w =>
        cases w with
        | non => exact s_retN
        | _ => cases h
      | _ => cases h
  | _ => cases h
theorem oks_ite {c : E} {a b : S} (ha : OkS L B KK k N a) (hb : OkS L B KK k N b) : OkS L B KK k N (.ite c a b) := by
  refine .of (fun _ _ => rfl) fun s X z W' xx xs tk st h => ?_
  cases st with
  | If c' as bs pos =>
    have h : (!isIte c && chk L N c s (.e c') && chkS L N a s (.ls as) && chkS L N b s (.ls bs)) = true := h
    simp only [Bool.and_eq_true, Bool.not_eq_true'] at h
    exact s_if ((ok_all c).pt s X z W' xx tk h.1.1.1 _ h.1.1.2) (ha.pss s X z W' xx xs tk _ h.1.2) (hb.pss s X z W' xx xs tk _ h.2)
  | _ => cases h
theorem oks_for {pt : Pt} {it : E} {b : S} (hb : OkS L B KK k N b) : OkS L B KK k N (.for pt it b) := by
  refine .of (fun _ _ => rfl) fun s X z W' xx xs tk st h => ?_
  cases st with
  | For tg iter bs os pos =>
    cases os with
    | nil =>
      have h : (ptB N s pt tg && plB iter && tgB it tg && chk L N it s (.i iter) && chkS L N b s (.ls bs)) = true := h
      simp only [Bool.and_eq_true] at h
      obtain ⟨⟨⟨⟨h1, h2⟩, h3⟩, h4⟩, h5⟩ := h
      exact s_for xs.hp xx.calm ((ok_all it).pi s X z W' xx tk _ _ h3 h4) (pg_pt xx h1) (hb.pss s X z W' xx xs tk _ h5) h2
    | cons => cases h
  | _ => cases h
theorem oks_while {c : E} {b : S} (hb : OkS L B KK k N b) : OkS L B KK k N (.while c b) := by
  refine .of (fun _ _ => rfl) fun s X z W' xx xs tk st h => ?_
  cases st with
  | While c' bs os pos =>
    cases os with
    | nil =>
      have h : (!isIte c && chk L N c s (.e c') && chkS L N b s (.ls bs)) = true := h
      simp only [Bool.and_eq_true, Bool.not_eq_true'] at h
      exact s_while xs.hp ((ok_all c).pt s X z W' xx tk h.1.1 _ h.1.2) (hb.pss s X z W' xx xs tk _ h.2)
    | cons => cases h
  | _ => cases h
theorem oks_raise (c : Nat) : OkS L B KK k N (.raise c) := by
  refine .of (fun _ _ => rfl) fun s X z W' xx xs tk st h => ?_
  replace h : (match Py.st st with
    | .st (.Raise (some (.Call (.Name x _) [.Constant (.str _) _ _] [] _)) none _) => decide (L.xc c = some x) && glB s x
    | _ => false) = true := h
  split at h
  · rename_i q
    cases q
    simp only [Bool.and_eq_true, decide_eq_true_eq] at h
    refine ps_imp (ps_raise xx.calm tk (xx.wd.xc c _ h.1 X rfl rfl (gl_of xx h.2) _ _ _ _ _)) fun D σ H ⟨G, e, S, q⟩ => ?_
    exact q G H σ _ none .refl S ⟨rfl, trivial⟩
  · cases h
theorem oks_all0 : ∀ c : S, (∀ b hs, OkS L B KK k N b → OkS L B KK k N (.try b hs)) → OkS L B KK k N c := by
  intro c ht
  induction c with
  | asg t a => exact oks_asg t a
  | par ts es => exact oks_par ts es
  | aug i o a b => exact oks_aug i o a b
  | app i a => exact oks_app i a
  | ext i a => exact oks_ext i a
  | expr a => exact oks_expr a
  | ret a => exact oks_ret a
  | ite c a b ha hb => exact oks_ite ha hb
  | «for» p it b hb => exact oks_for hb
  | «while» c b hb => exact oks_while hb
  | raise c => exact oks_raise c
  | raiseF c a => exact .no fun _ _ => rfl
  | «try» b hs hb => exact ht b hs hb
  | pass =>
    refine .of (fun _ _ => rfl) fun s X z W' xx xs tk st h => ?_
    cases st <;> first | exact s_pass | (cases h; done)
  | brk =>
    refine .of (fun _ _ => rfl) fun s X z W' xx xs tk st h => ?_
    cases st <;> first | exact s_brk | (cases h; done)
  | cont =>
    refine .of (fun _ _ => rfl) fun s X z W' xx xs tk st h => ?_
    cases st <;> first | exact s_cont | (cases h; done)
  | nil =>
    refine ⟨fun s X z W' xx xs tk st h => by (cases h), fun s X z W' xx xs tk ls h => ?_⟩
    cases ls with
    | nil => exact s_nil
    | cons => cases h
  | cons a b ha hb =>
    refine ⟨fun s X z W' xx xs tk st h => by (cases h), fun s X z W' xx xs tk ls h => ?_⟩
    cases ls with
    | nil => cases h
    | cons x ls =>
      have h : (chkS L N a s (.st x) && chkS L N b s (.ls ls)) = true := h
      rw [Bool.and_eq_true] at h
      exact s_seq (ha.ps s X z W' xx xs tk _ h.1) (hb.pss s X z W' xx xs tk _ h.2)
end Iv
end

section
set_option Elab.async false
set_option linter.all false
set_option maxRecDepth 100000
namespace L2
open PySem PySem.Spec PyProof.Rows
/-- what the clauses wish; a clause without a reading is never reached -/
def wManyN (K : PySem.W.Frag) (Wout : WX) (D : Ends) : List (Value × Option (Addr → Value → Option Addr → TS)) → WX
  | [] => Wout
  | (c, some ts) :: r => fun cls d σ H => ∃ b, PySem.W.exmOne K cls c = some b ∧ (b = true → ∀ a, H a = none → ts a cls d D σ H) ∧ (b = false → wManyN K Wout D r cls d σ H)
  | (c, none) :: r => fun cls d σ H => ∃ b, PySem.W.exmOne K cls c = some b ∧ (b = true → False) ∧ (b = false → wManyN K Wout D r cls d σ H)
inductive HdsN (X : Cx) : List ExceptHandler → List (Value × Option (Addr → Value → Option Addr → TS)) → Prop
  | nil : HdsN X [] []
  | cons {x : Str} {c : Value} {ts : Addr → Value → Option Addr → TS} {b₀ : Stmt} {suite : List Stmt} {np pos' : Pos} {hds : List ExceptHandler} {l : List (Value × Option (Addr → Value → Option Addr → TS))} (hc : Names X x c)
      (hsu : ∀ (a : Addr) (oe : Obj) (cls : Value) (d : Option Addr) (pn : List (Addr × Obj)), Zc cls d oe → (∃ vs, oe.data = .fields vs) → PSs (X.suite a ((a, oe) :: pn)) (b₀ :: suite) (ts a cls d)) (r : HdsN X hds l) :
      HdsN X (.ExceptHandler (some (.Name x np)) none (b₀ :: suite) pos' :: hds) ((c, some ts) :: l)
  | never {x : Str} {n : Option Str} {c : Value} {suite : List Stmt} {np pos' : Pos} {hds : List ExceptHandler} {l : List (Value × Option (Addr → Value → Option Addr → TS))} (hc : Names X x c) (r : HdsN X hds l) :
      HdsN X (.ExceptHandler (some (.Name x np)) n suite pos' :: hds) ((c, none) :: l)
section
variable {X : Cx} {body : List Stmt} {h₀ : ExceptHandler} {hds : List ExceptHandler} {l : List (Value × Option (Addr → Value → Option Addr → TS))} {pos : Pos} {tb : WX → TS} {Wout : WX}
theorem ps_try_manyN (hs : X.stack = X.env :: X.outer) (hf : X.env.frame = some X.env.locals) (tk : Takes X Wout)
    (hb : ∀ (W : WX) (pn : List (Addr × Obj)) (xe : Value → Shared → Prop), Takes (X.tr pn xe) W → PassesOwn (model X.prog X.w) X.A X.env xe → PSs (X.tr pn xe) body (tb W))
    (hh : HdsN X (h₀ :: hds) l) : PS X (.Try body (h₀ :: hds) [] [] pos) (fun D σ H => tb (wManyN X.K Wout D l) D σ H) := by
  refine ⟨fun pins s σ H D I h => ?_⟩
  have ok := I.ok
  have hfr : X.A.frames = some (X.env :: X.outer) := by rw [ok.frames, hs]
  refine wpAny_Try_except ?_
  refine wpAny_mono ((hb (wManyN X.K Wout D l) (X.pn ++ pins) (fun e s₁ => wpAny (model X.prog X.w) X.A (noteFrame e X.env) (fun _ s₂ => wpAny (model X.prog X.w) X.A (setFlight e none) (fun _ s₃ =>
    wpAny (model X.prog X.w) X.A (handleBy e X.env (h₀ :: hds)) (SP X pins D) X.xe s₃) X.xe s₂) X.xe s₁) (fun u s' xx => ?_) PassesOwn.looking).run [] s σ H D (I.toTry _) h) (fun f s1 hsp => ?_) (fun e s1 he => he)
  · -- the catch
    obtain ⟨a, B, sI, pins', σ', H', cls, d, rfl, J', nb, up, sky, na, os, ag, w⟩ := xx
    have J : Inv X pins σ' H' sI := J'.ofTry ok
    have sky' : Sky B (X.env :: X.outer) a (Zc cls d) X.env.locals s'.heap := by rw [← hs]; exact sky
    show wpAny (model X.prog X.w) X.A (noteFrame (.ref a) X.env) _ _ _
    refine Sky.land Zc.steady hfr hf sky' fun h3 fl3 up3 => ?_
    have J3 : Inv X pins σ' H' { s' with heap := h3 } := J.landed nb fl3.1 (up.trans up3) os ag
    obtain ⟨oe3, vs3, he3, hz3, hd3⟩ := fl3.there
    have notFr : ∀ {h : Heap} {o : Obj} {vs : Array Value}, h.FunFrames B (X.env :: X.outer) → h.get? a = some o → o.data = .fields vs → a ∉ frs (X.env :: X.outer) := fun {h o vs} ff e dd hm => by
      obtain ⟨_, o', e', hnf⟩ := ff.mem hm
      rw [e] at e'; cases e'
      exact hnf _ dd
    have nfr := notFr fl3.2.2.1 he3 hd3
    have nL : a ≠ X.env.locals := fun z => nfr (List.mem_filterMap.mpr ⟨X.env, List.mem_cons_self, by rw [hf, z]⟩)
    have nF : a ∉ X.fs := fun hm => by
      obtain ⟨e, he, q⟩ := List.mem_filterMap.mp hm
      exact nfr (List.mem_filterMap.mpr ⟨e, List.mem_cons_of_mem _ he, q⟩)
    have S3 := J3.suite he3 hd3 na nL nF
    have go : ∀ {hds' : List ExceptHandler} {l' : List (Value × Option (Addr → Value → Option Addr → TS))}, HdsN X hds' l' → wManyN X.K Wout D l' cls d σ' H' →
        wpAny (model X.prog X.w) X.A (handleBy (.ref a) X.env hds') (SP X pins D) X.xe { s' with heap := h3 } := by
      intro hds' l' hk
      induction hk with
      | nil =>
        intro w
        refine wpAny_handleBy_nil ?_
        obtain ⟨k1, k2, k3, oe, vs, T, oT, ts', he, hz, hd, h1, hr⟩ := id fl3
        unfold PySem.passOn
        refine wpAny_bind (wpAny_field he hd h1 ?_)
        rw [if_neg (show ¬ ((Value.ref T == Value.none) = true) from by simp)]
        have fin : wpAny (model X.prog X.w) X.A (setFlight (.ref a) X.env.frame) (fun _ s4 => wpAny (model X.prog X.w) X.A (throw (.ref a) : Sem Flow) (SP X pins D) X.xe s4) X.xe { s' with heap := h3 } := by
          rw [hf]
          refine HandSPX.setFlight_upZ fl3 fun h4 hh4 up4 => wpAny_throw (tk _ _ ?_)
          exact ⟨a, B, sI, pins, σ', H', cls, d, rfl, J, nb, (up.trans up3).trans up4, .inr (.inr (by rw [hs]; exact hh4)), na, os, ag, w⟩
        first
          | exact wpAny_bind (wpAny_pure (wpAny_bind fin))
          | exact wpAny_bind fin
      | @cons x c ts b₀ suite np pos' hds2 l2 hc hsu r ih =>
        intro w
        obtain ⟨b, hb1, hyes, hno⟩ := w
        refine wpAny_handleBy_cons (codeAny_handlers_test ?_) (by intro q; cases q)
        have LT : PySem.W.Looks (model X.prog X.w) h3 (typeOf (.ref a)) cls := fun A Q E s k q => wpAny_typeOf_ref (k _ _ he3) (by rw [hz3.1]; exact q)
        have LM := PySem.W.exm_one (M := model X.prog X.w) (J3.kIn) LT hb1
        have test : ∀ {Q : Value → Shared → Prop} {E : Value → Shared → Prop}, Q c { s' with heap := h3 } → wpAny (model X.prog X.w) (X.A.mark (some (.ref a))) (eval (.Name x np) X.env) Q E { s' with heap := h3 } := fun {Q E} q => by
          obtain ⟨hg, hdbg, hm | ⟨hm, hv, hnn⟩⟩ := hc
          · exact ld_glob (X := X.suite a ((a, oe3) :: (X.pn ++ pins))) S3 hg hm q hdbg
          · exact ld_blt (X := X.suite a ((a, oe3) :: (X.pn ++ pins))) S3 hg hm hv q hnn hdbg
        refine test (LM.here ?_)
        cases b with
        | true =>
          refine codeAny_handlers_suite ?_
          refine HandSPX.lands_againZ fl3 fun h4 fl4 up4 => ?_
          have J4 : Inv X pins σ' H' { s' with heap := h4 } := J.landed nb fl4.1 ((up.trans up3).trans up4) os ag
          obtain ⟨oe4, vs4, he4, hz4, hd4⟩ := fl4.there
          have S4 := J4.suite he4 hd4 na nL nF
          refine wpAny_mono ((hsu a oe4 cls d (X.pn ++ pins) hz4 ⟨_, hd4⟩).run [] _ _ H' _ S4 (hyes rfl a na)) (fun f s6 hsp => ?_) (fun _ _ z => False.elim z)
          cases f with
          | next =>
            obtain ⟨σ6, H6, S6, q6⟩ := hsp
            exact ⟨_, _, S6.unsuite ok, q6⟩
          | brk =>
            obtain ⟨σ6, H6, S6, q6⟩ := hsp
            exact ⟨_, _, S6.unsuite ok, q6⟩
          | cont =>
            obtain ⟨σ6, H6, S6, q6⟩ := hsp
            exact ⟨_, _, S6.unsuite ok, q6⟩
          | ret u =>
            obtain ⟨v6, σ6, H6, S6, r6, q6⟩ := hsp
            exact ⟨_, _, _, S6.unsuite ok, r6, q6⟩
        | false =>
          show wpAny _ X.A (handleBy (.ref a) X.env hds2) _ _ _
          exact ih (hno rfl)
      | @never x n c suite np pos' hds2 l2 hc r ih =>
        intro w
        obtain ⟨b, hb1, hyes, hno⟩ := w
        refine wpAny_handleBy_cons (codeAny_handlers_test ?_) (by intro q; cases q)
        have LT : PySem.W.Looks (model X.prog X.w) h3 (typeOf (.ref a)) cls := fun A Q E s k q => wpAny_typeOf_ref (k _ _ he3) (by rw [hz3.1]; exact q)
        have LM := PySem.W.exm_one (M := model X.prog X.w) (J3.kIn) LT hb1
        have test : ∀ {Q : Value → Shared → Prop} {E : Value → Shared → Prop}, Q c { s' with heap := h3 } → wpAny (model X.prog X.w) (X.A.mark (some (.ref a))) (eval (.Name x np) X.env) Q E { s' with heap := h3 } := fun {Q E} q => by
          obtain ⟨hg, hdbg, hm | ⟨hm, hv, hnn⟩⟩ := hc
          · exact ld_glob (X := X.suite a ((a, oe3) :: (X.pn ++ pins))) S3 hg hm q hdbg
          · exact ld_blt (X := X.suite a ((a, oe3) :: (X.pn ++ pins))) S3 hg hm hv q hnn hdbg
        refine test (LM.here ?_)
        cases b with
        | true => exact (hyes rfl).elim
        | false =>
          show wpAny _ X.A (handleBy (.ref a) X.env hds2) _ _ _
          exact ih (hno rfl)
    exact go hh w
  · cases f with
    | next =>
      obtain ⟨σ', H', J', q⟩ := hsp
      exact wpAny_execs_nil ⟨σ', H', J'.ofTry ok, q⟩
    | brk =>
      obtain ⟨σ', H', J', q⟩ := hsp
      exact ⟨σ', H', J'.ofTry ok, q⟩
    | cont =>
      obtain ⟨σ', H', J', q⟩ := hsp
      exact ⟨σ', H', J'.ofTry ok, q⟩
    | ret u =>
      obtain ⟨v, σ', H', J', r, q⟩ := hsp
      exact ⟨v, σ', H', J'.ofTry ok, r, q⟩
end
end L2
end

section
set_option Elab.async false
set_option linter.all false
set_option maxRecDepth 100000
namespace Iv
open PySem L2
set_option autoImplicit false
variable {B : Bd} {z : Option Addr} {G H : Hp} {e : En} {σ : St} {W' : WX} {L : Lx} {KK : Nat → List Sl → RF} {k : Nat} {N : List Str} {s : Sx} {X : Cx} {D : Ends}

/-- what an except clause hands back, in whatever context -/
def tH (B : Bd) (z : Option Addr) (h : HE) : TE := fun σ H Q => ∃ G e w, StOk B z G H e σ ∧ hv none h = some w ∧ ∀ G' H' v, Fr G H e σ G' H' e σ → StOk B z G' H' e σ → Rep B G' w v → Q v H'
theorem t2_inv {a b : HE} {x : Expr} (h : chkH (.t2 a b) x = true) : ∃ p q j pos, x = .Tuple [p, q] j pos ∧ plB p = true ∧ plB q = true ∧ chkH a p = true ∧ chkH b q = true := by
  cases x with
  | Tuple xs j pos =>
    match xs, h with
    | [p, q], h =>
      have h : (plB p && plB q && chkH a p && chkH b q) = true := h
      simp only [Bool.and_eq_true] at h
      exact ⟨p, q, j, pos, rfl, h.1.1.1, h.1.1.2, h.1.2, h.2⟩
  | _ => cases h
theorem he_ok {X : Cx} : ∀ {h : HE} {x : Expr}, chkH h x = true → PE X x (tH B z h)
  | .k w, x, hc => by
    cases x with
    | Constant c j pos =>
      have hc : kB w c = true := hc
      unfold kB at hc
      split at hc
      · have q := of_decide_eq_true hc; subst q
        exact pe_imp pe_int fun σ H Q ⟨G, e, w, S, hw, q⟩ => by cases hw; exact q G H _ .refl S (.int _)
      · have q := of_decide_eq_true hc; subst q
        exact pe_imp pe_str fun σ H Q ⟨G, e, w, S, hw, q⟩ => by cases hw; exact q G H _ .refl S (.str _)
      · have q := of_decide_eq_true hc; subst q
        exact pe_imp pe_bl fun σ H Q ⟨G, e, w, S, hw, q⟩ => by cases hw; exact q G H _ .refl S (.bl _)
      · exact pe_imp pe_non fun σ H Q ⟨G, e, w, S, hw, q⟩ => by cases hw; exact q G H _ .refl S .non
      · cases hc
    | _ => cases hc
  | .fld, x, hc => by cases hc
  | .add _ _, x, hc => by cases hc
  | .t2 a b, x, hc => by
    obtain ⟨p, q, j, pos, rfl, h1, h2, h3, h4⟩ := t2_inv hc
    · refine pe_imp (pe_tup (pa_cons (he_ok h3) (pa_cons (he_ok h4) pa_nil (star_pl h2)) (star_pl h1))) fun σ H Q ⟨G, e, w, S, hw, q⟩ => ?_
      unfold hv at hw
      split at hw
      · rename_i wa wb ha hb
        cases hw
        refine ⟨G, e, wa, S, ha, fun G1 H1 u1 F1 S1 r1 => ⟨G1, e, wb, S1, hb, fun G2 H2 u2 F2 S2 r2 => ⟨by rw [sizeLine_eq]; exact (by decide : 2 ≤ 16777216), fun p hp => ?_⟩⟩⟩
        obtain ⟨S3, F3, q3⟩ := S2.made (o := .tup [u1, u2]) hp
        exact q _ _ _ (F1.trans (F2.trans F3)) S3 (.obj q3 (.tup (.cons (Rep.mono F3.g _ _ (Rep.mono F2.g _ _ r1)) (.cons (Rep.mono F3.g _ _ r2) .nil))))
      · cases hw
def tsH (B : Bd) (z : Option Addr) (h : HE) : Addr → Value → Option Addr → TS := fun _ _ _ D σ H => tH B z h σ H D.rt
def hdL (B : Bd) (z : Option Addr) : List (Nat × Option Nat × HE) → List (Value × Option (Addr → Value → Option Addr → TS))
  | [] => []
  | (c, none, h) :: r => (.ref (B.ca c), some (tsH B z h)) :: hdL B z r
  | (c, some _, _) :: r => (.ref (B.ca c), none) :: hdL B z r
theorem names_ok (xx : XOk L B KK k N s X) {c : Nat} {x : Str} (h1 : L.xn c = some x) (h2 : glB s x = true) : Names X x (.ref (B.ca c)) := by
  obtain ⟨q1, q2⟩ := xx.wd.xn c x h1
  exact ⟨gl_of xx h2, q2, .inl q1⟩
theorem hds_ok (xx : XOk L B KK k N s X) (z : Option Addr) : ∀ {hs : List (Nat × Option Nat × HE)} {ds : List ExceptHandler}, chkHs L s hs ds = true → HdsN X ds (hdL B z hs)
  | [], [], _ => .nil
  | [], _ :: _, h => by cases h
  | (c, none, h) :: hs, ds, hc => by
    unfold chkHs at hc
    split at hc
    · rename_i heq; first | contradiction | (simp at heq; done) | (rename_i heq2; simp at heq2; done) | skip
      all_goals first | contradiction | simp_all
    · rename_i c' h' hs' x np v rp hp ds' q
      cases q
      simp only [Bool.and_eq_true, decide_eq_true_eq] at hc
      obtain ⟨⟨⟨⟨h1, h2⟩, h3⟩, h4⟩, h5⟩ := hc
      refine .cons (names_ok xx h1 h2) (fun a oe cls d pn _ _ => ?_) (hds_ok xx z h5)
      refine pss_imp (pss_cons (ps_ret (he_ok h4)) pss_nil) fun D σ H q => q
    · rename_i heq; first | contradiction | (simp at heq; done) | (rename_i heq2; simp at heq2; done) | skip
      all_goals first | contradiction | simp_all
    · cases hc
  | (c, some n, h) :: hs, ds, hc => by
    unfold chkHs at hc
    split at hc
    · rename_i heq; first | contradiction | (simp at heq; done) | (rename_i heq2; simp at heq2; done) | skip
      all_goals first | contradiction | simp_all
    · rename_i heq; first | contradiction | (simp at heq; done) | (rename_i heq2; simp at heq2; done) | skip
      all_goals first | contradiction | simp_all
    · rename_i c' n' h' hs' x np nm su hp ds' q
      cases q
      simp only [Bool.and_eq_true, decide_eq_true_eq] at hc
      obtain ⟨⟨⟨h1, h2⟩, h3⟩, h5⟩ := hc
      exact .never (names_ok xx h1 h2) (hds_ok xx z h5)
    · cases hc
theorem catch_ok (xx : XOk L B KK k N s X) {x : Exn} {cls : Value} {d : Option Addr} {G1 H1 : Hp} {e1 : En} {σ1 : St} (F : Fr G H e σ G1 H1 e1 σ1) (S1 : StOk B z G1 H1 e1 σ1) (R : ExR B G1 H1 x cls d) (hx : L.T.xcl x.cls = true) : ∀ {hs : List (Nat × Option Nat × HE)} {ds : List ExceptHandler}, chkHs L s hs ds = true →
    PostS B z W' G H e σ (match catch_ x hs with
      | some (some w) => .ok (.ret false w) e1
      | some none => .err
      | none => .exn x e1) D → wManyN X.K W' D (hdL B z hs) cls d σ1 H1
  | [], [], _, h => h G1 H1 σ1 cls d F S1 R
  | [], _ :: _, hc, _ => by cases hc
  | (c, none, hh) :: hs, ds, hc, h => by
    unfold chkHs at hc
    split at hc
    · rename_i heq; first | contradiction | (simp at heq; done) | (rename_i heq2; simp at heq2; done) | skip
      all_goals first | contradiction | simp_all
    · rename_i c' h' hs' x' np v rp hp ds' q
      cases q
      simp only [Bool.and_eq_true, decide_eq_true_eq] at hc
      obtain ⟨⟨⟨⟨h1, h2⟩, h3⟩, h4⟩, h5⟩ := hc
      refine ⟨decide (x.cls = c), by rw [R.1]; exact xx.wd.exm _ _ hx h3, fun hb a ha => ?_, fun hb => ?_⟩
      · have hb := of_decide_eq_true hb
        unfold catch_ at h
        rw [if_pos hb] at h
        -- the field is not read
        have hf : ∀ h : HE, hv x.fld h = hv none h := by
          intro h
          induction h with
          | k w => rfl
          | fld => rfl
          | t2 a b ha hb => unfold hv; rw [ha, hb]
          | add a b ha hb => unfold hv; rw [ha, hb]
        rw [hf] at h
        cases hw : hv none hh with
        | none => rw [hw] at h; exact h.elim
        | some w =>
          rw [hw] at h
          exact ⟨G1, e1, w, S1, hw, fun G2 H2 v F2 S2 r => h G2 H2 σ1 (F.trans F2) S2 v r⟩
      · have hb := of_decide_eq_false hb
        unfold catch_ at h
        rw [if_neg hb] at h
        exact catch_ok xx F S1 R hx h5 h
    · rename_i heq; first | contradiction | (simp at heq; done) | (rename_i heq2; simp at heq2; done) | skip
      all_goals first | contradiction | simp_all
    · cases hc
  | (c, some n, hh) :: hs, ds, hc, h => by
    unfold chkHs at hc
    split at hc
    · rename_i heq; first | contradiction | (simp at heq; done) | (rename_i heq2; simp at heq2; done) | skip
      all_goals first | contradiction | simp_all
    · rename_i heq; first | contradiction | (simp at heq; done) | (rename_i heq2; simp at heq2; done) | skip
      all_goals first | contradiction | simp_all
    · rename_i c' n' h' hs' x' np nm su hp ds' q
      cases q
      simp only [Bool.and_eq_true, decide_eq_true_eq] at hc
      obtain ⟨⟨⟨h1, h2⟩, h3⟩, h5⟩ := hc
      refine ⟨decide (x.cls = c), by rw [R.1]; exact xx.wd.exm _ _ hx h3, fun hb => ?_, fun hb => ?_⟩
      · have hb := of_decide_eq_true hb
        unfold catch_ at h
        rw [if_pos hb] at h
        exact h
      · have hb := of_decide_eq_false hb
        unfold catch_ at h
        rw [if_neg hb] at h
        exact catch_ok xx F S1 R hx h5 h
    · cases hc
theorem oks_try (b : S) (hs : List (Nat × Option Nat × HE)) (hb : OkS L B KK k N b) : OkS L B KK k N (.try b hs) := by
  refine .of (fun _ _ => rfl) fun s X z W' xx xs tk st h => ?_
  replace h : (match Py.st st with
    | .st (.Try bs (d :: ds) [] [] _) => chkHs L s hs (d :: ds) && chkS L N b s (.ls bs)
    | _ => false) = true := h
  split at h
  · rename_i q
    cases q
    rename_i bs d ds pos
    rw [Bool.and_eq_true] at h
    refine ps_imp (ps_try_manyN (tb := fun W => tS B z W (ex L.T KK b)) xs.stk xs.frm tk (fun W pn xe tk' hp => ?_) (hds_ok xx z h.1)) fun D σ H ⟨G, e, S, q⟩ => ⟨G, e, S, ?_⟩
    · exact hb.pss s (X.tr pn xe) z W ⟨xx.hN, xx.hsc, xx.nd, xx.room, xx.calm, xx.wd, xx.sto⟩ ⟨xs.stk, xs.frm, hp, xs.bk⟩ tk' _ h.2
    · replace q : PostS B z W' G H e σ (tryE L.T.xcl (ex L.T KK b e) hs) D := q
      cases hf : ex L.T KK b e with
      | err => rw [hf] at q; exact q
      | ok f e1 => rw [hf] at q; exact q
      | exn x e1 =>
        rw [hf] at q
        intro G1 H1 σ1 cls dd F S1 R
        unfold tryE at q
        dsimp only at q
        split at q
        · rename_i hx
          exact catch_ok xx F S1 R hx h.1 q
        · exact q.elim
  · cases h
theorem oks_all (c : S) : OkS L B KK k N c := oks_all0 c oks_try
end Iv
end

section
set_option Elab.async false
set_option linter.all false
set_option maxRecDepth 100000
namespace Iv
open PySem L2
set_option autoImplicit false
variable {B : Bd} {z : Option Addr} {G H : Hp} {e : En} {σ : St} {L : Lx} {KK : Nat → List Sl → RF} {k : Nat} {N ps : List Str} {P : Nat → Option FD} {Q : VK} {E' : XK}

/-! ### a def -/
theorem start_get (N : List Str) (vs : List V) : (∀ (i : Nat) (v : V), vs[i]? = some v → (L2.start N vs)[i]? = some (some v)) ∧ ∀ i, vs.length ≤ i → i < N.length → (L2.start N vs)[i]? = some none := by
  unfold L2.start
  refine ⟨fun i v h => ?_, fun i h1 h2 => ?_⟩
  · have hl : i < vs.length := (List.getElem?_eq_some_iff.mp h).1
    rw [List.getElem?_append_left (by simpa using hl), List.getElem?_map, h]; rfl
  · rw [List.getElem?_append_right (by simpa using h1), List.getElem?_replicate, if_pos (by simp; omega)]
/-- the slots at the entry -/
theorem entry_ok {args : List Sl} {vs : List V} {n : Nat} (sg : Sub G H) (hl : args.length = vs.length) (hn : args.length + n = N.length) (hz : ∀ a, z = some a → H a ≠ none)
    (hs : ∀ (i : Nat) (s : Sl) (v : V), args[i]? = some s → vs[i]? = some v → SlOk B G H z s (some v)) (hp : ∀ (i : Nat) (s : Sl), args[i]? = some s → (∃ w, s = .v w) ∨ (i = 0 ∧ ∃ w, s = .p w)) :
    StOk B z G H (args ++ List.replicate n .n) (L2.start N vs) ∧ ∀ a, Owned (args ++ List.replicate n .n) (L2.start N vs) a → z = some a := by
  obtain ⟨g1, g2⟩ := start_get N vs
  have gl : (L2.start N vs).length = N.length := by
    unfold L2.start
    rw [List.length_append, List.length_map, List.length_replicate]; omega
  have low : ∀ i s, (args ++ List.replicate n Sl.n)[i]? = some s → (args[i]? = some s ∧ i < args.length) ∨ (s = .n ∧ args.length ≤ i ∧ i < N.length) := by
    intro i s h
    by_cases hi : i < args.length
    · rw [List.getElem?_append_left hi] at h
      exact .inl ⟨h, hi⟩
    · rw [List.getElem?_append_right (by omega), List.getElem?_replicate] at h
      split at h
      · cases h
        exact .inr ⟨rfl, by omega, by omega⟩
      · cases h
  have oa : ∀ i a, OwnAt (args ++ List.replicate n Sl.n) (L2.start N vs) i a → i = 0 ∧ z = some a := by
    rintro i a ⟨⟨w, c⟩, d⟩
    have key : ∀ s, (args ++ List.replicate n Sl.n)[i]? = some s → (s = .o w ∨ s = .p w) → i = 0 ∧ z = some a := by
      intro s hq hs2
      rcases low i s hq with ⟨h1, h2⟩ | ⟨h1, _⟩
      · rcases hp i s h1 with ⟨w', q⟩ | ⟨h0, w', q⟩
        · subst q; rcases hs2 with q | q <;> cases q
        · subst q
          rcases hs2 with q | q
          · cases q
          · cases q
            have hv : ∃ v, vs[i]? = some v := ⟨vs[i]'(by omega), by simp⟩
            obtain ⟨v, hv⟩ := hv
            obtain ⟨b, q1, _, q3⟩ := hs i _ v h1 hv
            rw [g1 i v hv] at d
            rw [q1] at d
            cases d
            exact ⟨h0, q3⟩
      · subst h1; rcases hs2 with q | q <;> cases q
    rcases c with c | c
    · exact key _ c (.inl rfl)
    · exact key _ c (.inr rfl)
  refine ⟨⟨sg, by rw [List.length_append, List.length_replicate, gl]; exact hn, fun i s h => ?_, fun i j a hi hj => by rw [(oa i a hi).1, (oa j a hj).1], hz⟩, fun a ⟨i, h⟩ => (oa i a h).2⟩
  rcases low i s h with ⟨h1, h2⟩ | ⟨h1, h2, h3⟩
  · have hv : ∃ v, vs[i]? = some v := ⟨vs[i]'(by omega), by simp⟩
    obtain ⟨v, hv⟩ := hv
    exact ⟨some v, g1 i v hv, hs i s v h1 hv⟩
  · subst h1
    exact ⟨none, g2 i (by omega) h3, trivial⟩
/-- the end of a body is the end of the call -/
theorem fin_post {io : Bool} {r : RE Fl} (S0 : ∀ a, Owned e σ a → z = some a) (hio : io = z.isSome) (h : PostC B z G H (fin io r) Q E') : PostS B z (fun cls d _ H => E' cls d H) G H e σ r { nx := fun _ H' => Q .non H', rt := Q } := by
  have en : ∀ {e' : En} {G' H' : Hp} {σ' : St} {s : Sl}, endS io e' = some s → StOk B z G' H' e' σ' → EndC B z G' H' s := by
    intro e' G' H' σ' s he S'
    cases z with
    | none => trivial
    | some a =>
      have hio : io = true := hio
      subst hio
      unfold endS at he
      dsimp only at he
      split at he
      · rename_i w rest
        cases he
        obtain ⟨x, h1, b, rfl, h2, h3⟩ := S'.sl 0 (.p w) rfl
        cases h3
        exact ⟨w, rfl, h2⟩
      · cases he
  have fr : ∀ {e' : En} {G' H' : Hp} {σ' : St}, Fr G H e σ G' H' e' σ' → StOk B z G' H' e' σ' → FrC z G H G' H' := fun F S' => ⟨F.g, S'.sub, fun a o q n => F.keep a o q fun q2 => n (S0 a q2), F.tr⟩
  cases r with
  | err => exact h
  | exn x e' =>
    intro G' H' σ' cls d F S' R
    unfold fin at h
    dsimp only at h
    cases he : endS io e' with
    | none => rw [he] at h; exact h.elim
    | some s =>
      rw [he] at h
      exact h G' H' cls d (fr F S') (en he S') R
  | ok f e' =>
    intro G' H' σ' F S'
    cases f with
    | brk => exact h.elim
    | cont => exact h.elim
    | next =>
      unfold fin at h
      dsimp only at h
      cases he : endS io e' with
      | none => rw [he] at h; exact h.elim
      | some s =>
        rw [he] at h
        exact h G' H' .non (fr F S') (en he S') Rep.non
    | ret fr' w =>
      unfold fin at h
      dsimp only at h
      cases he : endS io e' with
      | none => rw [he] at h; exact h.elim
      | some s =>
        rw [he] at h
        intro v R
        refine h G' H' v (fr F S') (en he S') ?_
        cases fr' with
        | false => exact R
        | true =>
          obtain ⟨a, h1, h2, h3, h4⟩ := R
          refine ⟨a, h1, h2, ?_⟩
          rcases h4 with h4 | h4
          · exact absurd (S0 a h4) h3
          · exact h4
theorem run_len {T : Tb} {f : Nat} {d : FD} {args : List Sl} {n : Nat} (hP : P f = some d) (h : PostC B z G H (run T P (n + 1) f args) Q E') : args.length = d.np ∧ PostC B z G H (fin (isP args) (ex T (run T P n) d.body (args ++ List.replicate (d.ns - d.np) .n))) Q E' := by
  unfold run at h
  rw [hP] at h
  dsimp only at h
  split at h
  · rename_i c; exact ⟨c, h⟩
  · exact h.elim
theorem fn_sound {Pr : Program} {w : World} {K : PySem.W.Frag} {mg : Str → Option Value} {base : Heap} {x qual : Str} {params : Arguments} {body : List Stmt} {scope : Scope} {dvs : List V} {kws : List (Str × V)} {f : Addr} {fd : FuncData} {fid : Nat} {d : FD}
    (F : FunD K x qual params body scope dvs kws f fd) (S : FnScope N ps scope) (hc : chkS L N d.body ⟨scope, scope⟩ (.ls body) = true) (hnp : d.np = ps.length) (hns : d.ns = N.length) (wd : Wd L B (run L.T P k) k Pr w K mg base) (hP : P fid = some d) :
    FnOk Pr w K mg base (L2.CX Pr w) (k + 1) f fd ps (spK B (run L.T P (k + 1)) fid) := by
  have hpn : ps.length ≤ N.length := by
    have := congrArg List.length S.pre
    rw [List.length_take] at this
    omega
  refine F.ok S (fun vs H Q E h => ?_) fun cdv A outer sh H vs Q E hr h => ?_
  · obtain ⟨G, sg, ⟨ws, rs, h⟩ | ⟨w, ws, a, us, rfl, o, rs, h⟩⟩ := h
    · obtain ⟨h1, _⟩ := run_len hP h
      rw [List.length_map] at h1
      rw [← rs.length, h1, hnp]
    · obtain ⟨h1, _⟩ := run_len hP h
      rw [List.length_cons, List.length_map] at h1
      rw [List.length_cons, ← rs.length, h1, hnp]
  · have xx : XOk L B (run L.T P k) k N ⟨scope, scope⟩ (cxOf (L2.CX Pr w) Pr w K mg base N qual scope f cdv A outer sh H E) := ⟨rfl, rfl, S.nd, hr, rfl, wd, fun _ _ => rfl⟩
    have xs : XSt (cxOf (L2.CX Pr w) Pr w K mg base N qual scope f cdv A outer sh H E) := by
      refine ⟨rfl, rfl, passes_of rfl, ?_⟩
      show (if scope.kind.isAnnotationScope then ScopeKind.function else scope.kind) = .function
      rw [S.kind]; rfl
    have tk : Takes (cxOf (L2.CX Pr w) Pr w K mg base N qual scope f cdv A outer sh H E) (fun cls d _ H => E cls d H) := takes_of rfl rfl rfl rfl
    obtain ⟨G, sg, ⟨ws, rs, h⟩ | ⟨w0, ws, a, us, rfl, o, rs, h⟩⟩ := h
    · obtain ⟨h1, h2⟩ := run_len hP h
      have hlen := rs.length
      rw [List.length_map] at h1
      obtain ⟨S0, O0⟩ := entry_ok (B := B) (z := none) (N := N) (args := ws.map .v) (n := d.ns - d.np) sg (by rw [List.length_map]; exact hlen) (by rw [List.length_map]; omega) (fun _ q => by cases q) (fun i s v hs hv => by
        rw [List.getElem?_map] at hs
        cases hw : ws[i]? with
        | none => rw [hw] at hs; cases hs
        | some w =>
          rw [hw] at hs
          cases hs
          obtain ⟨v', q1, q2⟩ := rs.get hw
          rw [hv] at q1; cases q1
          exact ⟨v, rfl, q2⟩) (fun i s hs => by
        rw [List.getElem?_map] at hs
        cases hw : ws[i]? with
        | none => rw [hw] at hs; cases hs
        | some w => rw [hw] at hs; cases hs; exact .inl ⟨w, rfl⟩)
      refine ⟨_, (oks_all d.body).pss _ _ none _ xx xs tk _ hc, G, _, S0, fin_post O0 ?_ h2⟩
      cases ws <;> rfl
    · obtain ⟨h1, h2⟩ := run_len hP h
      have hlen := rs.length
      rw [List.length_cons, List.length_map] at h1
      obtain ⟨S0, O0⟩ := entry_ok (B := B) (z := some a) (N := N) (args := .p w0 :: ws.map .v) (vs := .ref a :: us) (n := d.ns - d.np) sg (by rw [List.length_cons, List.length_map, List.length_cons, hlen]) (by rw [List.length_cons, List.length_map]; omega) (fun b q => by cases q; exact o.there) (fun i s v hs hv => by
        cases i with
        | zero =>
          have hs : Sl.p w0 = s := by simpa using hs
          have hv : V.ref a = v := by simpa using hv
          subst hs hv
          exact ⟨a, rfl, o, rfl⟩
        | succ i =>
          rw [List.getElem?_cons_succ] at hs hv
          rw [List.getElem?_map] at hs
          cases hw : ws[i]? with
          | none => rw [hw] at hs; cases hs
          | some w =>
            rw [hw] at hs
            cases hs
            obtain ⟨v', q1, q2⟩ := rs.get hw
            rw [hv] at q1; cases q1
            exact ⟨v, rfl, q2⟩) (fun i s hs => by
        cases i with
        | zero =>
          have hs : Sl.p w0 = s := by simpa using hs
          subst hs
          exact .inr ⟨rfl, w0, rfl⟩
        | succ i =>
          rw [List.getElem?_cons_succ, List.getElem?_map] at hs
          cases hw : ws[i]? with
          | none => rw [hw] at hs; cases hs
          | some w => rw [hw] at hs; cases hs; exact .inl ⟨w, rfl⟩)
      exact ⟨_, (oks_all d.body).pss _ _ (some a) _ xx xs tk _ hc, G, _, S0, fin_post O0 rfl h2⟩
/-! ### all defs, by the depth of the calls -/
structure Dx (L : Lx) (B : Bd) (P : Nat → Option FD) (K : PySem.W.Frag) (f : Nat) : Prop where
  ex : ∃ (x qual : Str) (params : Arguments) (body : List Stmt) (scope : Scope) (dvs : List V) (kws : List (Str × V)) (fd : FuncData) (d : FD) (N ps : List Str), FunD K x qual params body scope dvs kws (B.fa f) fd ∧ FnScope N ps scope ∧
    chkS L N d.body ⟨scope, scope⟩ (.ls body) = true ∧ d.np = ps.length ∧ d.ns = N.length ∧ P f = some d ∧ Binds K fd ps []
theorem wd_all {Pr : Program} {w : World} {K : PySem.W.Frag} {mg : Str → Option Value} {base : Heap} (W0 : Wd { L with T := { L.T with has := fun _ => false } } B (fun _ _ => .err) 0 Pr w K mg base) (D : ∀ f, L.T.has f = true → Dx L B P K f) : ∀ n, Wd L B (run L.T P n) n Pr w K mg base := by
  intro n
  have base' : (∀ f, L.T.has f = true → ∃ fd ps, FnOk Pr w K mg base (L2.CX Pr w) n (B.fa f) fd ps (spK B (run L.T P n) f) ∧ PySem.W.keepIn K (.ref (B.fa f)) = true ∧ Binds K fd ps []) → Wd L B (run L.T P n) n Pr w K mg base := fun ok => ⟨W0.fn, ok, W0.bi, W0.xc, W0.sk, W0.exm, W0.xn, W0.g⟩
  induction n with
  | zero =>
    refine base' fun f hf => ?_
    obtain ⟨x, qual, params, body, scope, dvs, kws, fd, d, N, ps, F, S, hc, h1, h2, hP, hb⟩ := (D f hf).ex
    refine ⟨fd, ps, ⟨fun vs H Q E h => ?_, fun A outer s H args us vs Q E _ _ _ _ h => ?_⟩, F.kp, hb⟩
    · obtain ⟨G, sg, ⟨ws, rs, h⟩ | ⟨w, ws, a, us, rfl, o, rs, h⟩⟩ := h <;> exact h.elim
    · obtain ⟨G, sg, ⟨ws, rs, h⟩ | ⟨w, ws, a, us, rfl, o, rs, h⟩⟩ := h <;> exact h.elim
  | succ n ih =>
    refine base' fun f hf => ?_
    obtain ⟨x, qual, params, body, scope, dvs, kws, fd, d, N, ps, F, S, hc, h1, h2, hP, hb⟩ := (D f hf).ex
    exact ⟨fd, ps, fn_sound F S hc h1 h2 (ih fun ok => ⟨W0.fn, ok, W0.bi, W0.xc, W0.sk, W0.exm, W0.xn, W0.g⟩) hP, F.kp, hb⟩
end Iv
end

section
set_option Elab.async false
set_option linter.all false
set_option maxRecDepth 100000
namespace Iv
open PySem L2
set_option autoImplicit false

theorem lookup_mem {α : Type} : ∀ {l : List (Nat × α)} {k : Nat} {v : α}, l.lookup k = some v → (k, v) ∈ l
  | [], _, _, h => by cases h
  | (a, b) :: r, k, v, h => by
    rw [List.lookup_cons] at h
    by_cases e : k == a
    · rw [e] at h
      cases h
      rw [eq_of_beq e]
      exact List.mem_cons_self
    · have e : (k == a) = false := by simpa using e
      rw [e] at h
      exact List.mem_cons_of_mem _ (lookup_mem h)
/-- what a law's text holds: defs by number, constants, classes of exceptions (xp: those raised with a text alone) -/
structure Hd where
  names : List Str
  cst : List (Str × Int)
  xs : List (Nat × Str)
  xp : List (Nat × Str)
  T : Tb
def Hd.lx (h : Hd) : Lx := ⟨fun f => h.names[f]?, h.cst, fun c => h.xp.lookup c, fun c => h.xs.lookup c, h.T⟩
def Hd.bd (h : Hd) (K : PySem.W.Frag) : Bd := ⟨fun f => He.ga K (h.names.getD f ""), fun c => He.ga K ((h.xs.lookup c).getD ""), fun _ => "", fun a vs => ∀ H : Hp, SqL K H a vs⟩
def Hd.fa (h : Hd) : List He.Fa := h.names.map .glo ++ (biNames.map .free ++ (h.cst.map (fun p => .int p.1 p.2) ++ (h.xs.map (fun p => .glo p.2) ++ (h.xp.map (fun p => .exc p.2) ++ (h.xs.flatMap fun p => h.xs.map fun q => .exm p.2 q.2 (decide (p.1 = q.1)))))))
def Hd.okB (h : Hd) : Bool := h.names.all (fun x => !(x == ("__debug__" : Str))) && h.cst.all (fun p => !(p.1 == ("__debug__" : Str))) && h.xs.all (fun p => !(p.2 == ("__debug__" : Str))) && h.xp.all (fun p => decide (h.xs.lookup p.1 = some p.2))
theorem wd0 {h : Hd} {K : PySem.W.Frag} {hp base : Heap} {mg : Str → Option Value} {Pr : Program} {w : World} (X : K.In hp) (G : hp.Ns mainGlobals mg) (hok : h.okB = true) (hx : ∀ a, h.T.xcl a = true → (h.xs.lookup a).isSome = true) (c : ∀ f ∈ h.fa, He.Fa.ok K f = true) :
    Wd { h.lx with T := { h.lx.T with has := fun _ => false } } (h.bd K) (fun _ _ => .err) 0 Pr w K mg base := by
  unfold Hd.okB at hok
  simp only [Bool.and_eq_true] at hok
  obtain ⟨⟨⟨o1, o2⟩, o3⟩, o4⟩ := hok
  have nd : ∀ {x : Str}, (!(x == ("__debug__" : Str))) = true → (x == ("__debug__" : Str)) = false := fun h => by simpa using h
  have m1 : ∀ {f}, f ∈ h.names.map He.Fa.glo → f ∈ h.fa := fun q => List.mem_append_left _ q
  have m2 : ∀ {f}, f ∈ biNames.map He.Fa.free → f ∈ h.fa := fun q => List.mem_append_right _ (List.mem_append_left _ q)
  have m3 : ∀ {f}, f ∈ h.cst.map (fun p => He.Fa.int p.1 p.2) → f ∈ h.fa := fun q => List.mem_append_right _ (List.mem_append_right _ (List.mem_append_left _ q))
  have m4 : ∀ {f}, f ∈ h.xs.map (fun p => He.Fa.glo p.2) → f ∈ h.fa := fun q => List.mem_append_right _ (List.mem_append_right _ (List.mem_append_right _ (List.mem_append_left _ q)))
  have m5 : ∀ {f}, f ∈ h.xp.map (fun p => He.Fa.exc p.2) → f ∈ h.fa := fun q => List.mem_append_right _ (List.mem_append_right _ (List.mem_append_right _ (List.mem_append_right _ (List.mem_append_left _ q))))
  have m6 : ∀ {f}, f ∈ (h.xs.flatMap fun p => h.xs.map fun q => He.Fa.exm p.2 q.2 (decide (p.1 = q.1))) → f ∈ h.fa := fun q => List.mem_append_right _ (List.mem_append_right _ (List.mem_append_right _ (List.mem_append_right _ (List.mem_append_right _ q))))
  have xn : ∀ cl x, h.xs.lookup cl = some x → mg x = some (.ref ((h.bd K).ca cl)) ∧ (x == ("__debug__" : Str)) = false := fun cl x hl => by
    have hm : (cl, x) ∈ h.xs := lookup_mem hl
    refine ⟨?_, nd (List.all_eq_true.mp o3 _ hm)⟩
    have e : (h.bd K).ca cl = He.ga K x := by
      show He.ga K ((h.xs.lookup cl).getD "") = _
      rw [hl]; rfl
    rw [e]
    exact He.glo_ok X G (c _ (m4 (List.mem_map.mpr ⟨_, hm, rfl⟩)))
  refine ⟨fun f x hf => ?_, fun f hf => (by cases hf), fun x hb => ?_, fun cl x hl => ?_, fun a vs q => q, fun a b ha hb => ?_, xn, fun x i hm => ?_⟩
  · have hf : h.names[f]? = some x := hf
    have hm : x ∈ h.names := List.mem_of_getElem? hf
    refine ⟨?_, nd (List.all_eq_true.mp o1 _ hm)⟩
    have e : (h.bd K).fa f = He.ga K x := by
      show He.ga K (h.names.getD f "") = _
      rw [List.getD_eq_getElem?_getD, hf]; rfl
    rw [e]
    exact He.glo_ok X G (c _ (m1 (List.mem_map.mpr ⟨_, hm, rfl⟩)))
  · exact He.free_ok X G (c _ (m2 (List.mem_map.mpr ⟨_, hb, rfl⟩)))
  · have hl : h.xp.lookup cl = some x := hl
    have hm : (cl, x) ∈ h.xp := lookup_mem hl
    obtain ⟨q1, q2, q3, q4⟩ := He.exc_ok (c _ (m5 (List.mem_map.mpr ⟨_, hm, rfl⟩)))
    have hl2 : h.xs.lookup cl = some x := of_decide_eq_true (List.all_eq_true.mp o4 _ hm)
    obtain ⟨g1, g2⟩ := xn cl x hl2
    intro Y hK hM hg m j p p2 pos
    subst hK hM
    have e : (h.bd Y.K).ca cl = He.ga Y.K x := by
      show He.ga Y.K ((h.xs.lookup cl).getD "") = _
      rw [hl2]; rfl
    rw [e] at g1 ⊢
    exact pmk_own PySem.F.excBase_ValueError q1 g1 q2 (raises_own q3 q4) hg g2
  · obtain ⟨x, h1⟩ := Option.isSome_iff_exists.mp (hx a ha)
    obtain ⟨y, h2⟩ := Option.isSome_iff_exists.mp (hx b hb)
    have e1 : (h.bd K).ca a = He.ga K x := by
      show He.ga K ((h.xs.lookup a).getD "") = _
      rw [h1]; rfl
    have e2 : (h.bd K).ca b = He.ga K y := by
      show He.ga K ((h.xs.lookup b).getD "") = _
      rw [h2]; rfl
    rw [e1, e2]
    exact He.exm_ok (c _ (m6 (List.mem_flatMap.mpr ⟨(a, x), lookup_mem h1, List.mem_map.mpr ⟨(b, y), lookup_mem h2, rfl⟩⟩)))
  · have hm : (x, i) ∈ h.cst := hm
    obtain ⟨t, ht⟩ := He.int_ok X G (c _ (m3 (List.mem_map.mpr ⟨_, hm, rfl⟩)))
    exact ⟨⟨_, ht, t, rfl⟩, nd (List.all_eq_true.mp o2 _ hm)⟩
theorem dx_of {h : Hd} {K : PySem.W.Frag} {P : Nat → Option FD} {f : Nat} {d : FD} {st : Stmt} {x : Str} {N ps : List Str} (F : ∃ fd, FunD K x x (defArgs st) (defBody st) (defScope st) [] [] (He.fAd K (x, none)) fd) (hx : h.names[f]? = some x) (hs : C8.scC N ps (defScope st) = true)
    (hc : chkS h.lx N d.body ⟨defScope st, defScope st⟩ (.ls (defBody st)) = true) (h1 : d.np = ps.length) (h2 : d.ns = N.length) (hP : P f = some d)
    (hb : ∀ (kV doc pm : Value) (an : Option Addr) (cdv ct : Value) (us : List Value), us.length = ps.length → bindArgs (PySem.W.fnOf x x (defArgs st) (defBody st) (defScope st) .none kV doc pm an cdv ct) ⟨us, []⟩ = pure (ps.zip us)) : Dx h.lx (h.bd K) P K f := by
  obtain ⟨fd, F⟩ := F
  have e : (h.bd K).fa f = He.fAd K (x, none) := by
    show He.ga K (h.names.getD f "") = _
    rw [List.getD_eq_getElem?_getD, hx]; rfl
  exact ⟨x, x, _, _, _, [], [], fd, d, N, ps, by rw [e]; exact F, C8.fnScope_by hs, hc, h1, h2, hP, F.bindsN hb⟩
theorem fn_law {h : Hd} {P : Nat → Option FD} {Pr : Program} {w : World} {K : PySem.W.Frag} {mg : Str → Option Value} {base : Heap} {f n : Nat} {st : Stmt} {x : Str} {fd : FuncData} {d : FD} {N ps : List Str} (wd : Wd h.lx (h.bd K) (run h.lx.T P n) n Pr w K mg base) (hD : Dx h.lx (h.bd K) P K f)
    (F : FunD K x x (defArgs st) (defBody st) (defScope st) [] [] (He.ga K x) fd) (hs : C8.scC N ps (defScope st) = true) (hc : chkS h.lx N d.body ⟨defScope st, defScope st⟩ (.ls (defBody st)) = true) (h1 : d.np = ps.length) (h2 : d.ns = N.length) (hP : P f = some d) :
    FnOk Pr w K mg base (L2.CX Pr w) (n + 1) (He.ga K x) fd ps (spK (h.bd K) (run h.lx.T P (n + 1)) f) := fn_sound F (C8.fnScope_by hs) hc h1 h2 wd hP
/-- the law, called with its script -/
theorem law_sp {h : Hd} {K : PySem.W.Frag} {P : Nat → Option FD} {n f : Nat} (hrun : ∀ ns : List Int, ns.length ≤ 63 → ∃ s0, run h.T P n f [.v (.scr (ns.map .int))] = .ok false (.bl true) s0) (H : Hp) (a : Addr) (ns : List Int) (hl : ns.length ≤ 63) (hO : Only H) (hS : SqL K H a (ns.map V.int)) :
    spK (h.bd K) (run h.lx.T P n) f [.ref a] H (fun v _ => v = .bl true) fun _ _ _ => False := by
  obtain ⟨s0, hr⟩ := hrun ns hl
  refine ⟨H, fun _ _ q => q, .inl ⟨[.scr (ns.map .int)], .cons ?_ .nil, ?_⟩⟩
  · rcases hS with hS | hS
    · rcases hO a with q | ⟨o, xs, q⟩
      · rcases hS with hS | ⟨o, hS⟩
        · rw [q] at hS; cases hS
        · rw [q] at hS; cases hS
      · rcases hS with hS | ⟨o', hS⟩
        · rw [q] at hS; cases hS
        · exact .obj hS (.scr (reps_ints ns))
    · exact .skr (fun H' => .inr hS) (reps_ints ns)
  · show PostC _ none H H (run h.T P n f [.v (.scr (ns.map .int))]) _ _
    rw [hr]
    intro G' H' v _ _ r
    have r : Rep _ G' (.bl true) v := r
    exact (show RdW (h.bd K) G' H' (.bl true) v from .inl r).bl
open PySem.W in
theorem walk_w {l : PySem.W.OpenLaw} {n k : Nat} {q : Program} {loose : List Str} {XP : (Str → Option Value) → Heap → Prop} {YP : World → Heap → Prop} {d : DefRec} {CX : World → CXT} {x : Str}
    (hn : l.most = some n) (hn2 : n ≤ sizeLine) (hdf : d.params.defaults = []) (hr : Room k callerA)
    (F : ∀ (w : World) (mg : Str → Option Value) (fa : Addr) (h : Heap), YP w h → h.Ns mainGlobals mg → mg d.name = some (.ref fa) →
      ∃ (K : PySem.W.Frag) (fd : FuncData) (sp : Sp), K.In h ∧ (∀ (s : Shared) (u : Value), BindsTo s fd ⟨[u], []⟩ [(x, u)]) ∧
        (∀ (H : Hp) (a : Addr) (ns : List Int), ns.length ≤ n → Only H → SqL K H a (ns.map V.int) → sp [.ref a] H (fun v _ => v = .bl true) fun _ _ _ => False) ∧
        ∀ base : Heap, K.In base → base.Ns mainGlobals mg → FnOk l.prog w K mg base (CX w) k fa fd [x] sp)
    (hCX : ∀ (w : World) (H : Hp) (s : Shared) (e : Value) (s' : Shared), CX w [] H s (fun _ _ _ => False) e s' → False) :
    PySem.W.WalkO q loose XP YP l.row.toRowW d [] (fun f vs => PySem.call f vs) := by
  refine Att.attach_call hn hdf fun w s₀ s₁ mg mb fa o pm cd doc a vs ns G Y ho hd hcd hmg hobj hints hlen hg => ?_
  obtain ⟨K, fd, sp, KX, hb, hsp, hF⟩ := F w mg fa _ Y G.T.g hmg
  exact law_call KX G.T.g G.T.b G.T.builtins G.T.nolimit hg hobj hints (Nat.le_trans hlen hn2) hr hF hb (fun H hO hS => hsp H a ns hlen hO hS) fun H e s' => hCX w H s₁ e s'
theorem hCX_of {P : Program} (w : World) (H : Hp) (s : Shared) (e : Value) (s' : Shared) (h : L2.CX P w [] H s (fun _ _ _ => False) e s') : False := by
  obtain ⟨_, _, _, _, _, _, _, _, _, _, _, _, z⟩ := h
  exact z.elim
end Iv
end

section
set_option Elab.async false
set_option linter.all false
set_option maxRecDepth 100000
set_option maxHeartbeats 0
namespace K26
open Iv
set_option maxRecDepth 100000
/-- 0 is_integer: 0=value -/
def f_is_integer : FD := ⟨1, 1, (.cons (.ret (.and (.isi (.v 0) [.int] false) (.not (.isi (.v 0) [.bool] false)))) .nil)⟩
/-- 1 is_count: 0=value 1=low 2=high -/
def f_is_count : FD := ⟨3, 3, (.cons (.ret (.and (.call 0 (.cons (.v 0) .nil)) (.cmp2 .le .le (.v 1) (.v 0) (.v 2)))) .nil)⟩
/-- 2 check_count: 0=value 1=low 2=high -/
def f_check_count : FD := ⟨3, 3, (.cons (.ite (.not (.call 1 (.cons (.v 0) (.cons (.v 1) (.cons (.v 2) .nil)))))
(.cons (.raise 1) .nil)
.nil) .nil)⟩
/-- 3 is_whole_row: 0=value 1=x -/
def f_is_whole_row : FD := ⟨1, 2, (.cons (.ret (.and (.isi (.v 0) [.tuple] false) (.b1 .all (.lc [1] (.n 1) (.v 0) .nil (.call 0 (.cons (.v 1) .nil)))))) .nil)⟩
/-- 4 partitions: 0=n -/
def f_partitions : FD := ⟨1, 1, (.cons (.ret (.b1 .tuple (.call 5 (.cons (.v 0) (.cons (.v 0) .nil))))) .nil)⟩
/-- 5 partitions_below: 0=n 1=most 2=found 3=x 4=rest -/
def f_partitions_below : FD := ⟨2, 5, (.cons (.ite (.cmp .eq (.v 0) (.k (.int 0)))
(.cons (.ret (.lst (.cons (.tup .nil) .nil))) .nil)
.nil) (.cons (.asg (.p (.n 2)) (.lst .nil)) (.cons (.for (.n 3) (.rng3 (.b2 .min (.v 0) (.v 1)) (.k (.int 0)) (.neg (.k (.int 1))))
(.cons (.ext 2 (.lc [4] (.n 4) (.call 5 (.cons (.bin .sub (.v 0) (.v 3)) (.cons (.v 3) .nil))) .nil (.bin .add (.tup (.cons (.v 3) .nil)) (.v 4)))) .nil)) (.cons (.ret (.v 2)) .nil))))⟩
/-- 6 times: 0=one 1=two 2=x -/
def f_times : FD := ⟨2, 3, (.cons (.ret (.b1 .tuple (.lc [2] (.n 2) (.v 0) .nil (.ix (.v 1) (.v 2))))) .nil)⟩
/-- 7 rounds: 0=one 1=k 2=seen 3=found 4=row 5=x -/
def f_rounds : FD := ⟨1, 6, (.cons (.par [(.p (.n 2)), (.p (.n 3))] (.consR (.d0 false) (.consR (.lst .nil) .nil))) (.cons (.for (.n 1) (.rng1 (.b1 .len (.v 0)))
(.cons (.ite (.cmp .nin (.v 1) (.v 2))
(.cons (.par [(.p (.n 4)), (.p (.n 5))] (.consR (.lst .nil) (.consR (.v 1) .nil))) (.cons (.while (.cmp .nin (.v 5) (.v 2))
(.cons (.asg (.s 2 (.v 5)) (.k (.bl true))) (.cons (.app 4 (.v 5)) (.cons (.asg (.p (.n 5)) (.ix (.v 0) (.v 5))) .nil)))) (.cons (.app 3 (.b1 .tuple (.v 4))) .nil)))
.nil) .nil)) (.cons (.ret (.b1 .tuple (.v 3))) .nil)))⟩
/-- 8 round_number: 0=one -/
def f_round_number : FD := ⟨1, 1, (.cons (.ret (.b1 .len (.call 7 (.cons (.v 0) .nil)))) .nil)⟩
/-- 9 kind: 0=one 1=row -/
def f_kind : FD := ⟨1, 2, (.cons (.ret (.b1 .tuple (.rev (.b1 .sorted (.lc [1] (.n 1) (.call 7 (.cons (.v 0) .nil)) .nil (.b1 .len (.v 1))))))) .nil)⟩
/-- 10 of_rounds: 0=rows 1=n 2=met 3=found 4=row 5=x 6=k -/
def f_of_rounds : FD := ⟨2, 7, (.cons (.expr (.call 2 (.cons (.v 1) (.cons (.k (.int 0)) (.cons (.g (PySem.Str.ofString "MOST_SIZE") 60) .nil))))) (.cons (.ite (.or (.not (.isi (.v 0) [.list, .tuple] true)) (.not (.b1 .all (.lc [4] (.n 4) (.v 0) .nil (.call 3 (.cons (.v 4) .nil))))))
(.cons (.raise 1) .nil)
.nil) (.cons (.asg (.p (.n 2)) (.lc2 [4, 5] [5] (.n 4) (.v 0) .nil (.n 5) (.v 4) .nil (.v 5))) (.cons (.ite (.or (.cmp .ne (.b1 .len (.dc false [5] (.n 5) (.v 2) .nil (.v 5) (.k (.bl true)))) (.b1 .len (.v 2))) (.not (.b1 .all (.lc [5] (.n 5) (.v 2) .nil (.cmp2 .le .lt (.k (.int 0)) (.v 5) (.v 1))))))
(.cons (.raise 1) .nil)
.nil) (.cons (.asg (.p (.n 3)) (.lrng (.v 1))) (.cons (.for (.n 4) (.v 0)
(.cons (.for (.t2 (.n 6) (.n 5)) (.enu (.v 4))
(.cons (.asg (.s 3 (.v 5)) (.ix (.v 4) (.bin .mod (.bin .add (.v 6) (.k (.int 1))) (.b1 .len (.v 4))))) .nil)) .nil)) (.cons (.ret (.b1 .tuple (.v 3))) .nil)))))))⟩
/-- 11 pairings: 0=n 1=rows -/
def f_pairings : FD := ⟨1, 2, (.cons (.expr (.call 2 (.cons (.v 0) (.cons (.k (.int 0)) (.cons (.k (.int 6)) .nil))))) (.cons (.ret (.b1 .tuple (.lc [1] (.n 1) (.call 12 (.cons (.trng (.bin .mul (.k (.int 2)) (.v 0))) .nil)) .nil (.call 10 (.cons (.v 1) (.cons (.bin .mul (.k (.int 2)) (.v 0)) .nil)))))) .nil))⟩
/-- 12 pair_rows: 0=names 1=found 2=k 3=rest 4=own -/
def f_pair_rows : FD := ⟨1, 5, (.cons (.ite (.cmp .eq (.b1 .len (.v 0)) (.k (.int 0)))
(.cons (.ret (.lst (.cons (.lst .nil) .nil))) .nil)
.nil) (.cons (.asg (.p (.n 1)) (.lst .nil)) (.cons (.for (.n 2) (.rng2 (.k (.int 1)) (.b1 .len (.v 0)))
(.cons (.asg (.p (.n 3)) (.bin .add (.sl (.v 0) (.k (.int 1)) (.v 2)) (.sl (.v 0) (.bin .add (.v 2) (.k (.int 1))) .nil))) (.cons (.ext 1 (.lc [4] (.n 4) (.call 12 (.cons (.v 3) .nil)) .nil (.bin .add (.lst (.cons (.tup (.cons (.ix (.v 0) (.k (.int 0))) (.cons (.ix (.v 0) (.v 2)) .nil))) .nil)) (.v 4)))) .nil))) (.cons (.ret (.v 1)) .nil))))⟩
/-- 13 glue_by_steps: 0=n 1=rows 2=m 3=row 4=g 5=one 6=two -/
def f_glue_by_steps : FD := ⟨1, 7, (.cons (.expr (.call 2 (.cons (.v 0) (.cons (.k (.int 0)) (.cons (.g (PySem.Str.ofString "MOST_TOLD") 30) .nil))))) (.cons (.asg (.p (.n 1)) (.lst (.cons (.lst (.cons (.k (.int 1)) .nil)) (.cons (.lst (.cons (.k (.int 1)) .nil)) .nil)))) (.cons (.for (.n 2) (.rng2 (.k (.int 2)) (.bin .add (.v 0) (.k (.int 1))))
(.cons (.asg (.p (.n 3)) (.lst .nil)) (.cons (.for (.n 4) (.rng1 (.bin .add (.bin .fdiv (.v 2) (.k (.int 2))) (.k (.int 1))))
(.cons (.asg (.p (.n 5)) (.ite (.cmp .lt (.v 4) (.b1 .len (.ix (.v 1) (.bin .sub (.v 2) (.k (.int 1)))))) (.ix (.ix (.v 1) (.bin .sub (.v 2) (.k (.int 1)))) (.v 4)) (.k (.int 0)))) (.cons (.asg (.p (.n 6)) (.ite (.cmp2 .le .le (.k (.int 1)) (.v 4) (.b1 .len (.ix (.v 1) (.bin .sub (.v 2) (.k (.int 2)))))) (.ix (.ix (.v 1) (.bin .sub (.v 2) (.k (.int 2)))) (.bin .sub (.v 4) (.k (.int 1)))) (.k (.int 0)))) (.cons (.app 3 (.bin .fdiv (.bin .add (.bin .mul (.bin .mul (.k (.int 2)) (.bin .sub (.bin .mul (.k (.int 2)) (.v 2)) (.k (.int 1)))) (.v 5)) (.bin .mul (.bin .mul (.bin .mul (.bin .sub (.bin .mul (.k (.int 2)) (.v 2)) (.k (.int 1))) (.bin .sub (.v 2) (.k (.int 1)))) (.bin .sub (.bin .mul (.k (.int 2)) (.v 2)) (.k (.int 3)))) (.v 6))) (.bin .add (.v 2) (.k (.int 1))))) .nil)))) (.cons (.app 1 (.v 3)) .nil)))) (.cons (.ret (.b1 .tuple (.ix (.v 1) (.v 0)))) .nil))))⟩
/-- 14 glue_many: 0=row 1=turn 2=n 3=found 4=own -/
def f_glue_many : FD := ⟨1, 5, (.cons (.expr (.call 15 (.cons (.v 0) .nil))) (.cons (.asg (.p (.n 1)) (.call 16 (.cons (.v 0) .nil))) (.cons (.asg (.p (.n 2)) (.bin .fdiv (.b1 .sum (.v 0)) (.k (.int 2)))) (.cons (.asg (.p (.n 3)) (.bin .mul (.lst (.cons (.k (.int 0)) .nil)) (.bin .add (.bin .mul (.k (.int 2)) (.v 2)) (.k (.int 1))))) (.cons (.for (.n 4) (.call 11 (.cons (.v 2) .nil))
(.cons (.aug 3 .add (.call 8 (.cons (.call 6 (.cons (.v 4) (.cons (.v 1) .nil))) .nil)) (.k (.int 1))) .nil)) (.cons (.ret (.b1 .tuple (.v 3))) .nil))))))⟩
/-- 15 check_sides: 0=row 1=x -/
def f_check_sides : FD := ⟨1, 2, (.cons (.ite (.or (.not (.call 3 (.cons (.v 0) .nil))) (.or (.not (.b1 .all (.lc [1] (.n 1) (.v 0) .nil (.cmp .ge (.v 1) (.k (.int 1)))))) (.cmp .gt (.b1 .sum (.v 0)) (.k (.int 12)))))
(.cons (.raise 1) .nil)
.nil) (.cons (.ite (.or (.cmp .ne (.bin .mod (.b1 .sum (.v 0)) (.k (.int 2))) (.k (.int 0))) (.cmp .nin (.v 0) (.call 4 (.cons (.b1 .sum (.v 0)) .nil))))
(.cons (.raise 1) .nil)
.nil) .nil))⟩
/-- 16 many_order: 0=row 1=x 2=found 3=at 4=k -/
def f_many_order : FD := ⟨1, 5, (.cons (.par [(.p (.n 2)), (.p (.n 3))] (.consR (.lst .nil) (.consR (.k (.int 0)) .nil))) (.cons (.for (.n 1) (.v 0)
(.cons (.ext 2 (.lc [4] (.n 4) (.rng1 (.v 1)) .nil (.bin .add (.v 3) (.bin .mod (.bin .add (.v 4) (.k (.int 1))) (.v 1))))) (.cons (.asg (.p (.n 3)) (.bin .add (.v 3) (.v 1))) .nil))) (.cons (.ret (.b1 .tuple (.v 2))) .nil)))⟩
/-- 17 _law_state: 0=script 1=seed 2=total 3=cell -/
def f_law_state : FD := ⟨1, 4, (.cons (.asg (.p (.n 1)) (.k (.int 0))) (.cons (.asg (.p (.n 2)) (.k (.int 1))) (.cons (.for (.n 3) (.sl (.v 0) .nil (.k (.int 63)))
(.cons (.asg (.p (.n 1)) (.bin .add (.bin .mul (.v 1) (.k (.int 1000003))) (.b1 .abs (.v 3)))) (.cons (.asg (.p (.n 2)) (.bin .mod (.b1 .int (.bin .add (.bin .mul (.v 2) (.k (.int 48271))) (.v 3))) (.k (.int 2147483647)))) .nil))) (.cons (.ret (.lst (.cons (.v 1) (.cons (.ite (.cmp .ne (.v 2) (.k (.int 1973665155))) (.v 2) (.k (.int 7))) .nil)))) .nil))))⟩
/-- 18 _law_take: 0=state 1=m 2=value -/
def f_law_take : FD := ⟨2, 3, (.cons (.ite (.cmp .gt (.ix (.v 0) (.k (.int 0))) (.k (.int 0)))
(.cons (.asg (.p (.n 2)) (.bin .mod (.b1 .int (.ix (.v 0) (.k (.int 0)))) (.v 1))) (.cons (.asg (.s 0 (.k (.int 0))) (.bin .fdiv (.ix (.v 0) (.k (.int 0))) (.v 1))) (.cons (.ret (.v 2)) .nil)))
.nil) (.cons (.asg (.s 0 (.k (.int 1))) (.bin .mod (.b1 .int (.bin .add (.bin .mul (.ix (.v 0) (.k (.int 1))) (.k (.int 48271))) (.k (.int 11)))) (.k (.int 2147483647)))) (.cons (.ret (.bin .mod (.b1 .int (.bin .fdiv (.ix (.v 0) (.k (.int 1))) (.k (.int 7)))) (.v 1))) .nil)))⟩
/-- 19 _law_is_whole: 0=value -/
def f_law_is_whole : FD := ⟨1, 1, (.cons (.ret (.and (.isi (.v 0) [.int] false) (.not (.isi (.v 0) [.bool] false)))) .nil)⟩
/-- 20 _law_same: 0=one 1=two 2=k -/
def f_law_same : FD := ⟨2, 3, (.cons (.ite (.isi (.v 1) [.tuple] false)
(.cons (.ret (.and (.isi (.v 0) [.tuple] false) (.and (.cmp .eq (.b1 .len (.v 0)) (.b1 .len (.v 1))) (.b1 .all (.lc [2] (.n 2) (.rng1 (.b1 .len (.v 1))) .nil (.call 20 (.cons (.ix (.v 0) (.v 2)) (.cons (.ix (.v 1) (.v 2)) .nil)))))))) .nil)
.nil) (.cons (.ite (.isi (.v 1) [.str] false)
(.cons (.ret (.and (.isi (.v 0) [.str] false) (.cmp .eq (.v 0) (.v 1)))) .nil)
.nil) (.cons (.ite (.cmp .is (.v 1) (.k .non))
(.cons (.ret (.cmp .is (.v 0) (.k .non))) .nil)
.nil) (.cons (.ret (.and (.call 19 (.cons (.v 0) .nil)) (.cmp .eq (.v 0) (.v 1)))) .nil))))⟩
/-- 21 _law_result: 0=act 1=given 2=refused -/
def f_law_result : FD := ⟨2, 3, (.cons (.try (.cons (.ite (.cmp .eq (.b1 .len (.v 1)) (.k (.int 1)))
(.cons (.ret (.tup (.cons (.k (.str (PySem.Str.ofString "told"))) (.cons (.callV 0 (.cons (.ix (.v 1) (.k (.int 0))) .nil)) .nil)))) .nil)
.nil) (.cons (.ite (.cmp .eq (.b1 .len (.v 1)) (.k (.int 2)))
(.cons (.ret (.tup (.cons (.k (.str (PySem.Str.ofString "told"))) (.cons (.callV 0 (.cons (.ix (.v 1) (.k (.int 0))) (.cons (.ix (.v 1) (.k (.int 1))) .nil))) .nil)))) .nil)
.nil) (.cons (.ite (.cmp .eq (.b1 .len (.v 1)) (.k (.int 3)))
(.cons (.ret (.tup (.cons (.k (.str (PySem.Str.ofString "told"))) (.cons (.callV 0 (.cons (.ix (.v 1) (.k (.int 0))) (.cons (.ix (.v 1) (.k (.int 1))) (.cons (.ix (.v 1) (.k (.int 2))) .nil)))) .nil)))) .nil)
.nil) (.cons (.ite (.cmp .eq (.b1 .len (.v 1)) (.k (.int 4)))
(.cons (.ret (.tup (.cons (.k (.str (PySem.Str.ofString "told"))) (.cons (.callV 0 (.cons (.ix (.v 1) (.k (.int 0))) (.cons (.ix (.v 1) (.k (.int 1))) (.cons (.ix (.v 1) (.k (.int 2))) (.cons (.ix (.v 1) (.k (.int 3))) .nil))))) .nil)))) .nil)
.nil) (.cons (.ret (.tup (.cons (.k (.str (PySem.Str.ofString "told"))) (.cons (.callV 0 (.cons (.ix (.v 1) (.k (.int 0))) (.cons (.ix (.v 1) (.k (.int 1))) (.cons (.ix (.v 1) (.k (.int 2))) (.cons (.ix (.v 1) (.k (.int 3))) (.cons (.ix (.v 1) (.k (.int 4))) .nil)))))) .nil)))) .nil))))) [(1, none, (.t2 (.k (.str (PySem.Str.ofString "malformed"))) (.k .non))), (2, some 2, (.t2 (.k (.str (PySem.Str.ofString "refused"))) .fld))]) .nil)⟩
/-- 22 _law_su_rounds: 0=one 1=k 2=seen 3=found 4=row 5=x -/
def f_law_su_rounds : FD := ⟨1, 6, (.cons (.par [(.p (.n 2)), (.p (.n 3))] (.consR (.d0 false) (.consR (.lst .nil) .nil))) (.cons (.for (.n 1) (.rng1 (.b1 .len (.v 0)))
(.cons (.ite (.cmp .nin (.v 1) (.v 2))
(.cons (.par [(.p (.n 4)), (.p (.n 5))] (.consR (.lst .nil) (.consR (.v 1) .nil))) (.cons (.while (.cmp .nin (.v 5) (.v 2))
(.cons (.asg (.s 2 (.v 5)) (.k (.bl true))) (.cons (.app 4 (.v 5)) (.cons (.asg (.p (.n 5)) (.ix (.v 0) (.v 5))) .nil)))) (.cons (.app 3 (.b1 .tuple (.v 4))) .nil)))
.nil) .nil)) (.cons (.ret (.b1 .tuple (.v 3))) .nil)))⟩
/-- 23 _law_su_lots: 0=orders 1=n 2=names 3=turn 4=own 5=k 6=low 7=x -/
def f_law_su_lots : FD := ⟨2, 8, (.cons (.asg (.p (.n 2)) (.lrng (.v 1))) (.cons (.for (.n 3) (.rng1 (.v 1))
(.cons (.for (.n 4) (.v 0)
(.cons (.for (.n 5) (.rng1 (.v 1))
(.cons (.asg (.p (.n 6)) (.b2 .min (.ix (.v 2) (.v 5)) (.ix (.v 2) (.ix (.v 4) (.v 5))))) (.cons (.par [(.s 2 (.v 5)), (.s 2 (.ix (.v 4) (.v 5)))] (.consR (.v 6) (.consR (.v 6) .nil))) .nil))) .nil)) .nil)) (.cons (.ret (.b1 .tuple (.lc [7] (.n 7) (.rng1 (.v 1)) (.cmp .eq (.ix (.v 2) (.v 7)) (.v 7)) (.b1 .tuple (.lc [5] (.n 5) (.rng1 (.v 1)) (.cmp .eq (.ix (.v 2) (.v 5)) (.v 7)) (.v 5)))))) .nil)))⟩
/-- 24 _law_su_all_pairs: 0=names 1=found 2=k 3=own -/
def f_law_su_all_pairs : FD := ⟨1, 4, (.cons (.ite (.cmp .eq (.b1 .len (.v 0)) (.k (.int 0)))
(.cons (.ret (.lst (.cons (.lst .nil) .nil))) .nil)
.nil) (.cons (.asg (.p (.n 1)) (.lst .nil)) (.cons (.for (.n 2) (.rng2 (.k (.int 1)) (.b1 .len (.v 0)))
(.cons (.asg (.p (.n 1)) (.bin .add (.v 1) (.lc [3] (.n 3) (.call 24 (.cons (.bin .add (.sl (.v 0) (.k (.int 1)) (.v 2)) (.sl (.v 0) (.bin .add (.v 2) (.k (.int 1))) .nil)) .nil)) .nil (.bin .add (.lst (.cons (.tup (.cons (.ix (.v 0) (.k (.int 0))) (.cons (.ix (.v 0) (.v 2)) .nil))) .nil)) (.v 3))))) .nil)) (.cons (.ret (.v 1)) .nil))))⟩
/-- 25 law: 0=script 1=state 2=n 3=rows 4=row 5=x 6=pairs 7=told 8=tried 9=turn 10=at 11=counts 12=total_sum 13=led 14=points 15=lots 16=own 17=a 18=b 19=k 20=g 21=act 22=given -/
def f_law : FD := ⟨1, 23, (.cons (.asg (.p (.n 1)) (.call 17 (.cons (.v 0) .nil))) (.cons (.asg (.p (.n 2)) (.callIo 18 1 (.cons (.k (.int 6)) .nil))) (.cons (.asg (.p (.n 3)) (.call 4 (.cons (.bin .mul (.k (.int 2)) (.v 2)) .nil))) (.cons (.asg (.p (.n 4)) (.ix (.v 3) (.callIo 18 1 (.cons (.b1 .len (.v 3)) .nil)))) (.cons (.par [(.p (.n 9)), (.p (.n 10))] (.consR (.lst .nil) (.consR (.k (.int 0)) .nil))) (.cons (.for (.n 5) (.v 4)
(.cons (.asg (.p (.n 9)) (.bin .add (.v 9) (.lc [19] (.n 19) (.rng1 (.v 5)) .nil (.bin .add (.v 10) (.bin .mod (.bin .add (.v 19) (.k (.int 1))) (.v 5)))))) (.cons (.asg (.p (.n 10)) (.bin .add (.v 10) (.v 5))) .nil))) (.cons (.ite (.or (.not (.call 20 (.cons (.call 16 (.cons (.v 4) .nil)) (.cons (.b1 .tuple (.v 9)) .nil)))) (.cmp .ne (.call 9 (.cons (.call 16 (.cons (.v 4) .nil)) .nil)) (.v 4)))
(.cons (.ret (.k (.bl false))) .nil)
.nil) (.cons (.par [(.p (.n 11)), (.p (.n 12))] (.consR (.bin .mul (.lst (.cons (.k (.int 0)) .nil)) (.bin .add (.bin .mul (.k (.int 2)) (.v 2)) (.k (.int 1)))) (.consR (.k (.int 0)) .nil))) (.cons (.for (.n 6) (.call 24 (.cons (.trng (.bin .mul (.k (.int 2)) (.v 2))) .nil))
(.cons (.asg (.p (.n 13)) (.bin .mul (.lst (.cons (.k (.int 0)) .nil)) (.bin .mul (.k (.int 2)) (.v 2)))) (.cons (.for (.t2 (.n 17) (.n 18)) (.v 6)
(.cons (.par [(.s 13 (.v 17)), (.s 13 (.v 18))] (.consR (.ix (.v 9) (.v 18)) (.consR (.ix (.v 9) (.v 17)) .nil))) .nil)) (.cons (.asg (.p (.n 14)) (.b1 .len (.call 22 (.cons (.b1 .tuple (.v 13)) .nil)))) (.cons (.par [(.s 11 (.v 14)), (.p (.n 12))] (.consR (.bin .add (.ix (.v 11) (.v 14)) (.k (.int 1))) (.consR (.bin .add (.v 12) (.k (.int 1))) .nil))) (.cons (.asg (.p (.n 15)) (.call 23 (.cons (.tup (.cons (.b1 .tuple (.v 9)) (.cons (.b1 .tuple (.v 13)) .nil))) (.cons (.bin .mul (.k (.int 2)) (.v 2)) .nil)))) (.cons (.ite (.or (.cmp .ne (.bin .mod (.bin .add (.bin .sub (.v 14) (.v 2)) (.b1 .len (.v 4))) (.k (.int 2))) (.k (.int 0))) (.cmp .gt (.bin .add (.bin .sub (.v 14) (.v 2)) (.b1 .len (.v 4))) (.bin .mul (.k (.int 2)) (.b1 .len (.v 15)))))
(.cons (.ret (.k (.bl false))) .nil)
.nil) .nil))))))) (.cons (.asg (.p (.n 7)) (.call 14 (.cons (.v 4) .nil))) (.cons (.ite (.or (.not (.call 20 (.cons (.v 7) (.cons (.b1 .tuple (.v 11)) .nil)))) (.or (.cmp .ne (.b1 .sum (.v 7)) (.v 12)) (.cmp .ne (.b1 .len (.v 7)) (.bin .add (.bin .mul (.k (.int 2)) (.v 2)) (.k (.int 1))))))
(.cons (.ret (.k (.bl false))) .nil)
.nil) (.cons (.ite (.cmp .eq (.b1 .len (.v 4)) (.k (.int 1)))
(.cons (.asg (.p (.n 16)) (.call 13 (.cons (.v 2) .nil))) (.cons (.ite (.cmp .ne (.lc [20] (.n 20) (.rng1 (.b1 .len (.v 16))) .nil (.ix (.v 7) (.bin .sub (.bin .add (.v 2) (.k (.int 1))) (.bin .mul (.k (.int 2)) (.v 20))))) (.b1 .list (.v 16)))
(.cons (.ret (.k (.bl false))) .nil)
.nil) .nil))
.nil) (.cons (.ite (.and (.cmp .eq (.v 4) (.bin .mul (.tup (.cons (.k (.int 1)) .nil)) (.bin .mul (.k (.int 2)) (.v 2)))) (.and (.cmp .gt (.v 2) (.k (.int 0))) (.cmp .ne (.ix (.v 7) (.v 2)) (.v 12))))
(.cons (.ret (.k (.bl false))) .nil)
.nil) (.cons (.asg (.p (.n 8)) (.lst (.cons (.tup (.cons (.fn 14) (.cons (.tup (.cons (.tup (.cons (.k (.int 3)) .nil)) .nil)) .nil))) (.cons (.tup (.cons (.fn 14) (.cons (.tup (.cons (.tup (.cons (.k (.int 1)) (.cons (.k (.int 3)) .nil))) .nil)) .nil))) (.cons (.tup (.cons (.fn 14) (.cons (.tup (.cons (.tup (.cons (.k (.int 14)) .nil)) .nil)) .nil))) (.cons (.tup (.cons (.fn 14) (.cons (.tup (.cons (.tup (.cons (.k (.int 0)) (.cons (.k (.int 2)) .nil))) .nil)) .nil))) (.cons (.tup (.cons (.fn 14) (.cons (.tup (.cons (.lst (.cons (.k (.int 2)) .nil)) .nil)) .nil))) (.cons (.tup (.cons (.fn 14) (.cons (.tup (.cons (.k .non) .nil)) .nil))) (.cons (.tup (.cons (.fn 14) (.cons (.tup (.cons (.tup (.cons (.k (.bl true)) (.cons (.k (.int 1)) .nil))) .nil)) .nil))) .nil))))))))) (.cons (.asg (.p (.n 8)) (.bin .add (.v 8) (.lst (.cons (.tup (.cons (.fn 14) (.cons (.tup (.cons (.tup (.cons (.k (.str (PySem.Str.ofString "2"))) .nil)) .nil)) .nil))) .nil)))) (.cons (.ret (.cmp .eq (.lc [21, 22] (.t2 (.n 21) (.n 22)) (.v 8) .nil (.ix (.call 21 (.cons (.v 21) (.cons (.v 22) .nil))) (.k (.int 0)))) (.bin .mul (.lst (.cons (.k (.str (PySem.Str.ofString "malformed"))) .nil)) (.k (.int 8))))) .nil))))))))))))))))⟩
def P : Nat → Option FD
  | 0 => some f_is_integer
  | 1 => some f_is_count
  | 2 => some f_check_count
  | 3 => some f_is_whole_row
  | 4 => some f_partitions
  | 5 => some f_partitions_below
  | 6 => some f_times
  | 7 => some f_rounds
  | 8 => some f_round_number
  | 9 => some f_kind
  | 10 => some f_of_rounds
  | 11 => some f_pairings
  | 12 => some f_pair_rows
  | 13 => some f_glue_by_steps
  | 14 => some f_glue_many
  | 15 => some f_check_sides
  | 16 => some f_many_order
  | 17 => some f_law_state
  | 18 => some f_law_take
  | 19 => some f_law_is_whole
  | 20 => some f_law_same
  | 21 => some f_law_result
  | 22 => some f_law_su_rounds
  | 23 => some f_law_su_lots
  | 24 => some f_law_su_all_pairs
  | 25 => some f_law
  | _ => none
def mT : Nat → Nat → Option Nat
  | _, _ => none
def iT : Nat → Option Nat
  | _ => none
def T : Tb := ⟨mT, iT, fun n => decide (n < 26), fun c => [1, 2].contains c⟩
end K26
namespace K26
open PySem PySem.Spec L2
def top (i : Nat) : Stmt := PySem.Challenge.pw_surfaceroads_k26_whole_many_polygons_glu.main.body.getD i (.Pass ⟨0, 0, 0, 0⟩)
def nms : List Str := (["is_integer", "is_count", "check_count", "is_whole_row", "partitions", "partitions_below", "times", "rounds", "round_number", "kind", "of_rounds", "pairings", "pair_rows", "glue_by_steps", "glue_many", "check_sides", "many_order", "_law_state", "_law_take", "_law_is_whole", "_law_same", "_law_result", "_law_su_rounds", "_law_su_lots", "_law_su_all_pairs", "law"] : List Str)
def hd : Iv.Hd := ⟨nms, [("MOST_SIZE", 60), ("MOST_TOLD", 30)], [(1, "Malformed"), (2, "Refused")], [(1, "Malformed")], T⟩
def dd (x : Str) (i : Nat) : He.DefD := ⟨(x, none), x, x, defArgs (top i), defBody (top i), defScope (top i), [], []⟩
def fn : List He.DefD := [dd "is_integer" 5, dd "is_count" 6, dd "check_count" 7, dd "is_whole_row" 8, dd "partitions" 9, dd "partitions_below" 10, dd "times" 13, dd "rounds" 14, dd "round_number" 15, dd "kind" 16, dd "of_rounds" 17, dd "pairings" 18, dd "pair_rows" 19, dd "glue_by_steps" 22, dd "glue_many" 23, dd "check_sides" 24, dd "many_order" 25, dd "_law_state" 27, dd "_law_take" 28, dd "_law_is_whole" 29, dd "_law_same" 30, dd "_law_result" 31, dd "_law_su_rounds" 32, dd "_law_su_lots" 33, dd "_law_su_all_pairs" 34, dd "law" 35]
def fa : List He.Fa := hd.fa
abbrev R : PySem.W.OpenRow := PySem.W.OpenLaw.row PySem.Challenge.rw_surfaceroads_k26_whole_many_polygons_glu
abbrev hk : PySem.W.Hook := He.hookD 4 fa fn
def ob (s : PySem.W.SharedT) : He.AlD := He.obsDG 4 fa fn (HandSHeadRun.getT s)
theorem ob_eq (s : PySem.W.SharedT) : ob s = hk.obs s.abs := He.obsDG_eq (HandSHeadRun.getT_eq s)
def loose : List PySem.Str := (["Fault", "Malformed", "Refused", "is_integer", "is_count", "check_count", "is_whole_row", "partitions", "partitions_below", "MOST_SIZE", "times", "rounds", "round_number", "kind", "of_rounds", "pairings", "pair_rows", "MOST_TOLD", "glue_by_steps", "glue_many", "check_sides", "many_order", "_law_state", "_law_take", "_law_is_whole", "_law_same", "_law_result", "_law_su_rounds", "_law_su_lots", "_law_su_all_pairs"] : List PySem.Str)
theorem run_top (w : World) : HandSHeadRun.RunEq R (PySem.W.view R.prog [35]) hk ob 6000 loose w := by
  intro os
  kernel_rfl
theorem d_0 {K : PySem.W.Frag} (c : He.SaysD fa fn K) : Iv.Dx hd.lx (hd.bd K) P K 0 := Iv.dx_of (d := f_is_integer) (st := top 5) (x := "is_integer") (N := ["value"]) (ps := ["value"]) (c.def_ 0 (d := dd "is_integer" 5) rfl) rfl (by decide +kernel) (by decide +kernel) rfl rfl rfl fun _ _ _ _ _ _ us hl => match us, hl with | [_], _ => rfl
theorem d_1 {K : PySem.W.Frag} (c : He.SaysD fa fn K) : Iv.Dx hd.lx (hd.bd K) P K 1 := Iv.dx_of (d := f_is_count) (st := top 6) (x := "is_count") (N := ["value", "low", "high"]) (ps := ["value", "low", "high"]) (c.def_ 1 (d := dd "is_count" 6) rfl) rfl (by decide +kernel) (by decide +kernel) rfl rfl rfl fun _ _ _ _ _ _ us hl => match us, hl with | [_, _, _], _ => rfl
theorem d_2 {K : PySem.W.Frag} (c : He.SaysD fa fn K) : Iv.Dx hd.lx (hd.bd K) P K 2 := Iv.dx_of (d := f_check_count) (st := top 7) (x := "check_count") (N := ["value", "low", "high"]) (ps := ["value", "low", "high"]) (c.def_ 2 (d := dd "check_count" 7) rfl) rfl (by decide +kernel) (by decide +kernel) rfl rfl rfl fun _ _ _ _ _ _ us hl => match us, hl with | [_, _, _], _ => rfl
theorem d_3 {K : PySem.W.Frag} (c : He.SaysD fa fn K) : Iv.Dx hd.lx (hd.bd K) P K 3 := Iv.dx_of (d := f_is_whole_row) (st := top 8) (x := "is_whole_row") (N := ["value", "x"]) (ps := ["value"]) (c.def_ 3 (d := dd "is_whole_row" 8) rfl) rfl (by decide +kernel) (by decide +kernel) rfl rfl rfl fun _ _ _ _ _ _ us hl => match us, hl with | [_], _ => rfl
theorem d_4 {K : PySem.W.Frag} (c : He.SaysD fa fn K) : Iv.Dx hd.lx (hd.bd K) P K 4 := Iv.dx_of (d := f_partitions) (st := top 9) (x := "partitions") (N := ["n"]) (ps := ["n"]) (c.def_ 4 (d := dd "partitions" 9) rfl) rfl (by decide +kernel) (by decide +kernel) rfl rfl rfl fun _ _ _ _ _ _ us hl => match us, hl with | [_], _ => rfl
theorem d_5 {K : PySem.W.Frag} (c : He.SaysD fa fn K) : Iv.Dx hd.lx (hd.bd K) P K 5 := Iv.dx_of (d := f_partitions_below) (st := top 10) (x := "partitions_below") (N := ["n", "most", "found", "x", "rest"]) (ps := ["n", "most"]) (c.def_ 5 (d := dd "partitions_below" 10) rfl) rfl (by decide +kernel) (by decide +kernel) rfl rfl rfl fun _ _ _ _ _ _ us hl => match us, hl with | [_, _], _ => rfl
theorem d_6 {K : PySem.W.Frag} (c : He.SaysD fa fn K) : Iv.Dx hd.lx (hd.bd K) P K 6 := Iv.dx_of (d := f_times) (st := top 13) (x := "times") (N := ["one", "two", "x"]) (ps := ["one", "two"]) (c.def_ 6 (d := dd "times" 13) rfl) rfl (by decide +kernel) (by decide +kernel) rfl rfl rfl fun _ _ _ _ _ _ us hl => match us, hl with | [_, _], _ => rfl
theorem d_7 {K : PySem.W.Frag} (c : He.SaysD fa fn K) : Iv.Dx hd.lx (hd.bd K) P K 7 := Iv.dx_of (d := f_rounds) (st := top 14) (x := "rounds") (N := ["one", "k", "seen", "found", "row", "x"]) (ps := ["one"]) (c.def_ 7 (d := dd "rounds" 14) rfl) rfl (by decide +kernel) (by decide +kernel) rfl rfl rfl fun _ _ _ _ _ _ us hl => match us, hl with | [_], _ => rfl
theorem d_8 {K : PySem.W.Frag} (c : He.SaysD fa fn K) : Iv.Dx hd.lx (hd.bd K) P K 8 := Iv.dx_of (d := f_round_number) (st := top 15) (x := "round_number") (N := ["one"]) (ps := ["one"]) (c.def_ 8 (d := dd "round_number" 15) rfl) rfl (by decide +kernel) (by decide +kernel) rfl rfl rfl fun _ _ _ _ _ _ us hl => match us, hl with | [_], _ => rfl
theorem d_9 {K : PySem.W.Frag} (c : He.SaysD fa fn K) : Iv.Dx hd.lx (hd.bd K) P K 9 := Iv.dx_of (d := f_kind) (st := top 16) (x := "kind") (N := ["one", "row"]) (ps := ["one"]) (c.def_ 9 (d := dd "kind" 16) rfl) rfl (by decide +kernel) (by decide +kernel) rfl rfl rfl fun _ _ _ _ _ _ us hl => match us, hl with | [_], _ => rfl
theorem d_10 {K : PySem.W.Frag} (c : He.SaysD fa fn K) : Iv.Dx hd.lx (hd.bd K) P K 10 := Iv.dx_of (d := f_of_rounds) (st := top 17) (x := "of_rounds") (N := ["rows", "n", "met", "found", "row", "x", "k"]) (ps := ["rows", "n"]) (c.def_ 10 (d := dd "of_rounds" 17) rfl) rfl (by decide +kernel) (by decide +kernel) rfl rfl rfl fun _ _ _ _ _ _ us hl => match us, hl with | [_, _], _ => rfl
theorem d_11 {K : PySem.W.Frag} (c : He.SaysD fa fn K) : Iv.Dx hd.lx (hd.bd K) P K 11 := Iv.dx_of (d := f_pairings) (st := top 18) (x := "pairings") (N := ["n", "rows"]) (ps := ["n"]) (c.def_ 11 (d := dd "pairings" 18) rfl) rfl (by decide +kernel) (by decide +kernel) rfl rfl rfl fun _ _ _ _ _ _ us hl => match us, hl with | [_], _ => rfl
theorem d_12 {K : PySem.W.Frag} (c : He.SaysD fa fn K) : Iv.Dx hd.lx (hd.bd K) P K 12 := Iv.dx_of (d := f_pair_rows) (st := top 19) (x := "pair_rows") (N := ["names", "found", "k", "rest", "own"]) (ps := ["names"]) (c.def_ 12 (d := dd "pair_rows" 19) rfl) rfl (by decide +kernel) (by decide +kernel) rfl rfl rfl fun _ _ _ _ _ _ us hl => match us, hl with | [_], _ => rfl
theorem d_13 {K : PySem.W.Frag} (c : He.SaysD fa fn K) : Iv.Dx hd.lx (hd.bd K) P K 13 := Iv.dx_of (d := f_glue_by_steps) (st := top 22) (x := "glue_by_steps") (N := ["n", "rows", "m", "row", "g", "one", "two"]) (ps := ["n"]) (c.def_ 13 (d := dd "glue_by_steps" 22) rfl) rfl (by decide +kernel) (by decide +kernel) rfl rfl rfl fun _ _ _ _ _ _ us hl => match us, hl with | [_], _ => rfl
theorem d_14 {K : PySem.W.Frag} (c : He.SaysD fa fn K) : Iv.Dx hd.lx (hd.bd K) P K 14 := Iv.dx_of (d := f_glue_many) (st := top 23) (x := "glue_many") (N := ["row", "turn", "n", "found", "own"]) (ps := ["row"]) (c.def_ 14 (d := dd "glue_many" 23) rfl) rfl (by decide +kernel) (by decide +kernel) rfl rfl rfl fun _ _ _ _ _ _ us hl => match us, hl with | [_], _ => rfl
theorem d_15 {K : PySem.W.Frag} (c : He.SaysD fa fn K) : Iv.Dx hd.lx (hd.bd K) P K 15 := Iv.dx_of (d := f_check_sides) (st := top 24) (x := "check_sides") (N := ["row", "x"]) (ps := ["row"]) (c.def_ 15 (d := dd "check_sides" 24) rfl) rfl (by decide +kernel) (by decide +kernel) rfl rfl rfl fun _ _ _ _ _ _ us hl => match us, hl with | [_], _ => rfl
theorem d_16 {K : PySem.W.Frag} (c : He.SaysD fa fn K) : Iv.Dx hd.lx (hd.bd K) P K 16 := Iv.dx_of (d := f_many_order) (st := top 25) (x := "many_order") (N := ["row", "x", "found", "at", "k"]) (ps := ["row"]) (c.def_ 16 (d := dd "many_order" 25) rfl) rfl (by decide +kernel) (by decide +kernel) rfl rfl rfl fun _ _ _ _ _ _ us hl => match us, hl with | [_], _ => rfl
theorem d_17 {K : PySem.W.Frag} (c : He.SaysD fa fn K) : Iv.Dx hd.lx (hd.bd K) P K 17 := Iv.dx_of (d := f_law_state) (st := top 27) (x := "_law_state") (N := ["script", "seed", "total", "cell"]) (ps := ["script"]) (c.def_ 17 (d := dd "_law_state" 27) rfl) rfl (by decide +kernel) (by decide +kernel) rfl rfl rfl fun _ _ _ _ _ _ us hl => match us, hl with | [_], _ => rfl
theorem d_18 {K : PySem.W.Frag} (c : He.SaysD fa fn K) : Iv.Dx hd.lx (hd.bd K) P K 18 := Iv.dx_of (d := f_law_take) (st := top 28) (x := "_law_take") (N := ["state", "m", "value"]) (ps := ["state", "m"]) (c.def_ 18 (d := dd "_law_take" 28) rfl) rfl (by decide +kernel) (by decide +kernel) rfl rfl rfl fun _ _ _ _ _ _ us hl => match us, hl with | [_, _], _ => rfl
theorem d_19 {K : PySem.W.Frag} (c : He.SaysD fa fn K) : Iv.Dx hd.lx (hd.bd K) P K 19 := Iv.dx_of (d := f_law_is_whole) (st := top 29) (x := "_law_is_whole") (N := ["value"]) (ps := ["value"]) (c.def_ 19 (d := dd "_law_is_whole" 29) rfl) rfl (by decide +kernel) (by decide +kernel) rfl rfl rfl fun _ _ _ _ _ _ us hl => match us, hl with | [_], _ => rfl
theorem d_20 {K : PySem.W.Frag} (c : He.SaysD fa fn K) : Iv.Dx hd.lx (hd.bd K) P K 20 := Iv.dx_of (d := f_law_same) (st := top 30) (x := "_law_same") (N := ["one", "two", "k"]) (ps := ["one", "two"]) (c.def_ 20 (d := dd "_law_same" 30) rfl) rfl (by decide +kernel) (by decide +kernel) rfl rfl rfl fun _ _ _ _ _ _ us hl => match us, hl with | [_, _], _ => rfl
theorem d_21 {K : PySem.W.Frag} (c : He.SaysD fa fn K) : Iv.Dx hd.lx (hd.bd K) P K 21 := Iv.dx_of (d := f_law_result) (st := top 31) (x := "_law_result") (N := ["act", "given", "refused"]) (ps := ["act", "given"]) (c.def_ 21 (d := dd "_law_result" 31) rfl) rfl (by decide +kernel) (by decide +kernel) rfl rfl rfl fun _ _ _ _ _ _ us hl => match us, hl with | [_, _], _ => rfl
theorem d_22 {K : PySem.W.Frag} (c : He.SaysD fa fn K) : Iv.Dx hd.lx (hd.bd K) P K 22 := Iv.dx_of (d := f_law_su_rounds) (st := top 32) (x := "_law_su_rounds") (N := ["one", "k", "seen", "found", "row", "x"]) (ps := ["one"]) (c.def_ 22 (d := dd "_law_su_rounds" 32) rfl) rfl (by decide +kernel) (by decide +kernel) rfl rfl rfl fun _ _ _ _ _ _ us hl => match us, hl with | [_], _ => rfl
theorem d_23 {K : PySem.W.Frag} (c : He.SaysD fa fn K) : Iv.Dx hd.lx (hd.bd K) P K 23 := Iv.dx_of (d := f_law_su_lots) (st := top 33) (x := "_law_su_lots") (N := ["orders", "n", "names", "turn", "own", "k", "low", "x"]) (ps := ["orders", "n"]) (c.def_ 23 (d := dd "_law_su_lots" 33) rfl) rfl (by decide +kernel) (by decide +kernel) rfl rfl rfl fun _ _ _ _ _ _ us hl => match us, hl with | [_, _], _ => rfl
theorem d_24 {K : PySem.W.Frag} (c : He.SaysD fa fn K) : Iv.Dx hd.lx (hd.bd K) P K 24 := Iv.dx_of (d := f_law_su_all_pairs) (st := top 34) (x := "_law_su_all_pairs") (N := ["names", "found", "k", "own"]) (ps := ["names"]) (c.def_ 24 (d := dd "_law_su_all_pairs" 34) rfl) rfl (by decide +kernel) (by decide +kernel) rfl rfl rfl fun _ _ _ _ _ _ us hl => match us, hl with | [_], _ => rfl
theorem d_25 {K : PySem.W.Frag} (c : He.SaysD fa fn K) : Iv.Dx hd.lx (hd.bd K) P K 25 := Iv.dx_of (d := f_law) (st := top 35) (x := "law") (N := ["script", "state", "n", "rows", "row", "x", "pairs", "told", "tried", "turn", "at", "counts", "total_sum", "led", "points", "lots", "own", "a", "b", "k", "g", "act", "given"]) (ps := ["script"]) (c.def_ 25 (d := dd "law" 35) rfl) rfl (by decide +kernel) (by decide +kernel) rfl rfl rfl fun _ _ _ _ _ _ us hl => match us, hl with | [_], _ => rfl
theorem d_all {K : PySem.W.Frag} (c : He.SaysD fa fn K) : ∀ f, hd.lx.T.has f = true → Iv.Dx hd.lx (hd.bd K) P K f := fun f h => match f, h with
  | 0, _ => d_0 c
  | 1, _ => d_1 c
  | 2, _ => d_2 c
  | 3, _ => d_3 c
  | 4, _ => d_4 c
  | 5, _ => d_5 c
  | 6, _ => d_6 c
  | 7, _ => d_7 c
  | 8, _ => d_8 c
  | 9, _ => d_9 c
  | 10, _ => d_10 c
  | 11, _ => d_11 c
  | 12, _ => d_12 c
  | 13, _ => d_13 c
  | 14, _ => d_14 c
  | 15, _ => d_15 c
  | 16, _ => d_16 c
  | 17, _ => d_17 c
  | 18, _ => d_18 c
  | 19, _ => d_19 c
  | 20, _ => d_20 c
  | 21, _ => d_21 c
  | 22, _ => d_22 c
  | 23, _ => d_23 c
  | 24, _ => d_24 c
  | 25, _ => d_25 c
  | n + 26, h => absurd (of_decide_eq_true (show decide (n + 26 < 26) = true from h)) (by omega)
theorem xs_ok (a : Nat) (h : T.xcl a = true) : (hd.xs.lookup a).isSome = true := by
  have h : ([1, 2] : List Nat).contains a = true := h
  rw [List.contains_iff_mem] at h
  simp at h
  rcases h with rfl | rfl <;> rfl
theorem law_sc : C8.scC ["script", "state", "n", "rows", "row", "x", "pairs", "told", "tried", "turn", "at", "counts", "total_sum", "led", "points", "lots", "own", "a", "b", "k", "g", "act", "given"] ["script"] (defScope (top 35)) = true := by decide +kernel
theorem law_ck : Iv.chkS hd.lx ["script", "state", "n", "rows", "row", "x", "pairs", "told", "tried", "turn", "at", "counts", "total_sum", "led", "points", "lots", "own", "a", "b", "k", "g", "act", "given"] f_law.body ⟨defScope (top 35), defScope (top 35)⟩ (.ls (defBody (top 35))) = true := by decide +kernel
end K26
end

section
set_option Elab.async false
set_option linter.all false
set_option maxRecDepth 100000
set_option maxHeartbeats 0
open PySem PySem.W PySem.Calls PyProof.Rows in
theorem K26.holds_of (hrun : ∀ ns : List Int, ns.length ≤ 63 → ∃ s0, Iv.run K26.T K26.P 40 25 [.v (.scr (ns.map .int))] = .ok false (.bl true) s0) : PySem.Challenge.rw_surfaceroads_k26_whole_many_polygons_glu.Holds := by
  w_on; o_law
  refine HandSHeadRun.head_any (r := OpenLaw.row PySem.Challenge.rw_surfaceroads_k26_whole_many_polygons_glu) (q := view (OpenLaw.row PySem.Challenge.rw_surfaceroads_k26_whole_many_polygons_glu).prog [35]) (H := K26.hk) (ob := K26.ob) (M := 6000) (loose := K26.loose) (d := HandSHeadRun.topDef (OpenLaw.row PySem.Challenge.rw_surfaceroads_k26_whole_many_polygons_glu).prog 35) (kwd := []) K26.ob_eq
    (by kernel_rfl) (fun s => by kernel_rfl) K26.run_top (by kernel_rfl) (by kernel_rfl) (by kernel_rfl) (by rfl) (by first | assumption | decide +kernel) (by decide +kernel) ⟨rfl, rfl, rfl, rfl, rfl, by decide +kernel⟩ ?hw ?hc
  case hw => w_witness2
  case hc =>
    refine Iv.walk_w (l := PySem.Challenge.rw_surfaceroads_k26_whole_many_polygons_glu) (n := 63) (k := 40) (x := "script") (CX := fun w => L2.CX (PySem.Challenge.rw_surfaceroads_k26_whole_many_polygons_glu).prog w) rfl (by decide) (by kernel_rfl) ⟨rfl, by decide, by decide⟩ ?F (fun w => Iv.hCX_of w)
    intro w mg fa h Y G hmg0
    obtain ⟨K, KX, c⟩ := Y
    have hmg : mg ("law" : PySem.Str) = some (.ref fa) := by
      have e : (HandSHeadRun.topDef (OpenLaw.row PySem.Challenge.rw_surfaceroads_k26_whole_many_polygons_glu).prog 35).name = ("law" : PySem.Str) := by kernel_rfl
      rw [← e]
      exact hmg0
    have hfs : ∀ f ∈ K26.hd.fa, He.Fa.ok K f = true := fun f hf => List.all_eq_true.mp (He.ba (show ((K26.fa.all fun f => f.ok K) && K26.fn.all fun d => d.ok K) = true from congrArg (fun z : He.AlD => z.1) c)).1 f hf
    have hlaw : mg ("law" : PySem.Str) = some (.ref (He.ga K "law")) := He.glo_ok KX G (hfs _ (List.mem_append_left _ (List.mem_map.mpr ⟨"law", by decide +kernel, rfl⟩)))
    have e := hmg.symm.trans hlaw
    cases e
    obtain ⟨fd, FD⟩ := c.def_ 25 (d := K26.dd "law" 35) rfl
    refine ⟨K, fd, _, KX, fun s u => L2.FunD.bindsA (ps := ["script"]) FD (fun _ _ _ _ _ _ us hl => match us, hl with | [_], _ => rfl) s [u] rfl, fun H a ns hl hO hS => Iv.law_sp (h := K26.hd) (P := K26.P) (n := 40) (f := 25) hrun H a ns hl hO hS, fun base hKb hG => ?_⟩
    have W0 := Iv.wd0 (h := K26.hd) (K := K) (base := base) (Pr := (PySem.Challenge.rw_surfaceroads_k26_whole_many_polygons_glu).prog) (w := w) KX G (by decide +kernel) K26.xs_ok hfs
    exact Iv.fn_law (st := K26.top 35) (x := "law") (d := K26.f_law) (h := K26.hd) (P := K26.P) (Iv.wd_all W0 (K26.d_all c) 39) (K26.d_all c 25 rfl) FD K26.law_sc K26.law_ck rfl rfl rfl
end

section
set_option linter.all false
set_option autoImplicit false
/-! The same interpreter, made for evaluation: by continuations, all values written out as they are made. -/
namespace Iv
open PySem (Str)
noncomputable section
variable {ω : Type}
/-! ### values written out -/
def fNat (n : Nat) (k : Nat → ω) : ω := @Nat.rec (fun _ => ω) (k 0) (fun m _ => k (Nat.succ m)) n
theorem fNat_eq (n : Nat) (k : Nat → ω) : fNat n k = k n := by cases n <;> rfl
def fInt (i : Int) (k : Int → ω) : ω := @Int.rec (fun _ => ω) (fun n => fNat n fun n => k (.ofNat n)) (fun n => fNat n fun n => k (.negSucc n)) i
theorem fInt_eq (i : Int) (k : Int → ω) : fInt i k = k i := by
  cases i with
  | ofNat n => exact fNat_eq n fun n => k (.ofNat n)
  | negSucc n => exact fNat_eq n fun n => k (.negSucc n)
def fEl (w : W) (k : W → ω) : ω := match w with
  | .int i => fInt i fun i => k (.int i)
  | w => k w
theorem fEl_eq (w : W) (k : W → ω) : fEl w k = k w := by
  unfold fEl
  split
  · exact fInt_eq _ _
  · rfl
def fL (xs : List W) : (List W → ω) → ω := @List.rec W (fun _ => (List W → ω) → ω) (fun k => k []) (fun x _ ih k => fEl x fun x => ih fun ys => k (x :: ys)) xs
theorem fL_eq : ∀ (xs : List W) (k : List W → ω), fL xs k = k xs
  | [], k => rfl
  | x :: xs, k => by
    show fEl x (fun x => fL xs fun ys => k (x :: ys)) = _
    rw [fEl_eq, fL_eq xs]
def fSp {α : Type} (xs : List α) : (List α → ω) → ω := @List.rec α (fun _ => (List α → ω) → ω) (fun k => k []) (fun x _ ih k => ih fun ys => k (x :: ys)) xs
theorem fSp_eq {α : Type} : ∀ (xs : List α) (k : List α → ω), fSp xs k = k xs
  | [], k => rfl
  | x :: xs, k => by
    show fSp xs (fun ys => k (x :: ys)) = _
    rw [fSp_eq xs]
def fW (w : W) (k : W → ω) : ω := match w with
  | .int i => fInt i fun i => k (.int i)
  | .lst xs => fL xs fun xs => k (.lst xs)
  | .tup xs => fL xs fun xs => k (.tup xs)
  | .dK ks vs => fSp ks fun ks => fL vs fun vs => k (.dK ks vs)
  | .dT ks vs => fSp ks fun ks => fL vs fun vs => k (.dT ks vs)
  | .bl b => (match b with | true => k (.bl true) | false => k (.bl false))
  | w => k w
theorem fW_eq (w : W) (k : W → ω) : fW w k = k w := by
  cases w <;> simp only [fW, fInt_eq, fL_eq, fSp_eq]
  rename_i b
  cases b <;> rfl
def fR (r : R1) (k : R1 → ω) : ω := match r with
  | .w w => fW w fun w => k (.w w)
  | .f w => fW w fun w => k (.f w)
  | r => k r
theorem fR_eq (r : R1) (k : R1 → ω) : fR r k = k r := by
  cases r <;> simp only [fR, fW_eq]
/-! ### lists -/
def setC {α : Type} (s : α) (xs : List α) : Nat → (List α → ω) → ω := @List.rec α (fun _ => Nat → (List α → ω) → ω) (fun _ k => k []) (fun x xs ih i => @Nat.rec (fun _ => (List α → ω) → ω) (fun k => k (s :: xs)) (fun j _ k => ih j fun ys => k (x :: ys)) i) xs
theorem setC_eq {α : Type} (s : α) : ∀ (xs : List α) (i : Nat) (k : List α → ω), setC s xs i k = k (xs.set i s)
  | [], _, _ => rfl
  | x :: xs, 0, k => rfl
  | x :: xs, i + 1, k => by
    show setC s xs i (fun ys => k (x :: ys)) = _
    rw [setC_eq s xs]; rfl
def appC {α : Type} (ys : List α) (xs : List α) : (List α → ω) → ω := @List.rec α (fun _ => (List α → ω) → ω) (fun k => k ys) (fun x _ ih k => ih fun zs => k (x :: zs)) xs
theorem appC_eq {α : Type} (ys : List α) : ∀ (xs : List α) (k : List α → ω), appC ys xs k = k (xs ++ ys)
  | [], _ => rfl
  | x :: xs, k => by
    show appC ys xs (fun zs => k (x :: zs)) = _
    rw [appC_eq ys xs]; rfl
def sl (e : En) : Nat → Sl := @List.rec Sl (fun _ => Nat → Sl) (fun _ => .n) (fun x _ ih i => @Nat.rec (fun _ => Sl) x (fun j _ => ih j) i) e
theorem sl_eq : ∀ (e : En) (i : Nat), sl e i = (e[i]?).getD .n
  | [], _ => rfl
  | x :: xs, 0 => rfl
  | x :: xs, i + 1 => by
    show sl xs i = _
    rw [sl_eq xs]; rfl
theorem sl_look (e : En) (i : Nat) {α : Type} (fv fo fp : W → α) (fz : α) : (match e[i]? with
    | some (.v w) => fv w
    | some (.o w) => fo w
    | some (.p w) => fp w
    | _ => fz) = (match sl e i with
    | .v w => fv w
    | .o w => fo w
    | .p w => fp w
    | .n => fz) := by
  rw [sl_eq]
  cases h : e[i]? with
  | none => rfl
  | some s => cases s <;> rfl
/-! ### results by continuations -/
abbrev Ec (ω : Type) := En → (R1 → En → ω) → (Exn → En → ω) → ω → ω
def kRE {α : Type} (r : RE α) (k : α → En → ω) (x : Exn → En → ω) (z : ω) : ω := match r with
  | .ok r e => k r e
  | .exn q e => x q e
  | .err => z
def okC (f : En → RE R1) : Ec ω := fun e k x z => kRE (f e) k x z
def pkC (r : R1) (e : En) (z : ω) (k : W → ω) : ω := match r with
  | .w w => k w
  | .f w => k w
  | .s i => (match sl e i with
    | .v w => k w
    | .o w => k w
    | .p w => k w
    | .n => z)
  | .l _ => z
def optK {α : Type} (o : Option α) (z : ω) (k : α → ω) : ω := match o with
  | some a => k a
  | none => z
theorem pkC_eq (r : R1) (e : En) (z : ω) (k : W → ω) : pkC r e z k = optK (peek r e) z k := by
  cases r with
  | w w => rfl
  | f w => rfl
  | l rs => rfl
  | s i =>
    show (match sl e i with | .v w => k w | .o w => k w | .p w => k w | .n => z) = _
    rw [← sl_look e i k k k z]
    unfold peek
    dsimp only
    generalize e[i]? = o
    cases o with
    | none => rfl
    | some s => cases s <;> rfl
def useC (r : R1) (e : En) (z : ω) (k : W → En → ω) : ω := match r with
  | .w w => k w e
  | .f w => (match canFz w with | true => k w e | false => z)
  | .s i => (match sl e i with
    | .v w => k w e
    | .o w => (match canFz w with | true => setC (.v w) e i fun e' => k w e' | false => z)
    | _ => z)
  | .l _ => z
theorem useC_eq (r : R1) (e : En) (z : ω) (k : W → En → ω) : useC r e z k = optK (use r e) z fun q => k q.1 q.2 := by
  cases r with
  | w w => rfl
  | l rs => rfl
  | f w =>
    unfold useC use
    dsimp only
    cases canFz w <;> rfl
  | s i =>
    unfold useC use
    dsimp only
    rw [sl_eq]
    generalize e[i]? = o
    cases o with
    | none => rfl
    | some s =>
      cases s with
      | o w =>
        show (match canFz w with | true => _ | false => z) = optK (if canFz w = true then _ else none) z _
        cases canFz w
        · rfl
        · exact setC_eq _ _ _ _
      | _ => rfl
def un1C (f : W → Option R1) (a : Ec ω) : Ec ω := fun e k x z => a e (fun r e1 => pkC r e1 z fun w => optK (f w) z fun q => fR q fun q => k q e1) x z
theorem opt_eq {o : Option R1} {e1 : En} {z : ω} {k : R1 → En → ω} {x : Exn → En → ω} : optK o z (fun q => fR q fun q => k q e1) = kRE (ofO o e1) k x z := by
  cases o with
  | none => rfl
  | some q => show fR q (fun q => k q e1) = k q e1; exact fR_eq q fun q => k q e1
theorem un1C_eq (f : W → Option R1) (fa : En → RE R1) : un1C f (okC (ω := ω) fa) = okC fun e => un1 f (fa e) := by
  funext e k x z
  show kRE (fa e) _ x z = kRE (un1 f (fa e)) k x z
  generalize fa e = ra
  cases ra with
  | err => rfl
  | exn q e1 => rfl
  | ok r e1 =>
    show pkC r e1 z _ = _
    rw [pkC_eq]
    unfold un1
    dsimp only
    cases peek r e1 with
    | none => rfl
    | some w => exact opt_eq
def un2C (f : W → W → Option R1) (a b : Ec ω) : Ec ω := fun e k x z => a e (fun r e1 => b e1 (fun r2 e2 => pkC r e2 z fun u => pkC r2 e2 z fun v => optK (f u v) z fun q => fR q fun q => k q e2) x z) x z
theorem un2C_eq (f : W → W → Option R1) (fa fb : En → RE R1) : un2C f (okC (ω := ω) fa) (okC fb) = okC fun e => un2 f (fa e) fb := by
  funext e k x z
  show kRE (fa e) _ x z = kRE (un2 f (fa e) fb) k x z
  generalize fa e = ra
  cases ra with
  | err => rfl
  | exn q e1 => rfl
  | ok r e1 =>
    show kRE (fb e1) _ x z = _
    unfold un2
    dsimp only
    generalize fb e1 = rb
    cases rb with
    | err => rfl
    | exn q e2 => rfl
    | ok r2 e2 =>
      show pkC r e2 z _ = _
      rw [pkC_eq]
      dsimp only
      cases peek r e2 with
      | none => rfl
      | some u =>
        show pkC r2 e2 z _ = _
        rw [pkC_eq]
        cases peek r2 e2 with
        | none => rfl
        | some v => exact opt_eq

def un3C (f : W → W → W → Option R1) (a b c : Ec ω) : Ec ω := fun e k x z => a e (fun r e1 => b e1 (fun r2 e2 => c e2 (fun r3 e3 => pkC r e3 z fun u => pkC r2 e3 z fun v => pkC r3 e3 z fun t => optK (f u v t) z fun q => fR q fun q => k q e3) x z) x z) x z
theorem un3C_eq (f : W → W → W → Option R1) (fa fb fc : En → RE R1) : un3C f (okC (ω := ω) fa) (okC fb) (okC fc) = okC fun e => un3 f (fa e) fb fc := by
  funext e k x z
  show kRE (fa e) _ x z = kRE (un3 f (fa e) fb fc) k x z
  generalize fa e = ra
  cases ra with
  | err => rfl
  | exn q e1 => rfl
  | ok r e1 =>
    show kRE (fb e1) _ x z = _
    unfold un3
    dsimp only
    generalize fb e1 = rb
    cases rb with
    | err => rfl
    | exn q e2 => rfl
    | ok r2 e2 =>
      show kRE (fc e2) _ x z = _
      dsimp only
      generalize fc e2 = rc
      cases rc with
      | err => rfl
      | exn q e3 => rfl
      | ok r3 e3 =>
        show pkC r e3 z _ = _
        rw [pkC_eq]
        dsimp only
        cases peek r e3 with
        | none => rfl
        | some u =>
          show pkC r2 e3 z _ = _
          rw [pkC_eq]
          cases peek r2 e3 with
          | none => rfl
          | some v =>
            show pkC r3 e3 z _ = _
            rw [pkC_eq]
            cases peek r3 e3 with
            | none => rfl
            | some t => exact opt_eq
/-! ### tests -/
abbrev Bc (ω : Type) := En → (Bool → En → ω) → (Exn → En → ω) → ω → ω
def okB (f : En → RE Bool) : Bc ω := fun e k x z => kRE (f e) k x z
def bK (b : Bool) (k : Bool → ω) : ω := match b with | true => k true | false => k false
theorem bK_eq (b : Bool) (k : Bool → ω) : bK b k = k b := by cases b <;> rfl
def tstC (a : Ec ω) : Bc ω := fun e k x z => a e (fun r e1 => pkC r e1 z fun w => optK (truth w) z fun b => bK b fun b => k b e1) x z
theorem tstC_eq (fa : En → RE R1) : tstC (okC (ω := ω) fa) = okB fun e => tst (fa e) := by
  funext e k x z
  show kRE (fa e) _ x z = kRE (tst (fa e)) k x z
  generalize fa e = ra
  cases ra with
  | err => rfl
  | exn q e1 => rfl
  | ok r e1 =>
    show pkC r e1 z _ = _
    rw [pkC_eq]
    unfold tst
    dsimp only
    cases peek r e1 with
    | none => rfl
    | some w =>
      show optK (truth w) z _ = kRE (ofO (truth w) e1) k x z
      cases truth w with
      | none => rfl
      | some b => exact bK_eq b fun b => k b e1
def notC (a : Bc ω) : Ec ω := fun e k x z => a e (fun b e1 => match b with | true => k (.w (.bl false)) e1 | false => k (.w (.bl true)) e1) x z
theorem notC_eq (f : En → RE Bool) : notC (okB (ω := ω) f) = okC fun e => notE (f e) := by
  funext e k x z
  show kRE (f e) _ x z = kRE (notE (f e)) k x z
  generalize f e = ra
  cases ra with
  | err => rfl
  | exn q e1 => rfl
  | ok b e1 => cases b <;> rfl
def andC (a b : Ec ω) : Ec ω := fun e k x z => a e (fun r e1 => pkC r e1 z fun w => optK (truth w) z fun t => match t with | true => b e1 k x z | false => k r e1) x z
theorem andC_eq (fa fb : En → RE R1) : andC (okC (ω := ω) fa) (okC fb) = okC fun e => andE (fa e) fb := by
  funext e k x z
  show kRE (fa e) _ x z = kRE (andE (fa e) fb) k x z
  generalize fa e = ra
  cases ra with
  | err => rfl
  | exn q e1 => rfl
  | ok r e1 =>
    show pkC r e1 z _ = _
    rw [pkC_eq]
    unfold andE
    dsimp only
    cases peek r e1 with
    | none => rfl
    | some w =>
      show optK (truth w) z _ = _
      dsimp only
      cases truth w with
      | none => rfl
      | some b => cases b <;> rfl
def orC (a b : Ec ω) : Ec ω := fun e k x z => a e (fun r e1 => pkC r e1 z fun w => optK (truth w) z fun t => match t with | false => b e1 k x z | true => k r e1) x z
theorem orC_eq (fa fb : En → RE R1) : orC (okC (ω := ω) fa) (okC fb) = okC fun e => orE (fa e) fb := by
  funext e k x z
  show kRE (fa e) _ x z = kRE (orE (fa e) fb) k x z
  generalize fa e = ra
  cases ra with
  | err => rfl
  | exn q e1 => rfl
  | ok r e1 =>
    show pkC r e1 z _ = _
    rw [pkC_eq]
    unfold orE
    dsimp only
    cases peek r e1 with
    | none => rfl
    | some w =>
      show optK (truth w) z _ = _
      dsimp only
      cases truth w with
      | none => rfl
      | some b => cases b <;> rfl
def iteC (c : Bc ω) (a b : Ec ω) : Ec ω := fun e k x z => c e (fun t e1 => match t with | true => a e1 k x z | false => b e1 k x z) x z
theorem iteC_eq (fc : En → RE Bool) (fa fb : En → RE R1) : iteC (okB (ω := ω) fc) (okC fa) (okC fb) = okC fun e => iteE (fc e) fa fb := by
  funext e k x z
  show kRE (fc e) _ x z = kRE (iteE (fc e) fa fb) k x z
  generalize fc e = ra
  cases ra with
  | err => rfl
  | exn q e1 => rfl
  | ok b e1 => cases b <;> rfl
def cmpLC (p : W → W → Option Bool) (r2 : R1) (c : Ec ω) : Ec ω := fun e k x z => c e (fun r3 e3 => pkC r2 e3 z fun u => pkC r3 e3 z fun v => optK (bl (p u v)) z fun q => fR q fun q => k q e3) x z
theorem cmpLC_eq (p : W → W → Option Bool) (r2 : R1) (fc : En → RE R1) : cmpLC p r2 (okC (ω := ω) fc) = okC fun e => cmpL p r2 (fc e) := by
  funext e k x z
  show kRE (fc e) _ x z = kRE (cmpL p r2 (fc e)) k x z
  generalize fc e = ra
  cases ra with
  | err => rfl
  | exn q e1 => rfl
  | ok r3 e3 =>
    show pkC r2 e3 z _ = _
    rw [pkC_eq]
    unfold cmpL
    dsimp only
    cases peek r2 e3 with
    | none => rfl
    | some u =>
      show pkC r3 e3 z _ = _
      rw [pkC_eq]
      cases peek r3 e3 with
      | none => rfl
      | some v => exact opt_eq
def cmpTC (p : W → W → Option Bool) (r2 : R1) (c : Ec ω) (g : R1 → Ec ω) : Ec ω := fun e k x z => c e (fun r3 e3 => pkC r2 e3 z fun u => pkC r3 e3 z fun v => optK (p u v) z fun t => match t with | true => g r3 e3 k x z | false => k (.w (.bl false)) e3) x z
theorem cmpTC_eq (p : W → W → Option Bool) (r2 : R1) (fc : En → RE R1) (g : R1 → En → RE R1) : cmpTC p r2 (okC (ω := ω) fc) (fun r => okC (g r)) = okC fun e => cmpT p r2 (fc e) g := by
  funext e k x z
  show kRE (fc e) _ x z = kRE (cmpT p r2 (fc e) g) k x z
  generalize fc e = ra
  cases ra with
  | err => rfl
  | exn q e1 => rfl
  | ok r3 e3 =>
    show pkC r2 e3 z _ = _
    rw [pkC_eq]
    unfold cmpT
    dsimp only
    cases peek r2 e3 with
    | none => rfl
    | some u =>
      show pkC r3 e3 z _ = _
      rw [pkC_eq]
      cases peek r3 e3 with
      | none => rfl
      | some v =>
        show optK (p u v) z _ = _
        dsimp only
        cases p u v with
        | none => rfl
        | some b => cases b <;> rfl
def cmp2C (o p : W → W → Option Bool) (a b c : Ec ω) : Ec ω := fun e k x z => a e (fun r e1 => cmpTC o r b (fun r2 => cmpLC p r2 c) e1 k x z) x z
theorem cmp2C_eq (o p : W → W → Option Bool) (fa fb fc : En → RE R1) : cmp2C o p (okC (ω := ω) fa) (okC fb) (okC fc) = okC fun e => cmp2E o p (fa e) fb fc := by
  funext e k x z
  unfold cmp2C
  show kRE (fa e) _ x z = kRE (cmp2E o p (fa e) fb fc) k x z
  generalize fa e = ra
  cases ra with
  | err => rfl
  | exn q e1 => rfl
  | ok r e1 =>
    show cmpTC o r (okC fb) (fun r2 => cmpLC p r2 (okC fc)) e1 k x z = _
    have h : (fun r2 => cmpLC p r2 (okC (ω := ω) fc)) = fun r2 => okC fun e => cmpL p r2 (fc e) := funext fun r2 => cmpLC_eq p r2 fc
    rw [h, cmpTC_eq]; rfl
/-! ### parts, arguments, items -/
abbrev Oc (ω : Type) := En → (Option Int → En → ω) → (Exn → En → ω) → ω → ω
def okO (f : En → RE (Option Int)) : Oc ω := fun e k x z => kRE (f e) k x z
def partC (n : Bool) (a : Ec ω) : Oc ω := fun e k x z => match n with
  | true => k none e
  | false => a e (fun r e1 => pkC r e1 z fun w => match w with
    | .int i => k (some i) e1
    | _ => z) x z
theorem partC_eq (n : Bool) (fa : En → RE R1) : partC n (okC (ω := ω) fa) = okO (partE n fa) := by
  funext e k x z
  cases n with
  | true => rfl
  | false =>
    show kRE (fa e) _ x z = kRE (partE false fa e) k x z
    unfold partE
    dsimp only
    generalize fa e = ra
    cases ra with
    | err => rfl
    | exn q e1 => rfl
    | ok r e1 =>
      show pkC r e1 z _ = _
      rw [pkC_eq]
      dsimp only
      cases peek r e1 with
      | none => rfl
      | some w => cases w <;> rfl
def slC (a : Ec ω) (lo hi : Oc ω) : Ec ω := fun e k x z => a e (fun r e1 => lo e1 (fun l e2 => hi e2 (fun h e3 => pkC r e3 z fun w => optK (cutW w l h) z fun q => fR q fun q => k q e3) x z) x z) x z
theorem slC_eq (fa : En → RE R1) (lo hi : En → RE (Option Int)) : slC (okC (ω := ω) fa) (okO lo) (okO hi) = okC fun e => slE (fa e) lo hi := by
  funext e k x z
  show kRE (fa e) _ x z = kRE (slE (fa e) lo hi) k x z
  generalize fa e = ra
  cases ra with
  | err => rfl
  | exn q e1 => rfl
  | ok r e1 =>
    show kRE (lo e1) _ x z = _
    unfold slE
    dsimp only
    generalize lo e1 = rl
    cases rl with
    | err => rfl
    | exn q e2 => rfl
    | ok l e2 =>
      show kRE (hi e2) _ x z = _
      dsimp only
      generalize hi e2 = rh
      cases rh with
      | err => rfl
      | exn q e3 => rfl
      | ok h e3 =>
        show pkC r e3 z _ = _
        rw [pkC_eq]
        dsimp only
        cases peek r e3 with
        | none => rfl
        | some w => exact opt_eq
/-- a list of results -/
abbrev Rc (ω : Type) := En → (List R1 → En → ω) → (Exn → En → ω) → ω → ω
def okR (f : En → RE R1) : Rc ω := fun e k x z => kRE (rsE (f e) fun rs e => RE.ok rs e) k x z
def consC (a : Ec ω) (es : Rc ω) : Rc ω := fun e k x z => a e (fun r e1 => useC r e1 z fun w e2 => es e2 (fun rs e3 => k (.w w :: rs) e3) x z) x z
theorem consC_eq (fa : En → RE R1) (fb : En → RE R1) : consC (okC (ω := ω) fa) (okR fb) = okR fun e => consE (fa e) fb := by
  funext e k x z
  show kRE (fa e) _ x z = kRE (rsE (consE (fa e) fb) _) k x z
  generalize fa e = ra
  cases ra with
  | err => rfl
  | exn q e1 => rfl
  | ok r e1 =>
    dsimp only [kRE]
    rw [useC_eq]
    unfold consE valE
    dsimp only
    cases use r e1 with
    | none => rfl
    | some q =>
      obtain ⟨w, e2⟩ := q
      show kRE (rsE (fb e2) _) _ x z = _
      dsimp only
      generalize fb e2 = rb
      cases rb with
      | err => rfl
      | exn q e3 => rfl
      | ok r3 e3 => cases r3 <;> rfl
def useSC (r : R1) (e : En) (z : ω) (k : R1 → En → ω) : ω := match r with
  | .s i => useC (.s i) e z fun w e2 => k (.w w) e2
  | r => k r e
theorem useSC_eq (r : R1) (e : En) (z : ω) (k : R1 → En → ω) : useSC r e z k = optK (useS r e) z fun q => k q.1 q.2 := by
  cases r with
  | s i =>
    show useC (.s i) e z _ = _
    rw [useC_eq]
    unfold useS
    dsimp only
    cases use (.s i) e with
    | none => rfl
    | some q => rfl
  | _ => rfl
def consRC (a : Ec ω) (es : Rc ω) : Rc ω := fun e k x z => a e (fun r e1 => useSC r e1 z fun r e2 => es e2 (fun rs e3 => k (r :: rs) e3) x z) x z
theorem consRC_eq (fa : En → RE R1) (fb : En → RE R1) : consRC (okC (ω := ω) fa) (okR fb) = okR fun e => consRE (fa e) fb := by
  funext e k x z
  show kRE (fa e) _ x z = kRE (rsE (consRE (fa e) fb) _) k x z
  generalize fa e = ra
  cases ra with
  | err => rfl
  | exn q e1 => rfl
  | ok r e1 =>
    dsimp only [kRE]
    rw [useSC_eq]
    unfold consRE
    dsimp only
    cases useS r e1 with
    | none => rfl
    | some q =>
      obtain ⟨w, e2⟩ := q
      show kRE (rsE (fb e2) _) _ x z = _
      dsimp only
      generalize fb e2 = rb
      cases rb with
      | err => rfl
      | exn q e3 => rfl
      | ok r3 e3 => cases r3 <;> rfl
def wsC (rs : List R1) (z : ω) (k : List W → ω) : ω := optK (wsOf rs) z fun ws => fL ws k
theorem wsC_eq (rs : List R1) (z : ω) (k : List W → ω) : wsC rs z k = optK (wsOf rs) z k := by
  unfold wsC
  cases wsOf rs with
  | none => rfl
  | some ws => exact fL_eq ws k
def argsC (es : Rc ω) (g : List W → Ec ω) : Ec ω := fun e k x z => es e (fun rs e1 => wsC rs z fun ws => g ws e1 k x z) x z
theorem argsC_eq (fa : En → RE R1) (g : List W → En → RE R1) : argsC (okR (ω := ω) fa) (fun ws => okC (g ws)) = okC fun e => argsE (fa e) g := by
  funext e k x z
  show kRE (rsE (fa e) _) _ x z = kRE (argsE (fa e) g) k x z
  generalize fa e = ra
  cases ra with
  | err => rfl
  | exn q e1 => rfl
  | ok r e1 =>
    cases r with
    | l rs =>
      show wsC rs z _ = _
      rw [wsC_eq]
      unfold argsE
      dsimp only
      cases wsOf rs <;> rfl
    | _ => rfl

/-! ### items -/
abbrev Ic (ω : Type) := En → (List W → En → ω) → (Exn → En → ω) → ω → ω
def okI (f : En → RE (List W)) : Ic ω := fun e k x z => kRE (f e) k x z
abbrev Qc (ω : Type) := En → (Bool × List W → En → ω) → (Exn → En → ω) → ω → ω
def okQ (f : En → RE (Bool × List W)) : Qc ω := fun e k x z => kRE (f e) k x z
def itemsC (r : R1) (e : En) (z : ω) (k : Bool × List W → En → ω) : ω := useC r e z fun w e2 => match w with
  | .lst xs => k (true, xs) e2
  | .tup xs => k (false, xs) e2
  | _ => z
theorem itemsC_eq (r : R1) (e : En) (z : ω) (k : Bool × List W → En → ω) : itemsC r e z k = optK (itemsW r e) z fun q => k q.1 q.2 := by
  unfold itemsC
  rw [useC_eq]
  unfold itemsW
  cases use r e with
  | none => rfl
  | some q =>
    obtain ⟨w, e2⟩ := q
    cases w <;> rfl
def seqC (a : Ec ω) : Qc ω := fun e k x z => a e (fun r e1 => itemsC r e1 z k) x z
theorem seqC_eq (fa : En → RE R1) : seqC (okC (ω := ω) fa) = okQ fun e => seqI (fa e) := by
  funext e k x z
  show kRE (fa e) _ x z = kRE (seqI (fa e)) k x z
  generalize fa e = ra
  cases ra with
  | err => rfl
  | exn q e1 => rfl
  | ok r e1 =>
    dsimp only [kRE]
    rw [itemsC_eq]
    unfold seqI
    dsimp only
    cases itemsW r e1 <;> rfl
def itC (a : Ec ω) : Ic ω := fun e k x z => a e (fun r e1 => match r with
  | .l rs => wsC rs z fun ws => k ws e1
  | r => itemsC r e1 z fun q e2 => k q.2 e2) x z
theorem itC_eq (fa : En → RE R1) : itC (okC (ω := ω) fa) = okI fun e => asItems (fa e) := by
  funext e k x z
  show kRE (fa e) _ x z = kRE (asItems (fa e)) k x z
  generalize fa e = ra
  cases ra with
  | err => rfl
  | exn q e1 => rfl
  | ok r e1 =>
    cases r with
    | l rs =>
      dsimp only [kRE]
      rw [wsC_eq]
      unfold asItems
      dsimp only
      cases wsOf rs <;> rfl
    | w w =>
      dsimp only [kRE]
      rw [itemsC_eq]
      show _ = kRE (itE (seqI (.ok (.w w) e1)) _) k x z
      unfold seqI
      dsimp only
      cases itemsW (.w w) e1 <;> rfl
    | s i =>
      dsimp only [kRE]
      rw [itemsC_eq]
      show _ = kRE (itE (seqI (.ok (.s i) e1)) _) k x z
      unfold seqI
      dsimp only
      cases itemsW (.s i) e1 <;> rfl
    | f w =>
      dsimp only [kRE]
      rw [itemsC_eq]
      show _ = kRE (itE (seqI (.ok (.f w) e1)) _) k x z
      unfold seqI
      dsimp only
      cases itemsW (.f w) e1 <;> rfl
def enuC (a : Ec ω) : Ec ω := fun e k x z => seqC a e (fun q e1 => fL (num 0 q.2) fun ws => k (.l (ws.map .w)) e1) x z
theorem enuC_eq (fa : En → RE R1) : enuC (okC (ω := ω) fa) = okC fun e => itE (seqI (fa e)) fun q e' => walked (num 0 q.2) e' := by
  funext e k x z
  unfold enuC
  rw [seqC_eq]
  show kRE (seqI (fa e)) _ x z = kRE (itE (seqI (fa e)) _) k x z
  generalize seqI (fa e) = ra
  cases ra with
  | err => rfl
  | exn q e1 => rfl
  | ok q e1 => exact fL_eq _ _
def zipC (a b : Ec ω) : Ec ω := fun e k x z => seqC a e (fun q e1 => seqC b e1 (fun q2 e2 => if q.1 == q2.1 then fL (zipL q.2 q2.2) fun ws => k (.l (ws.map .w)) e2 else z) x z) x z
theorem zipC_eq (fa fb : En → RE R1) : zipC (okC (ω := ω) fa) (okC fb) = okC fun e => itE (seqI (fa e)) fun q e1 => itE (seqI (fb e1)) fun q2 e2 => if q.1 == q2.1 then walked (zipL q.2 q2.2) e2 else .err := by
  funext e k x z
  unfold zipC
  rw [seqC_eq, seqC_eq]
  show kRE (seqI (fa e)) _ x z = kRE (itE (seqI (fa e)) _) k x z
  generalize seqI (fa e) = ra
  cases ra with
  | err => rfl
  | exn q e1 => rfl
  | ok q e1 =>
    show kRE (seqI (fb e1)) _ x z = kRE (itE (seqI (fb e1)) _) k x z
    generalize seqI (fb e1) = rb
    cases rb with
    | err => rfl
    | exn q e1 => rfl
    | ok q2 e2 =>
      dsimp only [kRE, itE]
      by_cases h : (q.1 == q2.1) = true
      · rw [if_pos h, if_pos h]; exact fL_eq _ _
      · rw [if_neg h, if_neg h]
/-! ### targets -/
def slO (e : En) : Nat → Option Sl := @List.rec Sl (fun _ => Nat → Option Sl) (fun _ => none) (fun x _ ih i => @Nat.rec (fun _ => Option Sl) (some x) (fun j _ => ih j) i) e
theorem slO_eq : ∀ (e : En) (i : Nat), slO e i = e[i]?
  | [], _ => rfl
  | x :: xs, 0 => rfl
  | x :: xs, i + 1 => by
    show slO xs i = _
    rw [slO_eq xs]; rfl
def storeC (i : Nat) (s : Sl) (e : En) (z : ω) (k : En → ω) : ω := match slO e i with
  | some (.p _) => z
  | some _ => setC s e i k
  | none => z
theorem storeC_eq (i : Nat) (s : Sl) (e : En) (z : ω) (k : En → ω) : storeC i s e z k = optK (store i s e) z k := by
  unfold storeC store
  rw [slO_eq]
  cases e[i]? with
  | none => rfl
  | some t => cases t <;> first | rfl | exact setC_eq _ _ _ _
def twoC (w : W) (z : ω) (g : W → W → ω) : ω := match w with
  | .tup [x, y] => g x y
  | _ => z
def threeC (w : W) (z : ω) (g : W → W → W → ω) : ω := match w with
  | .tup [x, y, t] => g x y t
  | _ => z
theorem twoC_eq {w : W} {z : ω} {g : W → W → ω} {f : W → W → Option En} {k : En → ω} (h : ∀ x y, g x y = optK (f x y) z k) : twoC w z g = optK (two w f) z k := by
  cases w with
  | tup l =>
    match l with
    | [] => rfl
    | [_] => rfl
    | [x, y] => exact h x y
    | _ :: _ :: _ :: _ => rfl
  | _ => rfl
theorem threeC_eq {w : W} {z : ω} {g : W → W → W → ω} {f : W → W → W → Option En} {k : En → ω} (h : ∀ x y t, g x y t = optK (f x y t) z k) : threeC w z g = optK (three w f) z k := by
  cases w with
  | tup l =>
    match l with
    | [] => rfl
    | [_] => rfl
    | [_, _] => rfl
    | [x, y, t] => exact h x y t
    | _ :: _ :: _ :: _ :: _ => rfl
  | _ => rfl
def bindC : Pt → W → En → ω → (En → ω) → ω
  | .n i => fun w e z k => storeC i (.v w) e z k
  | .t2 a b => fun w e z k => twoC w z fun x y => bindC a x e z fun e' => bindC b y e' z k
  | .t3 a b c => fun w e z k => threeC w z fun x y t => bindC a x e z fun e' => bindC b y e' z fun e'' => bindC c t e'' z k
theorem bindC_eq : ∀ (p : Pt) (w : W) (e : En) (z : ω) (k : En → ω), bindC p w e z k = optK (bindP p w e) z k
  | .n i, w, e, z, k => storeC_eq i (.v w) e z k
  | .t2 a b, w, e, z, k => twoC_eq fun x y => by
    rw [bindC_eq a]
    cases bindP a x e with
    | none => rfl
    | some e' => exact bindC_eq b y e' z k
  | .t3 a b c, w, e, z, k => threeC_eq fun x y t => by
    rw [bindC_eq a]
    cases bindP a x e with
    | none => rfl
    | some e' =>
      show bindC b y e' z _ = _
      rw [bindC_eq b]
      dsimp only
      cases bindP b y e' with
      | none => rfl
      | some e'' => exact bindC_eq c t e'' z k
def wipeC (e : En) : List Nat → (En → ω) → ω
  | [] => fun k => k e
  | v :: vs => fun k => wipeC e vs fun e' => setC .n e' v k
theorem wipeC_eq (e : En) : ∀ (own : List Nat) (k : En → ω), wipeC e own k = k (wipeE e own)
  | [], k => rfl
  | v :: vs, k => by
    show wipeC e vs (fun e' => setC .n e' v k) = _
    rw [wipeC_eq e vs, setC_eq]; rfl
def backC (e s : En) : List Nat → (En → ω) → ω
  | [] => fun k => k e
  | v :: vs => fun k => backC e s vs fun e' => setC (sl s v) e' v k
theorem backC_eq (e s : En) : ∀ (own : List Nat) (k : En → ω), backC e s own k = k (backE e s own)
  | [], k => rfl
  | v :: vs, k => by
    show backC e s vs (fun e' => setC (sl s v) e' v k) = _
    rw [backC_eq e s vs, setC_eq, sl_eq]
    show k ((backE e s vs).set v ((s[v]?).getD .n)) = k ((backE e s vs).set v (s.getD v .n))
    rw [List.getD_eq_getElem?_getD]
/-! ### comprehensions -/
abbrev Lc (α ω : Type) := En → (List α → En → ω) → ω → ω
def kLa {α : Type} (r : RE (List α)) (k : List α → En → ω) (z : ω) : ω := match r with
  | .ok l e => k l e
  | _ => z
def okL {α : Type} (f : En → RE (List α)) : Lc α ω := fun e k z => kLa (f e) k z
def condC (n : Bool) (a : Ec ω) : Bc ω := fun e k x z => match n with
  | true => k true e
  | false => tstC a e k x z
theorem condC_eq (n : Bool) (fa : En → RE R1) : condC n (okC (ω := ω) fa) = okB (condE (cond n fa)) := by
  funext e k x z
  cases n with
  | true => rfl
  | false =>
    show tstC (okC fa) e k x z = _
    rw [tstC_eq]; rfl
def turnC {α : Type} (own : List Nat) (p : Pt) (c : Bc ω) (el : Lc α ω) (w : W) : Lc α ω := fun e k z => wipeC e own fun e0 => bindC p w e0 z fun e1 => c e1 (fun b e2 => match b with
  | true => el e2 k z
  | false => k [] e2) (fun _ _ => z) z
theorem turnC_eq {α : Type} (own : List Nat) (p : Pt) (n : Bool) (fc : En → RE R1) (el : En → RE (List α)) (w : W) : turnC own p (okB (ω := ω) (condE (cond n fc))) (okL el) w = okL (lcTurn own p (cond n fc) el w) := by
  funext e k z
  unfold turnC
  rw [wipeC_eq, bindC_eq]
  show _ = kLa (lcTurn own p (cond n fc) el w e) k z
  unfold lcTurn
  cases bindP p w (wipeE e own) with
  | none => rfl
  | some e1 =>
    show kRE (condE (cond n fc) e1) _ _ z = kLa (iteE (condE (cond n fc) e1) el _) k z
    generalize condE (cond n fc) e1 = rc
    cases rc with
    | err => rfl
    | exn q e2 => rfl
    | ok b e2 => cases b <;> rfl
def loopC {α : Type} (own : List Nat) (turn : W → Lc α ω) (xs : List W) : Lc α ω := @List.rec W (fun _ => Lc α ω) (fun e k z => k [] e) (fun x _ ih e k z => turn x e (fun ys e' => backC e' e own fun e2 => ih e2 (fun zs e3 => appC zs ys fun l => k l e3) z) z) xs
theorem loopC_eq {α : Type} (own : List Nat) (turn : W → En → RE (List α)) : ∀ (xs : List W), loopC own (fun w => okL (ω := ω) (turn w)) xs = okL (lcLoop own turn xs)
  | [] => rfl
  | x :: xs => by
    funext e k z
    show kLa (turn x e) (fun ys e' => backC e' e own fun e2 => loopC own (fun w => okL (turn w)) xs e2 (fun zs e3 => appC zs ys fun l => k l e3) z) z = kLa (lcLoop own turn (x :: xs) e) k z
    rw [loopC_eq own turn xs]
    unfold lcLoop
    generalize turn x e = rt
    cases rt with
    | err => rfl
    | exn q e1 => rfl
    | ok ys e' =>
      dsimp only [kLa]
      rw [backC_eq]
      show kLa (lcLoop own turn xs (backE e' e own)) _ z = _
      generalize lcLoop own turn xs (backE e' e own) = rl
      cases rl with
      | err => rfl
      | exn q e1 => rfl
      | ok zs e3 => exact appC_eq _ _ _
def elC (el : Ec ω) : Lc W ω := fun e k z => el e (fun r e1 => useC r e1 z fun w e2 => k [w] e2) (fun _ _ => z) z
theorem elC_eq (fe : En → RE R1) : elC (okC (ω := ω) fe) = okL (lcEl fe) := by
  funext e k z
  show kRE (fe e) _ _ z = kLa (lcEl fe e) k z
  unfold lcEl
  generalize fe e = ra
  cases ra with
  | err => rfl
  | exn q e1 => rfl
  | ok r e1 =>
    dsimp only [kRE]
    rw [useC_eq]
    cases use r e1 <;> rfl
def el2C (own1 : List Nat) (it1 : Ic ω) (turn1 : W → Lc W ω) : Lc W ω := fun e k z => it1 e (fun ys e2 => loopC own1 turn1 ys e2 k z) (fun _ _ => z) z
theorem el2C_eq (own1 : List Nat) (fi : En → RE (List W)) (turn1 : W → En → RE (List W)) : el2C own1 (okI (ω := ω) fi) (fun w => okL (turn1 w)) = okL fun e1 => match fi e1 with | .ok ys e2 => lcLoop own1 turn1 ys e2 | _ => .err := by
  funext e k z
  show kRE (fi e) _ _ z = kLa (match fi e with | .ok ys e2 => lcLoop own1 turn1 ys e2 | _ => .err) k z
  generalize fi e = ra
  cases ra with
  | err => rfl
  | exn q e1 => rfl
  | ok ys e2 =>
    show loopC own1 (fun w => okL (turn1 w)) ys e2 k z = _
    rw [loopC_eq]; rfl
def runLC (own : List Nat) (it : Ic ω) (turn : W → Lc W ω) : Ec ω := fun e k x z => it e (fun xs e1 => loopC own turn xs e1 (fun ws e2 => if ws.length < lim then k (.f (.lst ws)) e2 else z) z) x z
theorem runLC_eq (own : List Nat) (fi : En → RE (List W)) (turn : W → En → RE (List W)) : runLC own (okI (ω := ω) fi) (fun w => okL (turn w)) = okC fun e => itE (lcRun own (fi e) turn) fun ws e' => .ok (.f (.lst ws)) e' := by
  funext e k x z
  show kRE (fi e) _ x z = kRE (itE (lcRun own (fi e) turn) _) k x z
  generalize fi e = ra
  cases ra with
  | err => rfl
  | exn q e1 => rfl
  | ok xs e1 =>
    show loopC own (fun w => okL (turn w)) xs e1 _ z = _
    rw [loopC_eq]
    unfold lcRun
    dsimp only
    show kLa (lcLoop own turn xs e1) _ z = _
    generalize lcLoop own turn xs e1 = rl
    cases rl with
    | err => rfl
    | exn q e1 => rfl
    | ok ws e2 =>
      dsimp only [kLa]
      by_cases h : ws.length < lim
      · rw [if_pos h, if_pos h]; rfl
      · rw [if_neg h, if_neg h]; rfl
def elDC (kx vx : Ec ω) : Lc (W × W) ω := fun e k z => kx e (fun r e1 => useC r e1 z fun a e2 => vx e2 (fun r2 e3 => useC r2 e3 z fun b e4 => k [(a, b)] e4) (fun _ _ => z) z) (fun _ _ => z) z
theorem elDC_eq (fk fv : En → RE R1) : elDC (okC (ω := ω) fk) (okC fv) = okL (dcEl fk fv) := by
  funext e k z
  show kRE (fk e) _ _ z = kLa (dcEl fk fv e) k z
  unfold dcEl
  generalize fk e = ra
  cases ra with
  | err => rfl
  | exn q e1 => rfl
  | ok r e1 =>
    dsimp only [kRE]
    rw [useC_eq]
    cases use r e1 with
    | none => rfl
    | some q =>
      obtain ⟨a, e2⟩ := q
      show kRE (fv e2) _ _ z = _
      dsimp only
      generalize fv e2 = rb
      cases rb with
      | err => rfl
      | exn q e1 => rfl
      | ok r2 e3 =>
        dsimp only [kRE]
        rw [useC_eq]
        cases use r2 e3 <;> rfl
def runDC (own : List Nat) (it : Ic ω) (turn : W → Lc (W × W) ω) : Ec ω := fun e k x z => it e (fun xs e1 => loopC own turn xs e1 (fun ws e2 => optK (dGo ws [] []) z fun q => fW (.dK q.1 q.2) fun w => k (.f w) e2) z) x z
theorem runDC_eq (own : List Nat) (fi : En → RE (List W)) (turn : W → En → RE (List (W × W))) : runDC own (okI (ω := ω) fi) (fun w => okL (turn w)) = okC fun e => dcRun own (fi e) turn := by
  funext e k x z
  show kRE (fi e) _ x z = kRE (dcRun own (fi e) turn) k x z
  generalize fi e = ra
  cases ra with
  | err => rfl
  | exn q e1 => rfl
  | ok xs e1 =>
    show loopC own (fun w => okL (turn w)) xs e1 _ z = _
    rw [loopC_eq]
    unfold dcRun
    dsimp only
    show kLa (lcLoop own turn xs e1) _ z = _
    generalize lcLoop own turn xs e1 = rl
    cases rl with
    | err => rfl
    | exn q e1 => rfl
    | ok ws e2 =>
      dsimp only [kLa]
      cases dGo ws [] [] with
      | none => rfl
      | some q => obtain ⟨ks, vs⟩ := q; exact fW_eq (.dK ks vs) fun w => k (.f w) e2

/-! ### calls -/
abbrev Kc (ω : Type) := Nat → List Sl → (Bool → W → Sl → ω) → (Exn → Sl → ω) → ω → ω
def kRF (r : RF) (k : Bool → W → Sl → ω) (x : Exn → Sl → ω) (z : ω) : ω := match r with
  | .ok fr w s => k fr w s
  | .exn q s => x q s
  | .err => z
def okF (K : Nat → List Sl → RF) : Kc ω := fun f args k x z => kRF (K f args) k x z
def gotC (fr : Bool) (w : W) (k : R1 → ω) : ω := match fr with
  | true => k (.f w)
  | false => k (.w w)
theorem gotC_eq (fr : Bool) (w : W) (k : R1 → ω) : gotC fr w k = k (got fr w) := by cases fr <;> rfl
def callC (C : Kc ω) (f : Nat) (ws : List W) : Ec ω := fun e k x z => fSp (ws.map .v) fun args => C f args (fun fr w _ => gotC fr w fun r => k r e) (fun q _ => x q e) z
theorem callC_eq (K : Nat → List Sl → RF) (f : Nat) (ws : List W) : callC (okF (ω := ω) K) f ws = okC fun e => landed (K f (ws.map .v)) e := by
  funext e k x z
  unfold callC
  rw [fSp_eq]
  show kRF (K f (ws.map .v)) _ _ z = kRE (landed (K f (ws.map .v)) e) k x z
  generalize K f (ws.map .v) = r
  cases r with
  | err => rfl
  | exn q s => rfl
  | ok fr w s => exact gotC_eq fr w fun r => k r e
def ioC (C : Kc ω) (f i : Nat) (ws : List W) : Ec ω := fun e k x z => match sl e i with
  | .o t => fSp (.p t :: ws.map .v) fun args => C f args (fun fr w s => match s with
      | .p u => setC (.o u) e i fun e' => gotC fr w fun r => k r e'
      | _ => z) (fun q s => match s with
      | .p u => setC (.o u) e i fun e' => x q e'
      | _ => z) z
  | .p t => fSp (.p t :: ws.map .v) fun args => C f args (fun fr w s => match s with
      | .p u => setC (.p u) e i fun e' => gotC fr w fun r => k r e'
      | _ => z) (fun q s => match s with
      | .p u => setC (.p u) e i fun e' => x q e'
      | _ => z) z
  | .v t => callC C f (t :: ws) e k x z
  | .n => z
theorem ioC_eq (K : Nat → List Sl → RF) (f i : Nat) (ws : List W) : ioC (okF (ω := ω) K) f i ws = okC (ioE K f i ws) := by
  funext e k x z
  show _ = kRE (ioE K f i ws e) k x z
  unfold ioC ioE
  rw [sl_eq]
  generalize e[i]? = o
  cases o with
  | none => rfl
  | some s =>
    cases s with
    | n => rfl
    | v t =>
      show callC (okF K) f (t :: ws) e k x z = _
      rw [callC_eq]; rfl
    | o t =>
      show fSp (Sl.p t :: ws.map Sl.v) _ = kRE (landedIo (K f (.p t :: ws.map .v)) i e) k x z
      rw [fSp_eq]
      show kRF (K f (.p t :: ws.map .v)) _ _ z = _
      generalize K f (.p t :: ws.map .v) = r
      cases r with
      | err => rfl
      | exn q s =>
        cases s with
        | p u => dsimp only [kRF]; rw [setC_eq]; rfl
        | _ => rfl
      | ok fr w s =>
        cases s with
        | p u => dsimp only [kRF]; rw [setC_eq]; exact gotC_eq fr w _
        | _ => rfl
    | p t =>
      show fSp (Sl.p t :: ws.map Sl.v) _ = kRE (landedIoP (K f (.p t :: ws.map .v)) i e) k x z
      rw [fSp_eq]
      show kRF (K f (.p t :: ws.map .v)) _ _ z = _
      generalize K f (.p t :: ws.map .v) = r
      cases r with
      | err => rfl
      | exn q s =>
        cases s with
        | p u => dsimp only [kRF]; rw [setC_eq]; rfl
        | _ => rfl
      | ok fr w s =>
        cases s with
        | p u => dsimp only [kRF]; rw [setC_eq]; exact gotC_eq fr w _
        | _ => rfl
def hasC (i : Nat) (a : Ec ω) : Ec ω := fun e k x z => match sl e i with
  | .n => z
  | _ => a e k x z
theorem hasC_eq (i : Nat) (f : En → RE R1) : hasC i (okC (ω := ω) f) = okC fun e => hasE i e (f e) := by
  funext e k x z
  show _ = kRE (hasE i e (f e)) k x z
  unfold hasC hasE
  rw [sl_eq]
  generalize e[i]? = o
  cases o with
  | none => rfl
  | some s => cases s <;> rfl
def cvC (T : Tb) (C : Kc ω) (i : Nat) (es : Rc ω) : Ec ω := fun e k x z => match sl e i with
  | .v (.fn f) => (match T.has f with
    | true => argsC es (callC C f) e k x z
    | false => z)
  | _ => z
theorem cvC_eq (T : Tb) (K : Nat → List Sl → RF) (i : Nat) (fa : En → RE R1) : cvC T (okF (ω := ω) K) i (okR fa) = okC fun e => cvE T K i e (fa e) := by
  funext e k x z
  show _ = kRE (cvE T K i e (fa e)) k x z
  unfold cvC cvE
  rw [sl_eq]
  generalize e[i]? = o
  cases o with
  | none => rfl
  | some s =>
    cases s with
    | v w =>
      cases w with
      | fn f =>
        dsimp only [Option.getD]
        cases T.has f with
        | false => rfl
        | true =>
          have h : (callC (okF (ω := ω) K) f) = fun ws => okC fun e => landed (K f (ws.map .v)) e := funext fun ws => callC_eq K f ws
          show argsC (okR fa) (callC (okF K) f) e k x z = _
          rw [h, argsC_eq]; rfl
      | _ => rfl
    | _ => rfl
def rcC (a : Ec ω) : Rc ω := fun e k x z => a e (fun r e1 => match r with | .l rs => k rs e1 | _ => z) x z
theorem rcC_eq (f : En → RE R1) : rcC (okC (ω := ω) f) = okR f := by
  funext e k x z
  show kRE (f e) _ x z = kRE (rsE (f e) _) k x z
  generalize f e = r
  cases r with
  | err => rfl
  | exn q e1 => rfl
  | ok r e1 => cases r <;> rfl
def lrC (a : Rc ω) : Ec ω := fun e k x z => a e (fun rs e1 => k (.l rs) e1) x z
theorem lrC_eq (f : En → RE R1) (h : ∀ e r e1, f e = .ok r e1 → ∃ rs, r = .l rs) : lrC (okR (ω := ω) f) = okC f := by
  funext e k x z
  show kRE (rsE (f e) _) _ x z = kRE (f e) k x z
  cases hf : f e with
  | err => rfl
  | exn q e1 => rfl
  | ok r e1 =>
    obtain ⟨rs, rfl⟩ := h _ _ _ hf
    rfl
theorem rsE_l {a : RE R1} {g : List R1 → List R1} {e1 : En} {r : R1} (h : rsE a (fun rs e3 => (.ok (.l (g rs)) e3 : RE R1)) = .ok r e1) : ∃ rs, r = .l rs := by
  unfold rsE at h
  split at h
  · cases h; exact ⟨_, rfl⟩
  · cases h
  · cases h
theorem consE_l {a : RE R1} {es : En → RE R1} {r : R1} {e1 : En} (h : consE a es = .ok r e1) : ∃ rs, r = .l rs := by
  unfold consE valE at h
  split at h
  · split at h
    · exact rsE_l h
    · cases h
  · cases h
  · cases h
theorem consRE_l {a : RE R1} {es : En → RE R1} {r : R1} {e1 : En} (h : consRE a es = .ok r e1) : ∃ rs, r = .l rs := by
  unfold consRE at h
  split at h
  · split at h
    · exact rsE_l h
    · cases h
  · cases h
  · cases h
def evVC (i : Nat) : Ec ω := fun e k _ z => match sl e i with
  | .v w => k (.w w) e
  | .o _ => k (.s i) e
  | .p _ => k (.s i) e
  | .n => z
theorem evVC_eq (i : Nat) : evVC (ω := ω) i = okC (evV i) := by
  funext e k x z
  show _ = kRE (evV i e) k x z
  unfold evVC evV
  rw [sl_eq]
  generalize e[i]? = o
  cases o with
  | none => rfl
  | some s => cases s <;> rfl
def tupC (ws : List W) : Ec ω := fun e k _ z => if ws.length ≤ lim then k (.w (.tup ws)) e else z
theorem tupC_eq (ws : List W) : tupC (ω := ω) ws = okC (tupE ws) := by
  funext e k x z
  show _ = kRE (tupE ws e) k x z
  unfold tupC tupE
  by_cases h : ws.length ≤ lim
  · rw [if_pos h, if_pos h]; rfl
  · rw [if_neg h, if_neg h]; rfl
def lstC (ws : List W) : Ec ω := fun e k _ z => if ws.length ≤ lim then k (.f (.lst ws)) e else z
theorem lstC_eq (ws : List W) : lstC (ω := ω) ws = okC (lstE ws) := by
  funext e k x z
  show _ = kRE (lstE ws e) k x z
  unfold lstC lstE
  by_cases h : ws.length ≤ lim
  · rw [if_pos h, if_pos h]; rfl
  · rw [if_neg h, if_neg h]; rfl
/-! ### fast roads of the operators -/
def genK (f : W → W → Option R1) (u v : W) (z : ω) (k : R1 → ω) : ω := optK (f u v) z fun q => fR q k
def iiK (u v : W) (g : ω) (f : Int → Int → ω) : ω := match u with
  | .int i => (match v with
    | .int j => f i j
    | _ => g)
  | _ => g
def nnK (i j : Int) (g : ω) (f : Nat → Nat → ω) : ω := @Int.rec (fun _ => ω) (fun n => @Int.rec (fun _ => ω) (fun m => f n m) (fun _ => g) j) (fun _ => g) i
def ifK (b : Bool) (a c : ω) : ω := @Bool.rec (fun _ => ω) c a b
def natK (n : Nat) (k : R1 → ω) : ω := fNat n fun p => k (.w (.int (.ofNat p)))
def blK (b : Bool) (k : R1 → ω) : ω := @Bool.rec (fun _ => ω) (k (.w (.bl false))) (k (.w (.bl true))) b
def addK (g : ω) (u v : W) (k : R1 → ω) : ω := iiK u v g fun i j => nnK i j g fun n m => natK (Nat.add n m) k
def subK (g : ω) (u v : W) (k : R1 → ω) : ω := iiK u v g fun i j => nnK i j g fun n m => ifK (Nat.ble m n) (natK (Nat.sub n m) k) g
def mulK (g : ω) (u v : W) (k : R1 → ω) : ω := iiK u v g fun i j => nnK i j g fun n m => ifK (Nat.ble n 18446744073709551615) (natK (Nat.mul n m) k) g
def divK (g : ω) (u v : W) (k : R1 → ω) : ω := iiK u v g fun i j => nnK i j g fun n m => ifK (Nat.ble 1 m) (ifK (Nat.ble m 1000000) (natK (Nat.div n m) k) g) g
def modK (g : ω) (u v : W) (k : R1 → ω) : ω := iiK u v g fun i j => nnK i j g fun n m => ifK (Nat.ble 1 m) (natK (Nat.mod n m) k) g
def binK (o : BOp) (u v : W) (z : ω) (k : R1 → ω) : ω := match o with
  | .add => addK (genK (binW .add) u v z k) u v k
  | .sub => subK (genK (binW .sub) u v z k) u v k
  | .mul => mulK (genK (binW .mul) u v z k) u v k
  | .fdiv => divK (genK (binW .fdiv) u v z k) u v k
  | .mod => modK (genK (binW .mod) u v z k) u v k
theorem iiK_eq {u v : W} {g t : ω} {f : Int → Int → ω} (hg : g = t) (hf : ∀ i j, u = .int i → v = .int j → f i j = t) : iiK u v g f = t := by
  cases u with
  | int i =>
    cases v with
    | int j => exact hf i j rfl rfl
    | _ => exact hg
  | _ => exact hg
theorem nnK_eq {i j : Int} {g t : ω} {f : Nat → Nat → ω} (hg : g = t) (hf : ∀ n m, i = .ofNat n → j = .ofNat m → f n m = t) : nnK i j g f = t := by
  cases i with
  | ofNat n =>
    cases j with
    | ofNat m => exact hf n m rfl rfl
    | _ => exact hg
  | _ => exact hg
theorem ifK_eq {b : Bool} {a c t : ω} (ha : b = true → a = t) (hc : c = t) : ifK b a c = t := by
  cases b with
  | true => exact ha rfl
  | false => exact hc
theorem natK_eq (n : Nat) (k : R1 → ω) {f : W → W → Option R1} {u v : W} {z : ω} (h : f u v = some (.w (.int (.ofNat n)))) : natK n k = genK f u v z k := by
  unfold natK genK
  rw [h, fNat_eq]
  exact (fR_eq (R1.w (.int (.ofNat n))) k).symm
theorem blK_eq (b : Bool) (k : R1 → ω) {f : W → W → Option R1} {u v : W} {z : ω} (h : f u v = some (.w (.bl b))) : blK b k = genK f u v z k := by
  unfold blK genK
  rw [h]
  refine Eq.trans ?_ (fR_eq (R1.w (.bl b)) k).symm
  cases b <;> rfl
theorem binK_eq (o : BOp) (u v : W) (z : ω) (k : R1 → ω) : binK o u v z k = genK (binW o) u v z k := by
  cases o with
  | add => exact iiK_eq rfl fun i j hu hv => nnK_eq rfl fun n m hi hj => natK_eq _ _ (by subst hu; subst hv; subst hi; subst hj; rfl)
  | sub => exact iiK_eq rfl fun i j hu hv => nnK_eq rfl fun n m hi hj => ifK_eq (fun h => natK_eq _ _ (by
      subst hu; subst hv; subst hi; subst hj
      have h := Nat.le_of_ble_eq_true h
      show some (R1.w (W.int ((n : Int) - (m : Int)))) = some (R1.w (W.int (((n - m : Nat)) : Int)))
      rw [Int.ofNat_sub h])) rfl
  | mul => exact iiK_eq rfl fun i j hu hv => nnK_eq rfl fun n m hi hj => ifK_eq (fun h => natK_eq _ _ (by
      subst hu; subst hv; subst hi; subst hj
      have h := Nat.le_of_ble_eq_true h
      show (if mulOk (Int.ofNat n) (Int.ofNat m) = true then some (R1.w (W.int (Int.ofNat n * Int.ofNat m))) else none) = _
      have e : mulOk (Int.ofNat n) (Int.ofNat m) = true := by
        unfold mulOk
        have : decide ((Int.ofNat n).natAbs < 18446744073709551616) = true := decide_eq_true (by show n < _; omega)
        rw [this]; rfl
      rw [if_pos e]; rfl)) rfl
  | fdiv => exact iiK_eq rfl fun i j hu hv => nnK_eq rfl fun n m hi hj => ifK_eq (fun h => ifK_eq (fun h2 => natK_eq _ _ (by
      subst hu; subst hv; subst hi; subst hj
      have h := Nat.le_of_ble_eq_true h
      have h2 := Nat.le_of_ble_eq_true h2
      show (if 0 < Int.ofNat m ∧ (Int.ofNat m).natAbs.log2 < 9000 then some (R1.w (W.int (Int.ofNat n / Int.ofNat m))) else none) = _
      have e : 0 < Int.ofNat m ∧ (Int.ofNat m).natAbs.log2 < 9000 := ⟨by show (0 : Int) < (m : Int); omega, by
        show m.log2 < 9000
        have : m.log2 < 20 := (Nat.log2_lt (by omega)).2 (by omega)
        omega⟩
      rw [if_pos e]; rfl)) rfl) rfl
  | mod => exact iiK_eq rfl fun i j hu hv => nnK_eq rfl fun n m hi hj => ifK_eq (fun h => natK_eq _ _ (by
      subst hu; subst hv; subst hi; subst hj
      have h := Nat.le_of_ble_eq_true h
      show (if 0 < Int.ofNat m then some (R1.w (W.int (Int.ofNat n % Int.ofNat m))) else none) = _
      have e : 0 < Int.ofNat m := by show (0 : Int) < (m : Int); omega
      rw [if_pos e]; rfl)) rfl
def op2C (F : W → W → ω → (R1 → ω) → ω) (a b : Ec ω) : Ec ω := fun e k x z => a e (fun r e1 => b e1 (fun r2 e2 => pkC r e2 z fun u => pkC r2 e2 z fun v => F u v z fun q => k q e2) x z) x z
theorem op2C_eq {F : W → W → ω → (R1 → ω) → ω} {f : W → W → Option R1} (h : ∀ u v z k, F u v z k = genK f u v z k) (a b : Ec ω) : op2C F a b = un2C f a b := by
  unfold op2C un2C
  simp only [h]
  rfl
def cmpF (o : COp) (x y : W) : Option R1 := bl (cmpW o x y)
def kN (n : Nat) (k : Ky) : Bool := match k with
  | .inl i => @Int.rec (fun _ => Bool) (fun m => Nat.beq m n) (fun _ => false) i
  | .inr _ => false
def memN (n : Nat) (ks : List Ky) : List W → Bool := @List.rec Ky (fun _ => List W → Bool) (fun _ => false) (fun k _ ih vs => @List.rec W (fun _ => Bool) false (fun _ vs _ => ifK (kN n k) true (ih vs)) vs) ks
theorem beq_dec (a b : Nat) : Nat.beq a b = decide ((Int.ofNat a) = Int.ofNat b) := by
  cases h : Nat.beq a b with
  | true => rw [Nat.eq_of_beq_eq_true h, decide_eq_true rfl]
  | false => exact (decide_eq_false fun e => Nat.ne_of_beq_eq_false h (Int.ofNat.inj e)).symm
theorem kN_eq (n : Nat) (k : Ky) : kN n k = kyEq k (.inl (.ofNat n)) := by
  cases k with
  | inr s => rfl
  | inl i =>
    cases i with
    | ofNat m => exact beq_dec m n
    | negSucc m => rfl
theorem memN_eq (n : Nat) : ∀ (ks : List Ky) (vs : List W), memN n ks vs = (getK ks vs (.inl (.ofNat n))).isSome
  | [], vs => by cases vs <;> rfl
  | k :: ks, [] => rfl
  | k :: ks, v :: vs => by
    show ifK (kN n k) true (memN n ks vs) = (if kyEq k _ then some v else getK ks vs _).isSome
    rw [kN_eq]
    cases kyEq k (.inl (.ofNat n)) with
    | true => rfl
    | false => exact memN_eq n ks vs
def inK (neg : Bool) (g : ω) (u v : W) (k : R1 → ω) : ω := match v with
  | .dK ks vs => (match u with
    | .int i => @Int.rec (fun _ => ω) (fun n => ifK (memN n ks vs) (k (.w (.bl (!neg)))) (k (.w (.bl neg)))) (fun _ => g) i
    | _ => g)
  | _ => g
def cmpK (o : COp) (u v : W) (z : ω) (k : R1 → ω) : ω := match o with
  | .eq => iiK u v (genK (cmpF .eq) u v z k) fun i j => nnK i j (genK (cmpF .eq) u v z k) fun n m => blK (Nat.beq n m) k
  | .ne => iiK u v (genK (cmpF .ne) u v z k) fun i j => nnK i j (genK (cmpF .ne) u v z k) fun n m => blK (!Nat.beq n m) k
  | .lt => iiK u v (genK (cmpF .lt) u v z k) fun i j => nnK i j (genK (cmpF .lt) u v z k) fun n m => blK (Nat.ble (Nat.succ n) m) k
  | .le => iiK u v (genK (cmpF .le) u v z k) fun i j => nnK i j (genK (cmpF .le) u v z k) fun n m => blK (Nat.ble n m) k
  | .gt => iiK u v (genK (cmpF .gt) u v z k) fun i j => nnK i j (genK (cmpF .gt) u v z k) fun n m => blK (Nat.ble (Nat.succ m) n) k
  | .ge => iiK u v (genK (cmpF .ge) u v z k) fun i j => nnK i j (genK (cmpF .ge) u v z k) fun n m => blK (Nat.ble m n) k
  | .inn => inK false (genK (cmpF .inn) u v z k) u v k
  | .nin => inK true (genK (cmpF .nin) u v z k) u v k
  | o => genK (cmpF o) u v z k
theorem ble_dec (a b : Nat) : Nat.ble a b = decide ((Int.ofNat a) ≤ Int.ofNat b) := by
  cases h : Nat.ble a b with
  | true => exact (decide_eq_true (Int.ofNat_le.2 (Nat.le_of_ble_eq_true h))).symm
  | false => exact (decide_eq_false fun e => Nat.not_le_of_not_ble_eq_true (by rw [h]; exact fun x => Bool.noConfusion x) (Int.ofNat_le.1 e)).symm
theorem blt_dec (a b : Nat) : Nat.ble (Nat.succ a) b = decide ((Int.ofNat a) < Int.ofNat b) := by
  rw [ble_dec]; rfl
theorem inK_eq (neg : Bool) (u v : W) (z : ω) (k : R1 → ω) {f : W → W → Option R1} (h : ∀ n ks vs, f (.int (.ofNat n)) (.dK ks vs) = some (.w (.bl (if neg then !(getK ks vs (.inl (.ofNat n))).isSome else (getK ks vs (.inl (.ofNat n))).isSome)))) : inK neg (genK f u v z k) u v k = genK f u v z k := by
  cases v with
  | dK ks vs =>
    cases u with
    | int i =>
      cases i with
      | ofNat n =>
        show ifK (memN n ks vs) _ _ = _
        unfold genK
        rw [h, memN_eq]
        refine Eq.trans ?_ (fR_eq (R1.w (.bl (if neg then !(getK ks vs (.inl (.ofNat n))).isSome else (getK ks vs (.inl (.ofNat n))).isSome))) k).symm
        cases (getK ks vs (.inl (.ofNat n))).isSome <;> cases neg <;> rfl
      | negSucc n => rfl
    | _ => rfl
  | _ => rfl
theorem cmpK_eq (o : COp) (u v : W) (z : ω) (k : R1 → ω) : cmpK o u v z k = genK (cmpF o) u v z k := by
  cases o with
  | eq => exact iiK_eq rfl fun i j hu hv => nnK_eq rfl fun n m hi hj => blK_eq _ _ (by
      subst hu; subst hv; subst hi; subst hj
      show bl (some ((Int.ofNat n) == (Int.ofNat m))) = _
      rw [beq_dec]; rfl)
  | ne => exact iiK_eq rfl fun i j hu hv => nnK_eq rfl fun n m hi hj => blK_eq _ _ (by
      subst hu; subst hv; subst hi; subst hj
      show bl (some (!((Int.ofNat n) == (Int.ofNat m)))) = _
      rw [beq_dec]; rfl)
  | lt => exact iiK_eq rfl fun i j hu hv => nnK_eq rfl fun n m hi hj => blK_eq _ _ (by
      subst hu; subst hv; subst hi; subst hj
      rw [blt_dec]; rfl)
  | le => exact iiK_eq rfl fun i j hu hv => nnK_eq rfl fun n m hi hj => blK_eq _ _ (by
      subst hu; subst hv; subst hi; subst hj
      rw [ble_dec]; rfl)
  | gt => exact iiK_eq rfl fun i j hu hv => nnK_eq rfl fun n m hi hj => blK_eq _ _ (by
      subst hu; subst hv; subst hi; subst hj
      rw [blt_dec]; rfl)
  | ge => exact iiK_eq rfl fun i j hu hv => nnK_eq rfl fun n m hi hj => blK_eq _ _ (by
      subst hu; subst hv; subst hi; subst hj
      rw [ble_dec]; rfl)
  | inn => exact inK_eq false u v z k fun n ks vs => rfl
  | nin => exact inK_eq true u v z k fun n ks vs => rfl
  | is => rfl
  | isn => rfl
def ixF (x y : W) : Option R1 := (ixW x y).map .w
def nthK (xs : List W) : Nat → ω → (W → ω) → ω := @List.rec W (fun _ => Nat → ω → (W → ω) → ω) (fun _ z _ => z) (fun x _ ih n z k => @Nat.rec (fun _ => ω) (k x) (fun m _ => ih m z k) n) xs
theorem nthK_eq : ∀ (xs : List W) (n : Nat) (z : ω) (k : W → ω), nthK xs n z k = optK xs[n]? z k
  | [], n, z, k => rfl
  | x :: xs, 0, z, k => rfl
  | x :: xs, n + 1, z, k => by
    show nthK xs n z k = _
    rw [nthK_eq xs n]; rfl
theorem atL_nat (xs : List W) (n : Nat) : atL xs (.ofNat n) = xs[n]? := by
  unfold atL ixN
  rw [if_pos (show (0 : Int) ≤ Int.ofNat n from Int.ofNat_nonneg n)]
  by_cases h : (Int.ofNat n) < (xs.length : Int)
  · rw [if_pos h]; rfl
  · rw [if_neg h]
    exact (List.getElem?_eq_none (by
      have : ¬ ((n : Int) < (xs.length : Int)) := h
      omega)).symm
def ixK (u v : W) (z : ω) (k : R1 → ω) : ω := match v with
  | .int i => @Int.rec (fun _ => ω) (fun n => (match u with
    | .lst xs => nthK xs n z fun w => k (.w w)
    | .tup xs => nthK xs n z fun w => k (.w w)
    | u => genK ixF u (.int (.ofNat n)) z k)) (fun n => genK ixF u (.int (.negSucc n)) z k) i
  | v => genK ixF u v z k
theorem ixK_eq (u v : W) (z : ω) (k : R1 → ω) : ixK u v z k = genK ixF u v z k := by
  cases v with
  | int i =>
    cases i with
    | negSucc n => rfl
    | ofNat n =>
      cases u with
      | lst xs =>
        show nthK xs n z _ = _
        rw [nthK_eq]
        show _ = optK ((atL xs (.ofNat n)).map R1.w) z _
        rw [atL_nat]
        cases xs[n]? with
        | none => rfl
        | some w => exact (fR_eq (R1.w w) k).symm
      | tup xs =>
        show nthK xs n z _ = _
        rw [nthK_eq]
        show _ = optK ((atL xs (.ofNat n)).map R1.w) z _
        rw [atL_nat]
        cases xs[n]? with
        | none => rfl
        | some w => exact (fR_eq (R1.w w) k).symm
      | _ => rfl
  | _ => rfl
/-! ### expressions -/
variable (T : Tb) (K : Nat → List Sl → RF) (C : Kc ω)
def evC (x : E) : Ec ω := @E.rec (fun _ => Ec ω)
  (fun i => evVC i) (fun w e k _ _ => k (.w w) e) (fun _ i e k _ _ => k (.w (.int i)) e) (fun f e k _ _ => k (.w (.fn f)) e)
  (fun o _ _ a b => op2C (binK o) a b) (fun _ a => un1C negF a) (fun _ a => notC (tstC a)) (fun _ _ a b => andC a b) (fun _ _ a b => orC a b)
  (fun o _ _ a b => op2C (cmpK o) a b) (fun o p _ _ _ a b c => cmp2C (cmpW o) (cmpW p) a b c) (fun o p q a b c d _ _ _ _ => okC (ev T K (.cmp3 o p q a b c d)))
  (fun _ _ _ c a b => iteC (tstC c) a b)
  (fun _ _ a b => op2C ixK a b) (fun _ lo hi a l h => slC a (partC (isNil lo) l) (partC (isNil hi) h)) (fun _ a => un1C revW a)
  (fun _ es => argsC (rcC es) tupC) (fun _ es => argsC (rcC es) lstC) (fun t e k _ _ => k (.f (if t then .dT [] [] else .dK [] [])) e) (fun ks vs _ _ => okC (ev T K (.dd ks vs)))
  (fun f _ a => un1C (b1W f) a) (fun f _ _ a b => un2C (b2W f) a b) (fun _ ts _ a => un1C (fun x => bl (isTys ts x)) a)
  (fun _ a => un1C (fun x => (rngS x).map fun l => .f (.lst l)) a) (fun _ a => un1C (fun x => (rngS x).map fun l => .w (.tup l)) a) (fun _ _ _ a b c => un3C (fun x y z => (rng3F x y z).map fun l => .w (.tup l)) a b c)
  (fun _ a => un1C (fun x => lOf (rngF x)) a) (fun _ _ a b => un2C (fun x y => lOf (rng2F x y)) a b) (fun _ _ _ a b c => un3C (fun x y z => lOf (rng3F x y z)) a b c)
  (fun _ a => enuC a) (fun _ _ a b => zipC a b)
  (fun own p _ c _ it cc el => runLC own (itC it) (turnC own p (condC (isNil c) cc) (elC el)))
  (fun own own1 p _ c p1 _ c1 _ it cc it1 cc1 el => runLC own (itC it) (turnC own p (condC (isNil c) cc) (el2C own1 (itC it1) (turnC own1 p1 (condC (isNil c1) cc1) (elC el)))))
  (fun _ own p _ c _ _ it cc kx vx => runDC own (itC it) (turnC own p (condC (isNil c) cc) (elDC kx vx)))
  (fun f _ es => argsC (rcC es) (callC C f)) (fun f i _ es => hasC i (argsC (rcC es) (ioC C f i))) (fun i _ es => cvC T C i (rcC es))
  (fun m a es _ _ => okC (ev T K (.meth m a es))) (fun c es ds _ => okC (ev T K (.make c es ds))) (fun _ f a => un1C (fldF f) a)
  (fun i => okC (ev T K (.pop0 i))) (fun i a _ => okC (ev T K (.pop1 i a))) (fun _ _ a b => un2C indexW a b) (fun _ _ _ a b c => un3C getD1 a b c)
  (fun e k _ _ => k (.l []) e) (fun _ _ a es => lrC (consC a (rcC es))) (fun _ _ a es => lrC (consRC a (rcC es))) x
theorem evC_eq (hC : C = okF K) : ∀ x : E, evC T K C x = okC (ev T K x) := by
  subst hC
  intro x
  induction x with
  | v i => exact evVC_eq i
  | k w => rfl
  | g x i => rfl
  | fn f => rfl
  | bin o a b ha hb => show op2C (binK o) (evC T K (okF K) a) (evC T K (okF K) b) = _; rw [ha, hb, op2C_eq (binK_eq o), un2C_eq]; rfl
  | neg a ha => show un1C negF (evC T K (okF K) a) = _; rw [ha, un1C_eq]; rfl
  | not a ha => show notC (tstC (evC T K (okF K) a)) = _; rw [ha, tstC_eq, notC_eq]; rfl
  | and a b ha hb => show andC (evC T K (okF K) a) (evC T K (okF K) b) = _; rw [ha, hb, andC_eq]; rfl
  | or a b ha hb => show orC (evC T K (okF K) a) (evC T K (okF K) b) = _; rw [ha, hb, orC_eq]; rfl
  | cmp o a b ha hb => show op2C (cmpK o) (evC T K (okF K) a) (evC T K (okF K) b) = _; rw [ha, hb, op2C_eq (cmpK_eq o), un2C_eq]; rfl
  | cmp2 o p a b c ha hb hc => show cmp2C _ _ (evC T K (okF K) a) (evC T K (okF K) b) (evC T K (okF K) c) = _; rw [ha, hb, hc, cmp2C_eq]; rfl
  | cmp3 => rfl
  | ite c a b hc ha hb => show iteC (tstC (evC T K (okF K) c)) (evC T K (okF K) a) (evC T K (okF K) b) = _; rw [ha, hb, hc, tstC_eq, iteC_eq]; rfl
  | ix a b ha hb => show op2C ixK (evC T K (okF K) a) (evC T K (okF K) b) = _; rw [ha, hb, op2C_eq ixK_eq, un2C_eq]; rfl
  | sl a lo hi ha hl hh => show slC (evC T K (okF K) a) (partC (isNil lo) (evC T K (okF K) lo)) (partC (isNil hi) (evC T K (okF K) hi)) = _; rw [ha, hl, hh, partC_eq, partC_eq, slC_eq]; rfl
  | rev a ha => show un1C revW (evC T K (okF K) a) = _; rw [ha, un1C_eq]; rfl
  | tup es h =>
    show argsC (rcC (evC T K (okF K) es)) tupC = _
    have q : (tupC (ω := ω)) = fun ws => okC (tupE ws) := funext tupC_eq
    rw [h, rcC_eq, q, argsC_eq]; rfl
  | lst es h =>
    show argsC (rcC (evC T K (okF K) es)) lstC = _
    have q : (lstC (ω := ω)) = fun ws => okC (lstE ws) := funext lstC_eq
    rw [h, rcC_eq, q, argsC_eq]; rfl
  | d0 t => rfl
  | dd => rfl
  | b1 f a ha => show un1C (b1W f) (evC T K (okF K) a) = _; rw [ha, un1C_eq]; rfl
  | b2 f a b ha hb => show un2C (b2W f) (evC T K (okF K) a) (evC T K (okF K) b) = _; rw [ha, hb, un2C_eq]; rfl
  | isi a ts tp ha => show un1C _ (evC T K (okF K) a) = _; rw [ha, un1C_eq]; rfl
  | lrng a ha => show un1C _ (evC T K (okF K) a) = _; rw [ha, un1C_eq]; rfl
  | trng a ha => show un1C _ (evC T K (okF K) a) = _; rw [ha, un1C_eq]; rfl
  | trng3 a b c ha hb hc => show un3C _ (evC T K (okF K) a) (evC T K (okF K) b) (evC T K (okF K) c) = _; rw [ha, hb, hc, un3C_eq]; rfl
  | rng1 a ha => show un1C _ (evC T K (okF K) a) = _; rw [ha, un1C_eq]; rfl
  | rng2 a b ha hb => show un2C _ (evC T K (okF K) a) (evC T K (okF K) b) = _; rw [ha, hb, un2C_eq]; rfl
  | rng3 a b c ha hb hc => show un3C _ (evC T K (okF K) a) (evC T K (okF K) b) (evC T K (okF K) c) = _; rw [ha, hb, hc, un3C_eq]; rfl
  | enu a ha => show enuC (evC T K (okF K) a) = _; rw [ha, enuC_eq]; rfl
  | zip a b ha hb => show zipC (evC T K (okF K) a) (evC T K (okF K) b) = _; rw [ha, hb, zipC_eq]; rfl
  | lc own p it c el h1 h2 h3 =>
    show runLC own (itC (evC T K (okF K) it)) (turnC own p (condC (isNil c) (evC T K (okF K) c)) (elC (evC T K (okF K) el))) = _
    rw [h1, h2, h3, itC_eq, condC_eq, elC_eq]
    have q : (turnC own p (okB (ω := ω) (condE (cond (isNil c) (ev T K c)))) (okL (lcEl (ev T K el)))) = fun w => okL (lcTurn own p (cond (isNil c) (ev T K c)) (lcEl (ev T K el)) w) := funext fun w => turnC_eq own p _ _ _ w
    rw [q, runLC_eq]; rfl
  | lc2 own own1 p it c p1 it1 c1 el h1 h2 h3 h4 h5 =>
    show runLC own (itC (evC T K (okF K) it)) (turnC own p (condC (isNil c) (evC T K (okF K) c)) (el2C own1 (itC (evC T K (okF K) it1)) (turnC own1 p1 (condC (isNil c1) (evC T K (okF K) c1)) (elC (evC T K (okF K) el))))) = _
    rw [h1, h2, h3, h4, h5, itC_eq, itC_eq, condC_eq, condC_eq, elC_eq]
    have q1 : (turnC own1 p1 (okB (ω := ω) (condE (cond (isNil c1) (ev T K c1)))) (okL (lcEl (ev T K el)))) = fun w => okL (lcTurn own1 p1 (cond (isNil c1) (ev T K c1)) (lcEl (ev T K el)) w) := funext fun w => turnC_eq own1 p1 _ _ _ w
    rw [q1, el2C_eq]
    have q : ∀ g : En → RE (List W), (turnC own p (okB (ω := ω) (condE (cond (isNil c) (ev T K c)))) (okL g)) = fun w => okL (lcTurn own p (cond (isNil c) (ev T K c)) g w) := fun g => funext fun w => turnC_eq own p _ _ _ w
    rw [q, runLC_eq]; rfl
  | dc t own p it c kx vx h1 h2 h3 h4 =>
    show runDC own (itC (evC T K (okF K) it)) (turnC own p (condC (isNil c) (evC T K (okF K) c)) (elDC (evC T K (okF K) kx) (evC T K (okF K) vx))) = _
    rw [h1, h2, h3, h4, itC_eq, condC_eq, elDC_eq]
    have q : (turnC own p (okB (ω := ω) (condE (cond (isNil c) (ev T K c)))) (okL (dcEl (ev T K kx) (ev T K vx)))) = fun w => okL (lcTurn own p (cond (isNil c) (ev T K c)) (dcEl (ev T K kx) (ev T K vx)) w) := funext fun w => turnC_eq own p _ _ _ w
    rw [q, runDC_eq]; rfl
  | call f es h =>
    show argsC (rcC (evC T K (okF K) es)) (callC (okF K) f) = _
    have q : (callC (okF (ω := ω) K) f) = fun ws => okC fun e => landed (K f (ws.map .v)) e := funext fun ws => callC_eq K f ws
    rw [h, rcC_eq, q, argsC_eq]; rfl
  | callIo f i es h =>
    show hasC i (argsC (rcC (evC T K (okF K) es)) (ioC (okF K) f i)) = _
    have q : (ioC (okF (ω := ω) K) f i) = fun ws => okC (ioE K f i ws) := funext fun ws => ioC_eq K f i ws
    rw [h, rcC_eq, q, argsC_eq, hasC_eq]; rfl
  | callV i es h => show cvC T (okF K) i (rcC (evC T K (okF K) es)) = _; rw [h, rcC_eq, cvC_eq]; rfl
  | meth => rfl
  | make => rfl
  | «at» a f ha => show un1C (fldF f) (evC T K (okF K) a) = _; rw [ha, un1C_eq]; rfl
  | pop0 => rfl
  | pop1 => rfl
  | index a b ha hb => show un2C indexW (evC T K (okF K) a) (evC T K (okF K) b) = _; rw [ha, hb, un2C_eq]; rfl
  | get a b c ha hb hc => show un3C _ (evC T K (okF K) a) (evC T K (okF K) b) (evC T K (okF K) c) = _; rw [ha, hb, hc, un3C_eq]; rfl
  | nil => rfl
  | cons a b ha hb => show lrC (consC (evC T K (okF K) a) (rcC (evC T K (okF K) b))) = _; rw [ha, hb, rcC_eq, consC_eq, lrC_eq _ fun e r e1 h => consE_l h]; rfl
  | consR a b ha hb => show lrC (consRC (evC T K (okF K) a) (rcC (evC T K (okF K) b))) = _; rw [ha, hb, rcC_eq, consRC_eq, lrC_eq _ fun e r e1 h => consRE_l h]; rfl
end
end Iv
end

section
set_option linter.all false
set_option autoImplicit false
set_option maxRecDepth 100000
namespace Iv
open PySem (Str)
noncomputable section
variable {ω : Type}
abbrev Uc (ω : Type) := En → (En → ω) → (Exn → En → ω) → ω → ω
def kU (r : RE Unit) (k : En → ω) (x : Exn → En → ω) (z : ω) : ω := match r with
  | .ok _ e => k e
  | .exn q e => x q e
  | .err => z
def okU (f : En → RE Unit) : Uc ω := fun e k x z => kU (f e) k x z
theorem kU_ofU (o : Option En) (k : En → ω) (x : Exn → En → ω) (z : ω) : kU (ofU o) k x z = optK o z k := by cases o <;> rfl
def putPC (q : Pt) (r : R1) : Uc ω := fun e k x z => match r with
  | .f w => (match q with
    | .n i => storeC i (.o w) e z k
    | q => useC r e z fun w e' => bindC q w e' z k)
  | r => useC r e z fun w e' => bindC q w e' z k
theorem usePt_c (q : Pt) (r : R1) (e : En) (k : En → ω) (x : Exn → En → ω) (z : ω) : useC r e z (fun w e' => bindC q w e' z k) = kU (match use r e with | some (w, e') => ofU (bindP q w e') | none => .err) k x z := by
  rw [useC_eq]
  cases use r e with
  | none => rfl
  | some u =>
    obtain ⟨w, e'⟩ := u
    show bindC q w e' z k = kU (ofU (bindP q w e')) k x z
    rw [bindC_eq, kU_ofU]
theorem putPC_eq (q : Pt) (r : R1) : putPC (ω := ω) q r = okU (putP q r) := by
  funext e k x z
  cases r with
  | f w =>
    cases q with
    | n i =>
      show storeC i (.o w) e z k = kU (ofU (store i (.o w) e)) k x z
      rw [storeC_eq, kU_ofU]
    | t2 a b => exact usePt_c (.t2 a b) (.f w) e k x z
    | t3 a b c => exact usePt_c (.t3 a b c) (.f w) e k x z
  | w w => exact (show putPC q (.w w) e k x z = _ from usePt_c q (.w w) e k x z).trans (by cases q <;> rfl)
  | s i => exact (show putPC q (.s i) e k x z = _ from usePt_c q (.s i) e k x z).trans (by cases q <;> rfl)
  | l rs => exact (show putPC q (.l rs) e k x z = _ from usePt_c q (.l rs) e k x z).trans (by cases q <;> rfl)
def chgC (i : Nat) (g : W → Option W) (e : En) (z : ω) (k : En → ω) : ω := match sl e i with
  | .o w => optK (g w) z fun y => fW y fun y => setC (.o y) e i k
  | .p w => optK (g w) z fun y => fW y fun y => setC (.p y) e i k
  | _ => z
theorem chgC_eq (i : Nat) (g : W → Option W) (e : En) (z : ω) (k : En → ω) : chgC i g e z k = optK (chg i g e) z k := by
  unfold chgC chg
  rw [sl_eq]
  generalize e[i]? = o
  cases o with
  | none => rfl
  | some s =>
    cases s with
    | o w =>
      dsimp only [Option.getD]
      cases g w with
      | none => rfl
      | some y =>
        dsimp only [optK]
        rw [fW_eq, setC_eq]
    | p w =>
      dsimp only [Option.getD]
      cases g w with
      | none => rfl
      | some y =>
        dsimp only [optK]
        rw [fW_eq, setC_eq]
    | _ => rfl
def hasK {α : Type} (i : Nat) (e : En) (z : ω) (a : ω) : ω := match sl e i with
  | .n => z
  | _ => a
theorem hasK_eq {α : Type} (i : Nat) (e : En) (r : RE α) (f : RE α → ω) (z : ω) (hz : f .err = z) : hasK (α := α) i e z (f r) = f (hasE i e r) := by
  unfold hasK hasE
  rw [sl_eq]
  generalize e[i]? = o
  cases o with
  | none => exact hz.symm
  | some s => cases s <;> first | rfl | exact hz.symm
/-! ### changing a slot's object, fast -/
def setZ {α : Type} (s : α) (xs : List α) : Nat → ω → (List α → ω) → ω := @List.rec α (fun _ => Nat → ω → (List α → ω) → ω) (fun _ z _ => z) (fun x xs ih n z k => @Nat.rec (fun _ => ω) (k (s :: xs)) (fun m _ => ih m z fun ys => k (x :: ys)) n) xs
theorem setZ_eq {α : Type} (s : α) : ∀ (xs : List α) (n : Nat) (z : ω) (k : List α → ω), setZ s xs n z k = if n < xs.length then k (xs.set n s) else z
  | [], n, z, k => by rw [if_neg (by simp)]; rfl
  | x :: xs, 0, z, k => by rw [if_pos (by simp)]; rfl
  | x :: xs, n + 1, z, k => by
    show setZ s xs n z (fun ys => k (x :: ys)) = _
    rw [setZ_eq s xs]
    by_cases h : n < xs.length
    · rw [if_pos h, if_pos (show n + 1 < (x :: xs).length by simp; exact h)]; rfl
    · rw [if_neg h, if_neg (show ¬ n + 1 < (x :: xs).length by simp; omega)]
def anyN (n : Nat) (ks : List Ky) : Bool := @List.rec Ky (fun _ => Bool) false (fun k _ ih => ifK (kN n k) true ih) ks
theorem anyN_eq (n : Nat) : ∀ ks : List Ky, anyN n ks = ks.any fun k => kyEq k (.inl (.ofNat n))
  | [] => rfl
  | k :: ks => by
    show ifK (kN n k) true (anyN n ks) = _
    rw [kN_eq, anyN_eq n ks, List.any_cons]
    cases kyEq k (.inl (.ofNat n)) <;> rfl
def putVC (n : Nat) (y : W) (ks : List Ky) : List W → (List W → ω) → ω := @List.rec Ky (fun _ => List W → (List W → ω) → ω) (fun _ k => k []) (fun x _ ih vs k => @List.rec W (fun _ => ω) (k []) (fun v vs _ => ih vs fun r => ifK (kN n x) (k (y :: r)) (k (v :: r))) vs) ks
theorem putVC_eq (n : Nat) (y : W) : ∀ (ks : List Ky) (vs : List W) (k : List W → ω), putVC n y ks vs k = k (putV ks vs (.inl (.ofNat n)) y)
  | [], vs, k => by cases vs <;> rfl
  | x :: ks, [], k => rfl
  | x :: ks, v :: vs, k => by
    show putVC n y ks vs _ = _
    rw [putVC_eq n y ks vs, kN_eq]
    show _ = k ((if kyEq x _ = true then y else v) :: _)
    cases kyEq x (.inl (.ofNat n)) <;> rfl
def setX (y w : W) (v : W) (z : ω) (k : W → ω) : ω := match v with
  | .lst xs => (match y with
    | .int i => @Int.rec (fun _ => ω) (fun n => setZ w xs n z fun ys => k (.lst ys)) (fun n => optK (setW (.lst xs) (.int (.negSucc n)) w) z k) i
    | y => optK (setW (.lst xs) y w) z k)
  | .dK ks vs => (match y with
    | .int i => @Int.rec (fun _ => ω) (fun n => ifK (Nat.ble (Nat.succ ks.length) lim) (ifK (anyN n ks) (putVC n w ks vs fun vs => k (.dK ks vs)) (appC [.inl (.ofNat n)] ks fun ks => appC [w] vs fun vs => k (.dK ks vs))) z) (fun n => optK (setW (.dK ks vs) (.int (.negSucc n)) w) z k) i
    | y => optK (setW (.dK ks vs) y w) z k)
  | v => optK (setW v y w) z fun u => fW u k
theorem setX_eq (y w v : W) (z : ω) (k : W → ω) : setX y w v z k = optK (setW v y w) z k := by
  have g : ∀ v, (optK (setW v y w) z fun u => fW u k) = optK (setW v y w) z k := fun v => by
    cases setW v y w with
    | none => rfl
    | some u => exact fW_eq u k
  cases v with
  | lst xs =>
    cases y with
    | int i =>
      cases i with
      | negSucc n => rfl
      | ofNat n =>
        show setZ w xs n z _ = optK (match ixN xs.length (.ofNat n) with | some j => some (W.lst (xs.set j w)) | none => none) z k
        rw [setZ_eq]
        unfold ixN
        rw [if_pos (show (0 : Int) ≤ Int.ofNat n from Int.ofNat_nonneg n)]
        by_cases h : n < xs.length
        · rw [if_pos h, if_pos (show (Int.ofNat n) < (xs.length : Int) from Int.ofNat_lt.2 h)]; rfl
        · rw [if_neg h, if_neg (show ¬ (Int.ofNat n) < (xs.length : Int) from fun q => h (Int.ofNat_lt.1 q))]; rfl
    | _ => rfl
  | dK ks vs =>
    cases y with
    | int i =>
      cases i with
      | negSucc n => rfl
      | ofNat n =>
        show ifK (Nat.ble (Nat.succ ks.length) lim) _ z = optK (if ks.length < lim then some (W.dK (putK ks vs (.inl (.ofNat n)) w).1 (putK ks vs (.inl (.ofNat n)) w).2) else none) z k
        by_cases h : ks.length < lim
        · rw [if_pos h, Nat.ble_eq_true_of_le h, anyN_eq, putVC_eq]
          show ifK _ _ _ = k _
          unfold putK
          cases ks.any fun k => kyEq k (.inl (.ofNat n)) with
          | true => rfl
          | false =>
            show appC _ ks _ = _
            rw [appC_eq, appC_eq]; rfl
        · rw [if_neg h]
          have : Nat.ble (Nat.succ ks.length) lim = false := by
            cases q : Nat.ble (Nat.succ ks.length) lim with
            | false => rfl
            | true => exact absurd (Nat.le_of_ble_eq_true q) h
          rw [this]; rfl
    | _ => rfl
  | dT ks vs => exact g (.dT ks vs)
  | _ => rfl
def appX (w : W) (v : W) (z : ω) (k : W → ω) : ω := match v with
  | .lst xs => ifK (Nat.ble (Nat.succ xs.length) lim) (appC [w] xs fun ys => k (.lst ys)) z
  | _ => z
theorem appX_eq (w v : W) (z : ω) (k : W → ω) : appX w v z k = optK (appW w v) z k := by
  cases v with
  | lst xs =>
    show ifK (Nat.ble (Nat.succ xs.length) lim) _ z = optK (if xs.length < lim then some (W.lst (xs ++ [w])) else none) z k
    by_cases h : xs.length < lim
    · rw [if_pos h, Nat.ble_eq_true_of_le h]; exact appC_eq _ _ _
    · rw [if_neg h]
      have : Nat.ble (Nat.succ xs.length) lim = false := by
        cases q : Nat.ble (Nat.succ xs.length) lim with
        | false => rfl
        | true => exact absurd (Nat.le_of_ble_eq_true q) h
      rw [this]; rfl
  | _ => rfl
def extX (w : W) (v : W) (z : ω) (k : W → ω) : ω := match w with
  | .lst ys => (match v with
    | .lst xs => ifK (Nat.ble (Nat.add xs.length ys.length) lim) (appC ys xs fun ys => k (.lst ys)) z
    | _ => z)
  | _ => z
theorem extX_eq (w v : W) (z : ω) (k : W → ω) : extX w v z k = optK (extW w v) z k := by
  cases w with
  | lst ys =>
    cases v with
    | lst xs =>
      show ifK (Nat.ble (xs.length + ys.length) lim) _ z = optK (if xs.length + ys.length ≤ lim then some (W.lst (xs ++ ys)) else none) z k
      by_cases h : xs.length + ys.length ≤ lim
      · rw [if_pos h, Nat.ble_eq_true_of_le h]; exact appC_eq _ _ _
      · rw [if_neg h]
        have : Nat.ble (xs.length + ys.length) lim = false := by
          cases q : Nat.ble (xs.length + ys.length) lim with
          | false => rfl
          | true => exact absurd (Nat.le_of_ble_eq_true q) h
        rw [this]; rfl
    | _ => rfl
  | _ => rfl
def chgX (i : Nat) (G : W → ω → (W → ω) → ω) (e : En) (z : ω) (k : En → ω) : ω := match sl e i with
  | .o w => G w z fun y => setC (.o y) e i k
  | .p w => G w z fun y => setC (.p y) e i k
  | _ => z
theorem chgX_eq (i : Nat) {G : W → ω → (W → ω) → ω} {g : W → Option W} (h : ∀ w z k, G w z k = optK (g w) z k) (e : En) (z : ω) (k : En → ω) : chgX i G e z k = chgC i g e z k := by
  unfold chgX chgC
  cases sl e i with
  | o w => show G w z _ = optK (g w) z _; rw [h]; simp only [fW_eq]
  | p w => show G w z _ = optK (g w) z _; rw [h]; simp only [fW_eq]
  | _ => rfl
def putSC (i : Nat) (a : Ec ω) (r : R1) : Uc ω := fun e k x z => useC r e z fun w e1 => hasK (α := Unit) i e1 z (a e1 (fun r2 e2 => pkC r2 e2 z fun y => chgX i (setX y w) e2 z k) x z)
theorem putSC_eq (i : Nat) (fa : En → RE R1) (r : R1) : putSC i (okC (ω := ω) fa) r = okU (putS i fa r) := by
  funext e k x z
  unfold putSC
  rw [useC_eq]
  show _ = kU (putS i fa r e) k x z
  unfold putS
  cases use r e with
  | none => rfl
  | some q =>
    obtain ⟨w, e1⟩ := q
    dsimp only [optK]
    have h : okC fa e1 (fun r2 e2 => pkC r2 e2 z fun y => chgX i (setX y w) e2 z k) x z = (fun q : RE Unit => kU q k x z) (resE (fa e1) (putS2 i w)) := by
      show kRE (fa e1) _ x z = kU (resE (fa e1) (putS2 i w)) k x z
      generalize fa e1 = ra
      cases ra with
      | err => rfl
      | exn q e2 => rfl
      | ok r2 e2 =>
        dsimp only [kRE]
        rw [pkC_eq]
        show _ = kU (putS2 i w r2 e2) k x z
        unfold putS2
        cases peek r2 e2 with
        | none => rfl
        | some y =>
          dsimp only [optK]
          rw [chgX_eq i (setX_eq y w), chgC_eq, kU_ofU]
    rw [h]
    exact hasK_eq i e1 (resE (fa e1) (putS2 i w)) (fun q => kU q k x z) z rfl
def putAC (i g : Nat) (r : R1) : Uc ω := fun e k x z => useC r e z fun w e1 => chgC i (insSet g w) e1 z k
theorem putAC_eq (i g : Nat) (r : R1) : putAC (ω := ω) i g r = okU (putA i g r) := by
  funext e k x z
  unfold putAC
  rw [useC_eq]
  show _ = kU (putA i g r e) k x z
  unfold putA
  cases use r e with
  | none => rfl
  | some q =>
    obtain ⟨w, e1⟩ := q
    dsimp only [optK]
    rw [chgC_eq, kU_ofU]
def putC (V : E → Ec ω) (t : Tg) (r : R1) : Uc ω := match t with
  | .p q => putPC q r
  | .s i a => putSC i (V a) r
  | .f i g => putAC i g r
theorem putC_eq (V : E → En → RE R1) (t : Tg) (r : R1) : putC (fun a => okC (ω := ω) (V a)) t r = okU (put V t r) := by
  cases t with
  | p q => exact putPC_eq q r
  | s i a => exact putSC_eq i (V a) r
  | f i g => exact putAC_eq i g r
def putsC (V : E → Ec ω) : List Tg → List R1 → Uc ω
  | [] => fun rs e k x z => match rs with
    | [] => k e
    | _ => z
  | t :: ts => fun rs e k x z => match rs with
    | r :: rs => putC V t r e (fun e' => putsC V ts rs e' k x z) x z
    | [] => z
theorem putsC_eq (V : E → En → RE R1) : ∀ (ts : List Tg) (rs : List R1), putsC (fun a => okC (ω := ω) (V a)) ts rs = okU (puts V ts rs)
  | [], [] => rfl
  | [], _ :: _ => rfl
  | _ :: _, [] => rfl
  | t :: ts, r :: rs => by
    funext e k x z
    show putC (fun a => okC (V a)) t r e (fun e' => putsC (fun a => okC (V a)) ts rs e' k x z) x z = kU (puts V (t :: ts) (r :: rs) e) k x z
    rw [putC_eq, putsC_eq V ts rs]
    unfold puts
    show kU (put V t r e) _ x z = _
    generalize put V t r e = q
    cases q <;> rfl
/-! ### statements -/
abbrev Sc (ω : Type) := En → (Fl → En → ω) → (Exn → En → ω) → ω → ω
def okS (f : En → RE Fl) : Sc ω := fun e k x z => kRE (f e) k x z
def nxtC (o : ω → (En → ω) → ω) (k : Fl → En → ω) (z : ω) : ω := o z fun e => k .next e
theorem kRE_nxt (o : Option En) (k : Fl → En → ω) (x : Exn → En → ω) (z : ω) : kRE (nxt o) k x z = optK o z fun e => k .next e := by cases o <;> rfl
theorem kRE_unitF (r : RE Unit) (k : Fl → En → ω) (x : Exn → En → ω) (z : ω) : kRE (unitF r) k x z = kU r (fun e => k .next e) x z := by cases r <;> rfl
def seqSC (a b : Sc ω) : Sc ω := fun e k x z => a e (fun f e1 => match f with
  | .next => b e1 k x z
  | f => k f e1) x z
theorem seqSC_eq (fa fb : En → RE Fl) : seqSC (okS (ω := ω) fa) (okS fb) = okS fun e => seqE (fa e) fb := by
  funext e k x z
  show kRE (fa e) _ x z = kRE (seqE (fa e) fb) k x z
  generalize fa e = r
  cases r with
  | err => rfl
  | exn q e1 => rfl
  | ok f e1 => cases f <;> rfl
def iteSC (c : Bc ω) (a b : Sc ω) : Sc ω := fun e k x z => c e (fun t e1 => match t with | true => a e1 k x z | false => b e1 k x z) x z
theorem iteSC_eq (fc : En → RE Bool) (fa fb : En → RE Fl) : iteSC (okB (ω := ω) fc) (okS fa) (okS fb) = okS fun e => iteE (fc e) fa fb := by
  funext e k x z
  show kRE (fc e) _ x z = kRE (iteE (fc e) fa fb) k x z
  generalize fc e = ra
  cases ra with
  | err => rfl
  | exn q e1 => rfl
  | ok b e1 => cases b <;> rfl
def forC (p : Pt) (body : Sc ω) (xs : List W) : Sc ω := @List.rec W (fun _ => Sc ω) (fun e k _ _ => k .next e) (fun w _ ih e k x z => bindC p w e z fun e1 => body e1 (fun f e2 => match f with
  | .next => ih e2 k x z
  | .cont => ih e2 k x z
  | .brk => k .next e2
  | .ret fr w => k (.ret fr w) e2) x z) xs
theorem forC_eq (p : Pt) (fb : En → RE Fl) : ∀ xs : List W, forC p (okS (ω := ω) fb) xs = okS (forL (bindP p) fb xs)
  | [] => rfl
  | w :: xs => by
    funext e k x z
    show bindC p w e z (fun e1 => okS fb e1 (fun f e2 => match f with
      | .next => forC p (okS fb) xs e2 k x z
      | .cont => forC p (okS fb) xs e2 k x z
      | .brk => k .next e2
      | .ret fr w => k (.ret fr w) e2) x z) = kRE (forL (bindP p) fb (w :: xs) e) k x z
    rw [bindC_eq, forC_eq p fb xs]
    unfold forL
    cases bindP p w e with
    | none => rfl
    | some e1 =>
      show kRE (fb e1) _ x z = _
      dsimp only
      generalize fb e1 = r
      cases r with
      | err => rfl
      | exn q e2 => rfl
      | ok f e2 => cases f <;> rfl
def whileC (c : Bc ω) (body : Sc ω) (n : Nat) : Sc ω := @Nat.rec (fun _ => Sc ω) (fun _ _ _ z => z) (fun _ ih e k x z => c e (fun t e1 => match t with
  | true => body e1 (fun f e2 => match f with
    | .next => ih e2 k x z
    | .cont => ih e2 k x z
    | .brk => k .next e2
    | .ret fr w => k (.ret fr w) e2) x z
  | false => k .next e1) x z) n
theorem whileC_eq (fc : En → RE Bool) (fb : En → RE Fl) : ∀ n : Nat, whileC (okB (ω := ω) fc) (okS fb) n = okS (whileL fc fb n)
  | 0 => rfl
  | n + 1 => by
    funext e k x z
    show okB fc e (fun t e1 => match t with
      | true => okS fb e1 (fun f e2 => match f with
        | .next => whileC (okB fc) (okS fb) n e2 k x z
        | .cont => whileC (okB fc) (okS fb) n e2 k x z
        | .brk => k .next e2
        | .ret fr w => k (.ret fr w) e2) x z
      | false => k .next e1) x z = kRE (whileL fc fb (n + 1) e) k x z
    rw [whileC_eq fc fb n]
    unfold whileL
    show kRE (fc e) _ x z = _
    generalize fc e = r
    cases r with
    | err => rfl
    | exn q e1 => rfl
    | ok b e1 =>
      cases b with
      | false => rfl
      | true =>
        show kRE (fb e1) _ x z = _
        dsimp only
        generalize fb e1 = r
        cases r with
        | err => rfl
        | exn q e2 => rfl
        | ok f e2 => cases f <;> rfl
def retC (r : R1) (e : En) (k : Fl → En → ω) (z : ω) : ω := match r with
  | .w w => k (.ret false w) e
  | .f w => k (.ret true w) e
  | .s i => (match sl e i with
    | .v w => k (.ret false w) e
    | .o w => k (.ret true w) e
    | _ => z)
  | .l _ => z
theorem retC_eq (r : R1) (e : En) (k : Fl → En → ω) (x : Exn → En → ω) (z : ω) : retC r e k z = kRE (retE r e) k x z := by
  cases r with
  | s i =>
    unfold retC retE back
    dsimp only
    rw [sl_eq]
    generalize e[i]? = o
    cases o with
    | none => rfl
    | some s => cases s <;> rfl
  | _ => rfl
def augC (i : Nat) (o : BOp) (b : Ec ω) (r : R1) : Sc ω := fun e1 k x z => match r with
  | .w y => optK (mutAt i e1) z fun u => optK (ixW u y) z fun old => match old with
    | .int old => b e1 (fun r2 e2 => pkC r2 e2 z fun t => match t with
      | .int t => optK (augOp o old t) z fun new => fInt new fun new => chgX i (setX y (.int new)) e2 z fun e3 => k .next e3
      | _ => z) x z
    | _ => z
  | _ => z
theorem augC_eq (i : Nat) (o : BOp) (fb : En → RE R1) (r : R1) : augC i o (okC (ω := ω) fb) r = okS (augE i o fb r) := by
  funext e1 k x z
  show _ = kRE (augE i o fb r e1) k x z
  cases r with
  | w y =>
    unfold augC augE
    dsimp only
    cases mutAt i e1 with
    | none => rfl
    | some u =>
      dsimp only [optK]
      cases ixW u y with
      | none => rfl
      | some old =>
        dsimp only
        cases old with
        | int old =>
          show kRE (fb e1) _ x z = kRE (resE (fb e1) (augE2 i o old y)) k x z
          generalize fb e1 = rb
          cases rb with
          | err => rfl
          | exn q e2 => rfl
          | ok r2 e2 =>
            dsimp only [kRE]
            rw [pkC_eq]
            show _ = kRE (augE2 i o old y r2 e2) k x z
            unfold augE2
            cases peek r2 e2 with
            | none => rfl
            | some t =>
              cases t with
              | int t =>
                dsimp only [optK]
                cases augOp o old t with
                | none => rfl
                | some new =>
                  dsimp only [optK]
                  rw [fInt_eq, chgX_eq i (setX_eq y (.int new)), chgC_eq, kRE_nxt]
              | _ => rfl
        | _ => rfl
  | _ => rfl
variable (T : Tb) (K : Nat → List Sl → RF) (C : Kc ω)
def s_asgC (t : Tg) (a : E) : Sc ω := fun e k x z => evC T K C a e (fun r e1 => putC (fun b => evC T K C b) t r e1 (fun e2 => k .next e2) x z) x z
def s_parC (ts : List Tg) (es : E) : Sc ω := fun e k x z => rcC (evC T K C es) e (fun rs e1 => if noSB rs && rs.length == ts.length && decide (ts.length ≤ 100) then putsC (fun b => evC T K C b) ts rs e1 (fun e2 => k .next e2) x z else z) x z
def s_hasC (i : Nat) (a : Sc ω) : Sc ω := fun e k x z => hasK (α := Fl) i e z (a e k x z)
def s_hasL (i : Nat) (a : Sc ω) : Sc ω := fun e k x z => match mutAt i e with
  | some (.lst _) => a e k x z
  | _ => z
def s_mutC (i : Nat) (g : W → W → ω → (W → ω) → ω) (a : E) : Sc ω := s_hasL i fun e k x z => evC T K C a e (fun r e1 => useC r e1 z fun w e2 => chgX i (g w) e2 z fun e3 => k .next e3) x z
def exC (s : S) : Sc ω := @S.rec (fun _ => Sc ω)
  (fun t a => s_asgC T K C t a) (fun ts es => s_parC T K C ts es)
  (fun i o a b => s_hasC i fun e k x z => evC T K C a e (fun r e1 => augC i o (evC T K C b) r e1 k x z) x z)
  (fun i a => s_mutC T K C i appX a) (fun i a => s_mutC T K C i extX a)
  (fun a e k x z => evC T K C a e (fun _ e1 => k .next e1) x z) (fun a e k x z => evC T K C a e (fun r e1 => retC r e1 k z) x z)
  (fun c _ _ a b => iteSC (tstC (evC T K C c)) a b) (fun p it _ b e k x z => itC (evC T K C it) e (fun xs e1 => forC p b xs e1 k x z) x z)
  (fun c _ b => whileC (tstC (evC T K C c)) b fuel) (fun c e _ x _ => x ⟨c, none⟩ e) (fun c a => okS (ex T K (.raiseF c a)))
  (fun _ hs b e k x z => b e k (fun q e1 => if T.xcl q.cls then (match catch_ q hs with
    | some (some w) => k (.ret false w) e1
    | some none => z
    | none => x q e1) else z) z)
  (fun e k _ _ => k .next e) (fun e k _ _ => k .brk e) (fun e k _ _ => k .cont e) (fun e k _ _ => k .next e) (fun _ _ a b => seqSC a b) s
theorem s_hasL_eq {i : Nat} (f : En → RE Fl) : s_hasL i (okS (ω := ω) f) = okS fun e => hasL i e (f e) := by
  funext e k x z
  show _ = kRE (hasL i e (f e)) k x z
  unfold s_hasL hasL
  cases mutAt i e with
  | none => rfl
  | some u => cases u <;> rfl
theorem mutC_eq (i : Nat) (g : W → W → Option W) (G : W → W → ω → (W → ω) → ω) (hG : ∀ u w z k, G u w z k = optK (g u w) z k) (a : E) (fa : En → RE R1) (h : evC T K C a = okC fa) : s_mutC T K C i G a = okS fun e => hasL i e (valE (fa e) fun w e2 => nxt (chg i (g w) e2)) := by
  have q : (fun (e : En) (k : Fl → En → ω) (x : Exn → En → ω) (z : ω) => evC T K C a e (fun r e1 => useC r e1 z fun w e2 => chgX i (G w) e2 z fun e3 => k .next e3) x z) = okS fun e => valE (fa e) fun w e2 => nxt (chg i (g w) e2) := by
    funext e k x z
    rw [h]
    show kRE (fa e) _ x z = kRE (valE (fa e) _) k x z
    generalize fa e = ra
    cases ra with
    | err => rfl
    | exn q e1 => rfl
    | ok r e1 =>
      dsimp only [kRE]
      rw [useC_eq]
      show _ = kRE (valE (.ok r e1) _) k x z
      unfold valE
      dsimp only
      cases use r e1 with
      | none => rfl
      | some u =>
        obtain ⟨w, e2⟩ := u
        dsimp only [optK]
        rw [chgX_eq i (hG _), chgC_eq, kRE_nxt]
  unfold s_mutC
  rw [q, s_hasL_eq]
theorem ex_while (c : E) (b : S) : ex T K (.while c b) = whileL (fun e => tst (ev T K c e)) (ex T K b) fuel := funext fun e => rfl
theorem exC_while (c : E) (b : S) : exC T K C (.while c b) = whileC (tstC (evC T K C c)) (exC T K C b) fuel := rfl
theorem exC_eq (hC : C = okF K) : ∀ s : S, exC T K C s = okS (ex T K s) := by
  have hv : ∀ a, evC T K C a = okC (ev T K a) := evC_eq T K C hC
  have hV : (fun b => evC T K C b) = fun b => okC (ev T K b) := funext hv
  intro s
  induction s with
  | asg t a =>
    funext e k x z
    show s_asgC T K C t a e k x z = kRE (resE (ev T K a e) fun r e1 => unitF (put (ev T K) t r e1)) k x z
    unfold s_asgC
    rw [hv, hV]
    show kRE (ev T K a e) _ x z = _
    generalize ev T K a e = ra
    cases ra with
    | err => rfl
    | exn q e1 => rfl
    | ok r e1 =>
      show putC (fun b => okC (ev T K b)) t r e1 _ x z = kRE (unitF (put (ev T K) t r e1)) k x z
      rw [putC_eq, kRE_unitF]; rfl
  | par ts es =>
    funext e k x z
    show s_parC T K C ts es e k x z = kRE (rsE (ev T K es e) (parE (ev T K) ts)) k x z
    unfold s_parC
    rw [hv, hV, rcC_eq]
    show kRE (rsE (ev T K es e) _) _ x z = _
    generalize ev T K es e = ra
    cases ra with
    | err => rfl
    | exn q e1 => rfl
    | ok r e1 =>
      cases r with
      | l rs =>
        show (if _ then putsC (fun b => okC (ev T K b)) ts rs e1 _ x z else z) = kRE (parE (ev T K) ts rs e1) k x z
        unfold parE
        by_cases h : (noSB rs && rs.length == ts.length && decide (ts.length ≤ 100)) = true
        · rw [if_pos h, if_pos h, putsC_eq, kRE_unitF]; rfl
        · rw [if_neg h, if_neg h]; rfl
      | _ => rfl
  | aug i o a b =>
    funext e k x z
    show hasK (α := Fl) i e z (evC T K C a e (fun r e1 => augC i o (evC T K C b) r e1 k x z) x z) = kRE (hasE i e (resE (ev T K a e) (augE i o (ev T K b)))) k x z
    have h : evC T K C a e (fun r e1 => augC i o (evC T K C b) r e1 k x z) x z = (fun q => kRE q k x z) (resE (ev T K a e) (augE i o (ev T K b))) := by
      rw [hv, hv]
      show kRE (ev T K a e) _ x z = kRE (resE (ev T K a e) _) k x z
      generalize ev T K a e = ra
      cases ra with
      | err => rfl
      | exn q e1 => rfl
      | ok r e1 =>
        show augC i o (okC (ev T K b)) r e1 k x z = _
        rw [augC_eq]; rfl
    rw [h]
    exact hasK_eq i e (resE (ev T K a e) (augE i o (ev T K b))) (fun q => kRE q k x z) z rfl
  | app i a => exact mutC_eq T K C i appW appX appX_eq a _ (hv a)
  | ext i a => exact mutC_eq T K C i extW extX extX_eq a _ (hv a)
  | expr a =>
    funext e k x z
    show evC T K C a e (fun _ e1 => k .next e1) x z = kRE (resE (ev T K a e) _) k x z
    rw [hv]
    show kRE (ev T K a e) _ x z = _
    generalize ev T K a e = ra
    cases ra <;> rfl
  | ret a =>
    funext e k x z
    show evC T K C a e (fun r e1 => retC r e1 k z) x z = kRE (resE (ev T K a e) retE) k x z
    rw [hv]
    show kRE (ev T K a e) _ x z = _
    generalize ev T K a e = ra
    cases ra with
    | err => rfl
    | exn q e1 => rfl
    | ok r e1 => exact retC_eq r e1 k x z
  | ite c a b ha hb => show iteSC (tstC (evC T K C c)) (exC T K C a) (exC T K C b) = _; rw [hv, ha, hb, tstC_eq, iteSC_eq]; rfl
  | «for» p it b hb =>
    funext e k x z
    show itC (evC T K C it) e (fun xs e1 => forC p (exC T K C b) xs e1 k x z) x z = kRE (itE (asItems (ev T K it e)) (forL (bindP p) (ex T K b))) k x z
    rw [hv, hb, itC_eq]
    show kRE (asItems (ev T K it e)) _ x z = _
    generalize asItems (ev T K it e) = ra
    cases ra with
    | err => rfl
    | exn q e1 => rfl
    | ok xs e1 =>
      show forC p (okS (ex T K b)) xs e1 k x z = _
      rw [forC_eq]; rfl
  | «while» c b hb => rw [exC_while, ex_while, hv, hb, tstC_eq, whileC_eq]
  | raise c => rfl
  | raiseF c a => rfl
  | «try» b hs hb =>
    funext e k x z
    show exC T K C b e k (fun q e1 => if T.xcl q.cls then (match catch_ q hs with
      | some (some w) => k (.ret false w) e1
      | some none => z
      | none => x q e1) else z) z = kRE (tryE T.xcl (ex T K b e) hs) k x z
    rw [hb]
    show kRE (ex T K b e) k _ z = _
    generalize ex T K b e = ra
    cases ra with
    | err => rfl
    | ok f e1 => rfl
    | exn q e1 =>
      unfold tryE
      dsimp only [kRE]
      by_cases h : T.xcl q.cls = true
      · rw [if_pos h, if_pos h]
        cases catch_ q hs with
        | none => rfl
        | some o => cases o <;> rfl
      · rw [if_neg h, if_neg h]
  | pass => rfl
  | brk => rfl
  | cont => rfl
  | nil => rfl
  | cons a b ha hb => show seqSC (exC T K C a) (exC T K C b) = _; rw [ha, hb, seqSC_eq]; rfl
def finC (io : Bool) (s : Sc ω) (e : En) (k : Bool → W → Sl → ω) (x : Exn → Sl → ω) (z : ω) : ω := s e (fun f e1 => match f with
  | .next => optK (endS io e1) z fun t => k false .non t
  | .ret fr w => optK (endS io e1) z fun t => k fr w t
  | _ => z) (fun q e1 => optK (endS io e1) z fun t => x q t) z
theorem finC_eq (io : Bool) (f : En → RE Fl) (e : En) (k : Bool → W → Sl → ω) (x : Exn → Sl → ω) (z : ω) : finC io (okS f) e k x z = kRF (fin io (f e)) k x z := by
  show kRE (f e) _ _ z = _
  unfold fin
  generalize f e = r
  cases r with
  | err => rfl
  | exn q e1 =>
    dsimp only [kRE]
    cases endS io e1 <;> rfl
  | ok fl e1 =>
    cases fl with
    | brk => rfl
    | cont => rfl
    | next =>
      dsimp only [kRE]
      cases endS io e1 <;> rfl
    | ret fr w =>
      dsimp only [kRE]
      cases endS io e1 <;> rfl
def run1C (P : Nat → Option FD) : Kc ω := fun f args k x z => match P f with
  | some d => if args.length = d.np then appC (List.replicate (d.ns - d.np) Sl.n) args fun e => fSp e fun e => finC (isP args) (exC T K C d.body) e k x z else z
  | none => z
def runC (P : Nat → Option FD) (n : Nat) : Kc ω := @Nat.rec (fun _ => Kc ω) (fun _ _ _ _ z => z) (fun n C => run1C T (run T P n) C P) n
theorem runC_eq (P : Nat → Option FD) : ∀ n, runC (ω := ω) T P n = okF (run T P n)
  | 0 => rfl
  | n + 1 => by
    funext f args k x z
    show run1C T (run T P n) (runC T P n) P f args k x z = kRF (run T P (n + 1) f args) k x z
    rw [runC_eq P n]
    unfold run1C run
    cases P f with
    | none => rfl
    | some d =>
      dsimp only
      by_cases h : args.length = d.np
      · rw [if_pos h, if_pos h, appC_eq, fSp_eq, exC_eq T (run T P n) (okF (run T P n)) rfl, finC_eq]
      · rw [if_neg h, if_neg h]; rfl
/-- what a run gives, by evaluation -/
theorem run_by (P : Nat → Option FD) (n f : Nat) (args : List Sl) (t : RF → Bool) (h : runC (ω := Bool) T P n f args (fun fr w s => t (.ok fr w s)) (fun q s => t (.exn q s)) (t .err) = true) : t (run T P n f args) = true := by
  rw [runC_eq] at h
  unfold okF at h
  cases hr : run T P n f args with
  | err => rw [hr] at h; exact h
  | exn q s => rw [hr] at h; exact h
  | ok fr w s => rw [hr] at h; exact h
end
end Iv
end

section
set_option linter.all false
set_option autoImplicit false
set_option maxRecDepth 100000
namespace Iv
noncomputable section
variable {ω : Type}
def bin_add (u v : W) (z : ω) (k : R1 → ω) : ω := addK (genK (binW .add) u v z k) u v k
def bin_sub (u v : W) (z : ω) (k : R1 → ω) : ω := subK (genK (binW .sub) u v z k) u v k
def bin_mul (u v : W) (z : ω) (k : R1 → ω) : ω := mulK (genK (binW .mul) u v z k) u v k
def bin_fdiv (u v : W) (z : ω) (k : R1 → ω) : ω := divK (genK (binW .fdiv) u v z k) u v k
def bin_mod (u v : W) (z : ω) (k : R1 → ω) : ω := modK (genK (binW .mod) u v z k) u v k
def cm_eq (k : R1 → ω) (n m : Nat) : ω := blK (Nat.beq n m) k
def cmp_eq (u v : W) (z : ω) (k : R1 → ω) : ω := iiK u v (genK (cmpF .eq) u v z k) fun i j => nnK i j (genK (cmpF .eq) u v z k) (cm_eq k)
def cm_ne (k : R1 → ω) (n m : Nat) : ω := blK (!Nat.beq n m) k
def cmp_ne (u v : W) (z : ω) (k : R1 → ω) : ω := iiK u v (genK (cmpF .ne) u v z k) fun i j => nnK i j (genK (cmpF .ne) u v z k) (cm_ne k)
def cm_lt (k : R1 → ω) (n m : Nat) : ω := blK (Nat.ble (Nat.succ n) m) k
def cmp_lt (u v : W) (z : ω) (k : R1 → ω) : ω := iiK u v (genK (cmpF .lt) u v z k) fun i j => nnK i j (genK (cmpF .lt) u v z k) (cm_lt k)
def cm_le (k : R1 → ω) (n m : Nat) : ω := blK (Nat.ble n m) k
def cmp_le (u v : W) (z : ω) (k : R1 → ω) : ω := iiK u v (genK (cmpF .le) u v z k) fun i j => nnK i j (genK (cmpF .le) u v z k) (cm_le k)
def cm_gt (k : R1 → ω) (n m : Nat) : ω := blK (Nat.ble (Nat.succ m) n) k
def cmp_gt (u v : W) (z : ω) (k : R1 → ω) : ω := iiK u v (genK (cmpF .gt) u v z k) fun i j => nnK i j (genK (cmpF .gt) u v z k) (cm_gt k)
def cm_ge (k : R1 → ω) (n m : Nat) : ω := blK (Nat.ble m n) k
def cmp_ge (u v : W) (z : ω) (k : R1 → ω) : ω := iiK u v (genK (cmpF .ge) u v z k) fun i j => nnK i j (genK (cmpF .ge) u v z k) (cm_ge k)
def cmp_inn (u v : W) (z : ω) (k : R1 → ω) : ω := inK false (genK (cmpF .inn) u v z k) u v k
def cmp_nin (u v : W) (z : ω) (k : R1 → ω) : ω := inK true (genK (cmpF .nin) u v z k) u v k
def cmp_is (u v : W) (z : ω) (k : R1 → ω) : ω := genK (cmpF .is) u v z k
def cmp_isn (u v : W) (z : ω) (k : R1 → ω) : ω := genK (cmpF .isn) u v z k
def kC (w : W) : Ec ω := fun e k _ _ => k (.w w) e
def d0C (t : Bool) : Ec ω := fun e k _ _ => k (.f (if t then .dT [] [] else .dK [] [])) e
def nilC : Ec ω := fun e k _ _ => k (.l []) e
def g_asg (p : R1 → Uc ω) (a : Ec ω) : Sc ω := fun e k x z => a e (fun r e1 => p r e1 (fun e2 => k .next e2) x z) x z
def gputs : List (R1 → Uc ω) → List R1 → Uc ω
  | [] => fun rs e k x z => match rs with
    | [] => k e
    | _ => z
  | t :: ts => fun rs e k x z => match rs with
    | r :: rs => t r e (fun e' => gputs ts rs e' k x z) x z
    | [] => z
def g_par (ts : List (R1 → Uc ω)) (es : Ec ω) : Sc ω := fun e k x z => rcC es e (fun rs e1 => if noSB rs && rs.length == ts.length && decide (ts.length ≤ 100) then gputs ts rs e1 (fun e2 => k .next e2) x z else z) x z
def g_aug (i : Nat) (o : BOp) (a b : Ec ω) : Sc ω := s_hasC i fun e k x z => a e (fun r e1 => augC i o b r e1 k x z) x z
def g_mut (i : Nat) (g : W → W → ω → (W → ω) → ω) (a : Ec ω) : Sc ω := s_hasL i fun e k x z => a e (fun r e1 => useC r e1 z fun w e2 => chgX i (g w) e2 z fun e3 => k .next e3) x z
def g_expr (a : Ec ω) : Sc ω := fun e k x z => a e (fun _ e1 => k .next e1) x z
def g_ret (a : Ec ω) : Sc ω := fun e k x z => a e (fun r e1 => retC r e1 k z) x z
def g_for (p : Pt) (it : Ec ω) (b : Sc ω) : Sc ω := fun e k x z => itC it e (fun xs e1 => forC p b xs e1 k x z) x z
def g_raise (c : Nat) : Sc ω := fun e _ x _ => x ⟨c, none⟩ e
def g_try (T : Tb) (b : Sc ω) (hs : List (Nat × Option Nat × HE)) : Sc ω := fun e k x z => b e k (fun q e1 => if T.xcl q.cls then (match catch_ q hs with
    | some (some w) => k (.ret false w) e1
    | some none => z
    | none => x q e1) else z) z
def g_nil : Sc ω := fun e k _ _ => k .next e
def g_brk : Sc ω := fun e k _ _ => k .brk e
def g_cont : Sc ω := fun e k _ _ => k .cont e
def run1G (CP : Kc ω → Nat → Option (Nat × Nat × Sc ω)) (C : Kc ω) : Kc ω := fun f args k x z => match CP C f with
  | some (np, ns, b) => if args.length = np then appC (List.replicate (ns - np) Sl.n) args fun e => fSp e fun e => finC (isP args) b e k x z else z
  | none => z
def runG (CP : Kc ω → Nat → Option (Nat × Nat × Sc ω)) (n : Nat) : Kc ω := @Nat.rec (fun _ => Kc ω) (fun _ _ _ _ z => z) (fun _ C => run1G CP C) n
theorem runG_eq (T : Tb) (P : Nat → Option FD) (CP : Kc ω → Nat → Option (Nat × Nat × Sc ω)) (h : ∀ C K f, CP C f = (P f).map fun d => (d.np, d.ns, exC T K C d.body)) : ∀ n, runG CP n = okF (run T P n)
  | 0 => rfl
  | n + 1 => by
    rw [← runC_eq T P (n + 1)]
    funext f args k x z
    show run1G CP (runG CP n) f args k x z = run1C T (run T P n) (runC T P n) P f args k x z
    rw [runG_eq T P CP h n, ← runC_eq T P n]
    unfold run1G run1C
    rw [h (runC T P n) (run T P n) f]
    cases P f <;> rfl
end
end Iv
end

section
set_option linter.all false
set_option maxRecDepth 100000
namespace K26
open Iv
noncomputable section
variable {ω : Type}
def g_is_integer (C : Kc ω) : Sc ω := (seqSC (g_ret (andC (un1C (fun x => bl (isTys [.int] x)) (evVC 0)) (notC (tstC (un1C (fun x => bl (isTys [.bool] x)) (evVC 0)))))) g_nil)
theorem e_is_integer (C : Kc ω) (K : Nat → List Sl → RF) : exC T K C f_is_integer.body = g_is_integer C := rfl
def g_is_count (C : Kc ω) : Sc ω := (seqSC (g_ret (andC (argsC (rcC (lrC (consC (evVC 0) (rcC nilC)))) (callC C 0)) (cmp2C (cmpW .le) (cmpW .le) (evVC 1) (evVC 0) (evVC 2)))) g_nil)
theorem e_is_count (C : Kc ω) (K : Nat → List Sl → RF) : exC T K C f_is_count.body = g_is_count C := rfl
def g_check_count (C : Kc ω) : Sc ω := (seqSC (iteSC (tstC (notC (tstC (argsC (rcC (lrC (consC (evVC 0) (rcC (lrC (consC (evVC 1) (rcC (lrC (consC (evVC 2) (rcC nilC)))))))))) (callC C 1))))) (seqSC (g_raise 1) g_nil) g_nil) g_nil)
theorem e_check_count (C : Kc ω) (K : Nat → List Sl → RF) : exC T K C f_check_count.body = g_check_count C := rfl
def g_is_whole_row (C : Kc ω) : Sc ω := (seqSC (g_ret (andC (un1C (fun x => bl (isTys [.tuple] x)) (evVC 0)) (un1C (b1W .all) (runLC [1] (itC (evVC 0)) (turnC [1] (.n 1) (condC true nilC) (elC (argsC (rcC (lrC (consC (evVC 1) (rcC nilC)))) (callC C 0)))))))) g_nil)
theorem e_is_whole_row (C : Kc ω) (K : Nat → List Sl → RF) : exC T K C f_is_whole_row.body = g_is_whole_row C := rfl
def g_partitions (C : Kc ω) : Sc ω := (seqSC (g_ret (un1C (b1W .tuple) (argsC (rcC (lrC (consC (evVC 0) (rcC (lrC (consC (evVC 0) (rcC nilC))))))) (callC C 5)))) g_nil)
theorem e_partitions (C : Kc ω) (K : Nat → List Sl → RF) : exC T K C f_partitions.body = g_partitions C := rfl
def g_partitions_below (C : Kc ω) : Sc ω := (seqSC (iteSC (tstC (op2C cmp_eq (evVC 0) (kC (.int 0)))) (seqSC (g_ret (argsC (rcC (lrC (consC (argsC (rcC nilC) tupC) (rcC nilC)))) lstC)) g_nil) g_nil) (seqSC (g_asg (putPC (.n 2)) (argsC (rcC nilC) lstC)) (seqSC (g_for (.n 3) (un3C (fun x y z => lOf (rng3F x y z)) (un2C (b2W .min) (evVC 0) (evVC 1)) (kC (.int 0)) (un1C negF (kC (.int 1)))) (seqSC (g_mut 2 extX (runLC [4] (itC (argsC (rcC (lrC (consC (op2C bin_sub (evVC 0) (evVC 3)) (rcC (lrC (consC (evVC 3) (rcC nilC))))))) (callC C 5))) (turnC [4] (.n 4) (condC true nilC) (elC (op2C bin_add (argsC (rcC (lrC (consC (evVC 3) (rcC nilC)))) tupC) (evVC 4)))))) g_nil)) (seqSC (g_ret (evVC 2)) g_nil))))
theorem e_partitions_below (C : Kc ω) (K : Nat → List Sl → RF) : exC T K C f_partitions_below.body = g_partitions_below C := rfl
def g_times (C : Kc ω) : Sc ω := (seqSC (g_ret (un1C (b1W .tuple) (runLC [2] (itC (evVC 0)) (turnC [2] (.n 2) (condC true nilC) (elC (op2C ixK (evVC 1) (evVC 2))))))) g_nil)
theorem e_times (C : Kc ω) (K : Nat → List Sl → RF) : exC T K C f_times.body = g_times C := rfl
def g_rounds (C : Kc ω) : Sc ω := (seqSC (g_par [(putPC (.n 2)), (putPC (.n 3))] (lrC (consRC (d0C false) (rcC (lrC (consRC (argsC (rcC nilC) lstC) (rcC nilC))))))) (seqSC (g_for (.n 1) (un1C (fun x => lOf (rngF x)) (un1C (b1W .len) (evVC 0))) (seqSC (iteSC (tstC (op2C cmp_nin (evVC 1) (evVC 2))) (seqSC (g_par [(putPC (.n 4)), (putPC (.n 5))] (lrC (consRC (argsC (rcC nilC) lstC) (rcC (lrC (consRC (evVC 1) (rcC nilC))))))) (seqSC (whileC (tstC (op2C cmp_nin (evVC 5) (evVC 2))) (seqSC (g_asg (putSC 2 (evVC 5)) (kC (.bl true))) (seqSC (g_mut 4 appX (evVC 5)) (seqSC (g_asg (putPC (.n 5)) (op2C ixK (evVC 0) (evVC 5))) g_nil))) fuel) (seqSC (g_mut 3 appX (un1C (b1W .tuple) (evVC 4))) g_nil))) g_nil) g_nil)) (seqSC (g_ret (un1C (b1W .tuple) (evVC 3))) g_nil)))
theorem e_rounds (C : Kc ω) (K : Nat → List Sl → RF) : exC T K C f_rounds.body = g_rounds C := rfl
def g_round_number (C : Kc ω) : Sc ω := (seqSC (g_ret (un1C (b1W .len) (argsC (rcC (lrC (consC (evVC 0) (rcC nilC)))) (callC C 7)))) g_nil)
theorem e_round_number (C : Kc ω) (K : Nat → List Sl → RF) : exC T K C f_round_number.body = g_round_number C := rfl
def g_kind (C : Kc ω) : Sc ω := (seqSC (g_ret (un1C (b1W .tuple) (un1C revW (un1C (b1W .sorted) (runLC [1] (itC (argsC (rcC (lrC (consC (evVC 0) (rcC nilC)))) (callC C 7))) (turnC [1] (.n 1) (condC true nilC) (elC (un1C (b1W .len) (evVC 1))))))))) g_nil)
theorem e_kind (C : Kc ω) (K : Nat → List Sl → RF) : exC T K C f_kind.body = g_kind C := rfl
def g_of_rounds (C : Kc ω) : Sc ω := (seqSC (g_expr (argsC (rcC (lrC (consC (evVC 1) (rcC (lrC (consC (kC (.int 0)) (rcC (lrC (consC (kC (.int 60)) (rcC nilC)))))))))) (callC C 2))) (seqSC (iteSC (tstC (orC (notC (tstC (un1C (fun x => bl (isTys [.list, .tuple] x)) (evVC 0)))) (notC (tstC (un1C (b1W .all) (runLC [4] (itC (evVC 0)) (turnC [4] (.n 4) (condC true nilC) (elC (argsC (rcC (lrC (consC (evVC 4) (rcC nilC)))) (callC C 3)))))))))) (seqSC (g_raise 1) g_nil) g_nil) (seqSC (g_asg (putPC (.n 2)) (runLC [4, 5] (itC (evVC 0)) (turnC [4, 5] (.n 4) (condC true nilC) (el2C [5] (itC (evVC 4)) (turnC [5] (.n 5) (condC true nilC) (elC (evVC 5))))))) (seqSC (iteSC (tstC (orC (op2C cmp_ne (un1C (b1W .len) (runDC [5] (itC (evVC 2)) (turnC [5] (.n 5) (condC true nilC) (elDC (evVC 5) (kC (.bl true)))))) (un1C (b1W .len) (evVC 2))) (notC (tstC (un1C (b1W .all) (runLC [5] (itC (evVC 2)) (turnC [5] (.n 5) (condC true nilC) (elC (cmp2C (cmpW .le) (cmpW .lt) (kC (.int 0)) (evVC 5) (evVC 1)))))))))) (seqSC (g_raise 1) g_nil) g_nil) (seqSC (g_asg (putPC (.n 3)) (un1C (fun x => (rngS x).map fun l => .f (.lst l)) (evVC 1))) (seqSC (g_for (.n 4) (evVC 0) (seqSC (g_for (.t2 (.n 6) (.n 5)) (enuC (evVC 4)) (seqSC (g_asg (putSC 3 (evVC 5)) (op2C ixK (evVC 4) (op2C bin_mod (op2C bin_add (evVC 6) (kC (.int 1))) (un1C (b1W .len) (evVC 4))))) g_nil)) g_nil)) (seqSC (g_ret (un1C (b1W .tuple) (evVC 3))) g_nil)))))))
theorem e_of_rounds (C : Kc ω) (K : Nat → List Sl → RF) : exC T K C f_of_rounds.body = g_of_rounds C := rfl
def g_pairings (C : Kc ω) : Sc ω := (seqSC (g_expr (argsC (rcC (lrC (consC (evVC 0) (rcC (lrC (consC (kC (.int 0)) (rcC (lrC (consC (kC (.int 6)) (rcC nilC)))))))))) (callC C 2))) (seqSC (g_ret (un1C (b1W .tuple) (runLC [1] (itC (argsC (rcC (lrC (consC (un1C (fun x => (rngS x).map fun l => .w (.tup l)) (op2C bin_mul (kC (.int 2)) (evVC 0))) (rcC nilC)))) (callC C 12))) (turnC [1] (.n 1) (condC true nilC) (elC (argsC (rcC (lrC (consC (evVC 1) (rcC (lrC (consC (op2C bin_mul (kC (.int 2)) (evVC 0)) (rcC nilC))))))) (callC C 10))))))) g_nil))
theorem e_pairings (C : Kc ω) (K : Nat → List Sl → RF) : exC T K C f_pairings.body = g_pairings C := rfl
def g_pair_rows (C : Kc ω) : Sc ω := (seqSC (iteSC (tstC (op2C cmp_eq (un1C (b1W .len) (evVC 0)) (kC (.int 0)))) (seqSC (g_ret (argsC (rcC (lrC (consC (argsC (rcC nilC) lstC) (rcC nilC)))) lstC)) g_nil) g_nil) (seqSC (g_asg (putPC (.n 1)) (argsC (rcC nilC) lstC)) (seqSC (g_for (.n 2) (un2C (fun x y => lOf (rng2F x y)) (kC (.int 1)) (un1C (b1W .len) (evVC 0))) (seqSC (g_asg (putPC (.n 3)) (op2C bin_add (slC (evVC 0) (partC false (kC (.int 1))) (partC false (evVC 2))) (slC (evVC 0) (partC false (op2C bin_add (evVC 2) (kC (.int 1)))) (partC true nilC)))) (seqSC (g_mut 1 extX (runLC [4] (itC (argsC (rcC (lrC (consC (evVC 3) (rcC nilC)))) (callC C 12))) (turnC [4] (.n 4) (condC true nilC) (elC (op2C bin_add (argsC (rcC (lrC (consC (argsC (rcC (lrC (consC (op2C ixK (evVC 0) (kC (.int 0))) (rcC (lrC (consC (op2C ixK (evVC 0) (evVC 2)) (rcC nilC))))))) tupC) (rcC nilC)))) lstC) (evVC 4)))))) g_nil))) (seqSC (g_ret (evVC 1)) g_nil))))
theorem e_pair_rows (C : Kc ω) (K : Nat → List Sl → RF) : exC T K C f_pair_rows.body = g_pair_rows C := rfl
def g_glue_by_steps (C : Kc ω) : Sc ω := (seqSC (g_expr (argsC (rcC (lrC (consC (evVC 0) (rcC (lrC (consC (kC (.int 0)) (rcC (lrC (consC (kC (.int 30)) (rcC nilC)))))))))) (callC C 2))) (seqSC (g_asg (putPC (.n 1)) (argsC (rcC (lrC (consC (argsC (rcC (lrC (consC (kC (.int 1)) (rcC nilC)))) lstC) (rcC (lrC (consC (argsC (rcC (lrC (consC (kC (.int 1)) (rcC nilC)))) lstC) (rcC nilC))))))) lstC)) (seqSC (g_for (.n 2) (un2C (fun x y => lOf (rng2F x y)) (kC (.int 2)) (op2C bin_add (evVC 0) (kC (.int 1)))) (seqSC (g_asg (putPC (.n 3)) (argsC (rcC nilC) lstC)) (seqSC (g_for (.n 4) (un1C (fun x => lOf (rngF x)) (op2C bin_add (op2C bin_fdiv (evVC 2) (kC (.int 2))) (kC (.int 1)))) (seqSC (g_asg (putPC (.n 5)) (iteC (tstC (op2C cmp_lt (evVC 4) (un1C (b1W .len) (op2C ixK (evVC 1) (op2C bin_sub (evVC 2) (kC (.int 1))))))) (op2C ixK (op2C ixK (evVC 1) (op2C bin_sub (evVC 2) (kC (.int 1)))) (evVC 4)) (kC (.int 0)))) (seqSC (g_asg (putPC (.n 6)) (iteC (tstC (cmp2C (cmpW .le) (cmpW .le) (kC (.int 1)) (evVC 4) (un1C (b1W .len) (op2C ixK (evVC 1) (op2C bin_sub (evVC 2) (kC (.int 2))))))) (op2C ixK (op2C ixK (evVC 1) (op2C bin_sub (evVC 2) (kC (.int 2)))) (op2C bin_sub (evVC 4) (kC (.int 1)))) (kC (.int 0)))) (seqSC (g_mut 3 appX (op2C bin_fdiv (op2C bin_add (op2C bin_mul (op2C bin_mul (kC (.int 2)) (op2C bin_sub (op2C bin_mul (kC (.int 2)) (evVC 2)) (kC (.int 1)))) (evVC 5)) (op2C bin_mul (op2C bin_mul (op2C bin_mul (op2C bin_sub (op2C bin_mul (kC (.int 2)) (evVC 2)) (kC (.int 1))) (op2C bin_sub (evVC 2) (kC (.int 1)))) (op2C bin_sub (op2C bin_mul (kC (.int 2)) (evVC 2)) (kC (.int 3)))) (evVC 6))) (op2C bin_add (evVC 2) (kC (.int 1))))) g_nil)))) (seqSC (g_mut 1 appX (evVC 3)) g_nil)))) (seqSC (g_ret (un1C (b1W .tuple) (op2C ixK (evVC 1) (evVC 0)))) g_nil))))
theorem e_glue_by_steps (C : Kc ω) (K : Nat → List Sl → RF) : exC T K C f_glue_by_steps.body = g_glue_by_steps C := rfl
def g_glue_many (C : Kc ω) : Sc ω := (seqSC (g_expr (argsC (rcC (lrC (consC (evVC 0) (rcC nilC)))) (callC C 15))) (seqSC (g_asg (putPC (.n 1)) (argsC (rcC (lrC (consC (evVC 0) (rcC nilC)))) (callC C 16))) (seqSC (g_asg (putPC (.n 2)) (op2C bin_fdiv (un1C (b1W .sum) (evVC 0)) (kC (.int 2)))) (seqSC (g_asg (putPC (.n 3)) (op2C bin_mul (argsC (rcC (lrC (consC (kC (.int 0)) (rcC nilC)))) lstC) (op2C bin_add (op2C bin_mul (kC (.int 2)) (evVC 2)) (kC (.int 1))))) (seqSC (g_for (.n 4) (argsC (rcC (lrC (consC (evVC 2) (rcC nilC)))) (callC C 11)) (seqSC (g_aug 3 .add (argsC (rcC (lrC (consC (argsC (rcC (lrC (consC (evVC 4) (rcC (lrC (consC (evVC 1) (rcC nilC))))))) (callC C 6)) (rcC nilC)))) (callC C 8)) (kC (.int 1))) g_nil)) (seqSC (g_ret (un1C (b1W .tuple) (evVC 3))) g_nil))))))
theorem e_glue_many (C : Kc ω) (K : Nat → List Sl → RF) : exC T K C f_glue_many.body = g_glue_many C := rfl
def g_check_sides (C : Kc ω) : Sc ω := (seqSC (iteSC (tstC (orC (notC (tstC (argsC (rcC (lrC (consC (evVC 0) (rcC nilC)))) (callC C 3)))) (orC (notC (tstC (un1C (b1W .all) (runLC [1] (itC (evVC 0)) (turnC [1] (.n 1) (condC true nilC) (elC (op2C cmp_ge (evVC 1) (kC (.int 1))))))))) (op2C cmp_gt (un1C (b1W .sum) (evVC 0)) (kC (.int 12)))))) (seqSC (g_raise 1) g_nil) g_nil) (seqSC (iteSC (tstC (orC (op2C cmp_ne (op2C bin_mod (un1C (b1W .sum) (evVC 0)) (kC (.int 2))) (kC (.int 0))) (op2C cmp_nin (evVC 0) (argsC (rcC (lrC (consC (un1C (b1W .sum) (evVC 0)) (rcC nilC)))) (callC C 4))))) (seqSC (g_raise 1) g_nil) g_nil) g_nil))
theorem e_check_sides (C : Kc ω) (K : Nat → List Sl → RF) : exC T K C f_check_sides.body = g_check_sides C := rfl
def g_many_order (C : Kc ω) : Sc ω := (seqSC (g_par [(putPC (.n 2)), (putPC (.n 3))] (lrC (consRC (argsC (rcC nilC) lstC) (rcC (lrC (consRC (kC (.int 0)) (rcC nilC))))))) (seqSC (g_for (.n 1) (evVC 0) (seqSC (g_mut 2 extX (runLC [4] (itC (un1C (fun x => lOf (rngF x)) (evVC 1))) (turnC [4] (.n 4) (condC true nilC) (elC (op2C bin_add (evVC 3) (op2C bin_mod (op2C bin_add (evVC 4) (kC (.int 1))) (evVC 1))))))) (seqSC (g_asg (putPC (.n 3)) (op2C bin_add (evVC 3) (evVC 1))) g_nil))) (seqSC (g_ret (un1C (b1W .tuple) (evVC 2))) g_nil)))
theorem e_many_order (C : Kc ω) (K : Nat → List Sl → RF) : exC T K C f_many_order.body = g_many_order C := rfl
def g_law_state (C : Kc ω) : Sc ω := (seqSC (g_asg (putPC (.n 1)) (kC (.int 0))) (seqSC (g_asg (putPC (.n 2)) (kC (.int 1))) (seqSC (g_for (.n 3) (slC (evVC 0) (partC true nilC) (partC false (kC (.int 63)))) (seqSC (g_asg (putPC (.n 1)) (op2C bin_add (op2C bin_mul (evVC 1) (kC (.int 1000003))) (un1C (b1W .abs) (evVC 3)))) (seqSC (g_asg (putPC (.n 2)) (op2C bin_mod (un1C (b1W .int) (op2C bin_add (op2C bin_mul (evVC 2) (kC (.int 48271))) (evVC 3))) (kC (.int 2147483647)))) g_nil))) (seqSC (g_ret (argsC (rcC (lrC (consC (evVC 1) (rcC (lrC (consC (iteC (tstC (op2C cmp_ne (evVC 2) (kC (.int 1973665155)))) (evVC 2) (kC (.int 7))) (rcC nilC))))))) lstC)) g_nil))))
theorem e_law_state (C : Kc ω) (K : Nat → List Sl → RF) : exC T K C f_law_state.body = g_law_state C := rfl
def g_law_take (C : Kc ω) : Sc ω := (seqSC (iteSC (tstC (op2C cmp_gt (op2C ixK (evVC 0) (kC (.int 0))) (kC (.int 0)))) (seqSC (g_asg (putPC (.n 2)) (op2C bin_mod (un1C (b1W .int) (op2C ixK (evVC 0) (kC (.int 0)))) (evVC 1))) (seqSC (g_asg (putSC 0 (kC (.int 0))) (op2C bin_fdiv (op2C ixK (evVC 0) (kC (.int 0))) (evVC 1))) (seqSC (g_ret (evVC 2)) g_nil))) g_nil) (seqSC (g_asg (putSC 0 (kC (.int 1))) (op2C bin_mod (un1C (b1W .int) (op2C bin_add (op2C bin_mul (op2C ixK (evVC 0) (kC (.int 1))) (kC (.int 48271))) (kC (.int 11)))) (kC (.int 2147483647)))) (seqSC (g_ret (op2C bin_mod (un1C (b1W .int) (op2C bin_fdiv (op2C ixK (evVC 0) (kC (.int 1))) (kC (.int 7)))) (evVC 1))) g_nil)))
theorem e_law_take (C : Kc ω) (K : Nat → List Sl → RF) : exC T K C f_law_take.body = g_law_take C := rfl
def g_law_is_whole (C : Kc ω) : Sc ω := (seqSC (g_ret (andC (un1C (fun x => bl (isTys [.int] x)) (evVC 0)) (notC (tstC (un1C (fun x => bl (isTys [.bool] x)) (evVC 0)))))) g_nil)
theorem e_law_is_whole (C : Kc ω) (K : Nat → List Sl → RF) : exC T K C f_law_is_whole.body = g_law_is_whole C := rfl
def g_law_same (C : Kc ω) : Sc ω := (seqSC (iteSC (tstC (un1C (fun x => bl (isTys [.tuple] x)) (evVC 1))) (seqSC (g_ret (andC (un1C (fun x => bl (isTys [.tuple] x)) (evVC 0)) (andC (op2C cmp_eq (un1C (b1W .len) (evVC 0)) (un1C (b1W .len) (evVC 1))) (un1C (b1W .all) (runLC [2] (itC (un1C (fun x => lOf (rngF x)) (un1C (b1W .len) (evVC 1)))) (turnC [2] (.n 2) (condC true nilC) (elC (argsC (rcC (lrC (consC (op2C ixK (evVC 0) (evVC 2)) (rcC (lrC (consC (op2C ixK (evVC 1) (evVC 2)) (rcC nilC))))))) (callC C 20))))))))) g_nil) g_nil) (seqSC (iteSC (tstC (un1C (fun x => bl (isTys [.str] x)) (evVC 1))) (seqSC (g_ret (andC (un1C (fun x => bl (isTys [.str] x)) (evVC 0)) (op2C cmp_eq (evVC 0) (evVC 1)))) g_nil) g_nil) (seqSC (iteSC (tstC (op2C cmp_is (evVC 1) (kC .non))) (seqSC (g_ret (op2C cmp_is (evVC 0) (kC .non))) g_nil) g_nil) (seqSC (g_ret (andC (argsC (rcC (lrC (consC (evVC 0) (rcC nilC)))) (callC C 19)) (op2C cmp_eq (evVC 0) (evVC 1)))) g_nil))))
theorem e_law_same (C : Kc ω) (K : Nat → List Sl → RF) : exC T K C f_law_same.body = g_law_same C := rfl
def g_law_result (C : Kc ω) : Sc ω := (seqSC (g_try T (seqSC (iteSC (tstC (op2C cmp_eq (un1C (b1W .len) (evVC 1)) (kC (.int 1)))) (seqSC (g_ret (argsC (rcC (lrC (consC (kC (.str (PySem.Str.ofString "told"))) (rcC (lrC (consC (cvC T C 0 (rcC (lrC (consC (op2C ixK (evVC 1) (kC (.int 0))) (rcC nilC))))) (rcC nilC))))))) tupC)) g_nil) g_nil) (seqSC (iteSC (tstC (op2C cmp_eq (un1C (b1W .len) (evVC 1)) (kC (.int 2)))) (seqSC (g_ret (argsC (rcC (lrC (consC (kC (.str (PySem.Str.ofString "told"))) (rcC (lrC (consC (cvC T C 0 (rcC (lrC (consC (op2C ixK (evVC 1) (kC (.int 0))) (rcC (lrC (consC (op2C ixK (evVC 1) (kC (.int 1))) (rcC nilC)))))))) (rcC nilC))))))) tupC)) g_nil) g_nil) (seqSC (iteSC (tstC (op2C cmp_eq (un1C (b1W .len) (evVC 1)) (kC (.int 3)))) (seqSC (g_ret (argsC (rcC (lrC (consC (kC (.str (PySem.Str.ofString "told"))) (rcC (lrC (consC (cvC T C 0 (rcC (lrC (consC (op2C ixK (evVC 1) (kC (.int 0))) (rcC (lrC (consC (op2C ixK (evVC 1) (kC (.int 1))) (rcC (lrC (consC (op2C ixK (evVC 1) (kC (.int 2))) (rcC nilC))))))))))) (rcC nilC))))))) tupC)) g_nil) g_nil) (seqSC (iteSC (tstC (op2C cmp_eq (un1C (b1W .len) (evVC 1)) (kC (.int 4)))) (seqSC (g_ret (argsC (rcC (lrC (consC (kC (.str (PySem.Str.ofString "told"))) (rcC (lrC (consC (cvC T C 0 (rcC (lrC (consC (op2C ixK (evVC 1) (kC (.int 0))) (rcC (lrC (consC (op2C ixK (evVC 1) (kC (.int 1))) (rcC (lrC (consC (op2C ixK (evVC 1) (kC (.int 2))) (rcC (lrC (consC (op2C ixK (evVC 1) (kC (.int 3))) (rcC nilC)))))))))))))) (rcC nilC))))))) tupC)) g_nil) g_nil) (seqSC (g_ret (argsC (rcC (lrC (consC (kC (.str (PySem.Str.ofString "told"))) (rcC (lrC (consC (cvC T C 0 (rcC (lrC (consC (op2C ixK (evVC 1) (kC (.int 0))) (rcC (lrC (consC (op2C ixK (evVC 1) (kC (.int 1))) (rcC (lrC (consC (op2C ixK (evVC 1) (kC (.int 2))) (rcC (lrC (consC (op2C ixK (evVC 1) (kC (.int 3))) (rcC (lrC (consC (op2C ixK (evVC 1) (kC (.int 4))) (rcC nilC))))))))))))))))) (rcC nilC))))))) tupC)) g_nil))))) [(1, none, (.t2 (.k (.str (PySem.Str.ofString "malformed"))) (.k .non))), (2, some 2, (.t2 (.k (.str (PySem.Str.ofString "refused"))) .fld))]) g_nil)
theorem e_law_result (C : Kc ω) (K : Nat → List Sl → RF) : exC T K C f_law_result.body = g_law_result C := rfl
def g_law_su_rounds (C : Kc ω) : Sc ω := (seqSC (g_par [(putPC (.n 2)), (putPC (.n 3))] (lrC (consRC (d0C false) (rcC (lrC (consRC (argsC (rcC nilC) lstC) (rcC nilC))))))) (seqSC (g_for (.n 1) (un1C (fun x => lOf (rngF x)) (un1C (b1W .len) (evVC 0))) (seqSC (iteSC (tstC (op2C cmp_nin (evVC 1) (evVC 2))) (seqSC (g_par [(putPC (.n 4)), (putPC (.n 5))] (lrC (consRC (argsC (rcC nilC) lstC) (rcC (lrC (consRC (evVC 1) (rcC nilC))))))) (seqSC (whileC (tstC (op2C cmp_nin (evVC 5) (evVC 2))) (seqSC (g_asg (putSC 2 (evVC 5)) (kC (.bl true))) (seqSC (g_mut 4 appX (evVC 5)) (seqSC (g_asg (putPC (.n 5)) (op2C ixK (evVC 0) (evVC 5))) g_nil))) fuel) (seqSC (g_mut 3 appX (un1C (b1W .tuple) (evVC 4))) g_nil))) g_nil) g_nil)) (seqSC (g_ret (un1C (b1W .tuple) (evVC 3))) g_nil)))
theorem e_law_su_rounds (C : Kc ω) (K : Nat → List Sl → RF) : exC T K C f_law_su_rounds.body = g_law_su_rounds C := rfl
def g_law_su_lots (C : Kc ω) : Sc ω := (seqSC (g_asg (putPC (.n 2)) (un1C (fun x => (rngS x).map fun l => .f (.lst l)) (evVC 1))) (seqSC (g_for (.n 3) (un1C (fun x => lOf (rngF x)) (evVC 1)) (seqSC (g_for (.n 4) (evVC 0) (seqSC (g_for (.n 5) (un1C (fun x => lOf (rngF x)) (evVC 1)) (seqSC (g_asg (putPC (.n 6)) (un2C (b2W .min) (op2C ixK (evVC 2) (evVC 5)) (op2C ixK (evVC 2) (op2C ixK (evVC 4) (evVC 5))))) (seqSC (g_par [(putSC 2 (evVC 5)), (putSC 2 (op2C ixK (evVC 4) (evVC 5)))] (lrC (consRC (evVC 6) (rcC (lrC (consRC (evVC 6) (rcC nilC))))))) g_nil))) g_nil)) g_nil)) (seqSC (g_ret (un1C (b1W .tuple) (runLC [7] (itC (un1C (fun x => lOf (rngF x)) (evVC 1))) (turnC [7] (.n 7) (condC false (op2C cmp_eq (op2C ixK (evVC 2) (evVC 7)) (evVC 7))) (elC (un1C (b1W .tuple) (runLC [5] (itC (un1C (fun x => lOf (rngF x)) (evVC 1))) (turnC [5] (.n 5) (condC false (op2C cmp_eq (op2C ixK (evVC 2) (evVC 5)) (evVC 7))) (elC (evVC 5)))))))))) g_nil)))
theorem e_law_su_lots (C : Kc ω) (K : Nat → List Sl → RF) : exC T K C f_law_su_lots.body = g_law_su_lots C := rfl
def g_law_su_all_pairs (C : Kc ω) : Sc ω := (seqSC (iteSC (tstC (op2C cmp_eq (un1C (b1W .len) (evVC 0)) (kC (.int 0)))) (seqSC (g_ret (argsC (rcC (lrC (consC (argsC (rcC nilC) lstC) (rcC nilC)))) lstC)) g_nil) g_nil) (seqSC (g_asg (putPC (.n 1)) (argsC (rcC nilC) lstC)) (seqSC (g_for (.n 2) (un2C (fun x y => lOf (rng2F x y)) (kC (.int 1)) (un1C (b1W .len) (evVC 0))) (seqSC (g_asg (putPC (.n 1)) (op2C bin_add (evVC 1) (runLC [3] (itC (argsC (rcC (lrC (consC (op2C bin_add (slC (evVC 0) (partC false (kC (.int 1))) (partC false (evVC 2))) (slC (evVC 0) (partC false (op2C bin_add (evVC 2) (kC (.int 1)))) (partC true nilC))) (rcC nilC)))) (callC C 24))) (turnC [3] (.n 3) (condC true nilC) (elC (op2C bin_add (argsC (rcC (lrC (consC (argsC (rcC (lrC (consC (op2C ixK (evVC 0) (kC (.int 0))) (rcC (lrC (consC (op2C ixK (evVC 0) (evVC 2)) (rcC nilC))))))) tupC) (rcC nilC)))) lstC) (evVC 3))))))) g_nil)) (seqSC (g_ret (evVC 1)) g_nil))))
theorem e_law_su_all_pairs (C : Kc ω) (K : Nat → List Sl → RF) : exC T K C f_law_su_all_pairs.body = g_law_su_all_pairs C := rfl
def g_law (C : Kc ω) : Sc ω := (seqSC (g_asg (putPC (.n 1)) (argsC (rcC (lrC (consC (evVC 0) (rcC nilC)))) (callC C 17))) (seqSC (g_asg (putPC (.n 2)) (hasC 1 (argsC (rcC (lrC (consC (kC (.int 6)) (rcC nilC)))) (ioC C 18 1)))) (seqSC (g_asg (putPC (.n 3)) (argsC (rcC (lrC (consC (op2C bin_mul (kC (.int 2)) (evVC 2)) (rcC nilC)))) (callC C 4))) (seqSC (g_asg (putPC (.n 4)) (op2C ixK (evVC 3) (hasC 1 (argsC (rcC (lrC (consC (un1C (b1W .len) (evVC 3)) (rcC nilC)))) (ioC C 18 1))))) (seqSC (g_par [(putPC (.n 9)), (putPC (.n 10))] (lrC (consRC (argsC (rcC nilC) lstC) (rcC (lrC (consRC (kC (.int 0)) (rcC nilC))))))) (seqSC (g_for (.n 5) (evVC 4) (seqSC (g_asg (putPC (.n 9)) (op2C bin_add (evVC 9) (runLC [19] (itC (un1C (fun x => lOf (rngF x)) (evVC 5))) (turnC [19] (.n 19) (condC true nilC) (elC (op2C bin_add (evVC 10) (op2C bin_mod (op2C bin_add (evVC 19) (kC (.int 1))) (evVC 5)))))))) (seqSC (g_asg (putPC (.n 10)) (op2C bin_add (evVC 10) (evVC 5))) g_nil))) (seqSC (iteSC (tstC (orC (notC (tstC (argsC (rcC (lrC (consC (argsC (rcC (lrC (consC (evVC 4) (rcC nilC)))) (callC C 16)) (rcC (lrC (consC (un1C (b1W .tuple) (evVC 9)) (rcC nilC))))))) (callC C 20)))) (op2C cmp_ne (argsC (rcC (lrC (consC (argsC (rcC (lrC (consC (evVC 4) (rcC nilC)))) (callC C 16)) (rcC nilC)))) (callC C 9)) (evVC 4)))) (seqSC (g_ret (kC (.bl false))) g_nil) g_nil) (seqSC (g_par [(putPC (.n 11)), (putPC (.n 12))] (lrC (consRC (op2C bin_mul (argsC (rcC (lrC (consC (kC (.int 0)) (rcC nilC)))) lstC) (op2C bin_add (op2C bin_mul (kC (.int 2)) (evVC 2)) (kC (.int 1)))) (rcC (lrC (consRC (kC (.int 0)) (rcC nilC))))))) (seqSC (g_for (.n 6) (argsC (rcC (lrC (consC (un1C (fun x => (rngS x).map fun l => .w (.tup l)) (op2C bin_mul (kC (.int 2)) (evVC 2))) (rcC nilC)))) (callC C 24)) (seqSC (g_asg (putPC (.n 13)) (op2C bin_mul (argsC (rcC (lrC (consC (kC (.int 0)) (rcC nilC)))) lstC) (op2C bin_mul (kC (.int 2)) (evVC 2)))) (seqSC (g_for (.t2 (.n 17) (.n 18)) (evVC 6) (seqSC (g_par [(putSC 13 (evVC 17)), (putSC 13 (evVC 18))] (lrC (consRC (op2C ixK (evVC 9) (evVC 18)) (rcC (lrC (consRC (op2C ixK (evVC 9) (evVC 17)) (rcC nilC))))))) g_nil)) (seqSC (g_asg (putPC (.n 14)) (un1C (b1W .len) (argsC (rcC (lrC (consC (un1C (b1W .tuple) (evVC 13)) (rcC nilC)))) (callC C 22)))) (seqSC (g_par [(putSC 11 (evVC 14)), (putPC (.n 12))] (lrC (consRC (op2C bin_add (op2C ixK (evVC 11) (evVC 14)) (kC (.int 1))) (rcC (lrC (consRC (op2C bin_add (evVC 12) (kC (.int 1))) (rcC nilC))))))) (seqSC (g_asg (putPC (.n 15)) (argsC (rcC (lrC (consC (argsC (rcC (lrC (consC (un1C (b1W .tuple) (evVC 9)) (rcC (lrC (consC (un1C (b1W .tuple) (evVC 13)) (rcC nilC))))))) tupC) (rcC (lrC (consC (op2C bin_mul (kC (.int 2)) (evVC 2)) (rcC nilC))))))) (callC C 23))) (seqSC (iteSC (tstC (orC (op2C cmp_ne (op2C bin_mod (op2C bin_add (op2C bin_sub (evVC 14) (evVC 2)) (un1C (b1W .len) (evVC 4))) (kC (.int 2))) (kC (.int 0))) (op2C cmp_gt (op2C bin_add (op2C bin_sub (evVC 14) (evVC 2)) (un1C (b1W .len) (evVC 4))) (op2C bin_mul (kC (.int 2)) (un1C (b1W .len) (evVC 15)))))) (seqSC (g_ret (kC (.bl false))) g_nil) g_nil) g_nil))))))) (seqSC (g_asg (putPC (.n 7)) (argsC (rcC (lrC (consC (evVC 4) (rcC nilC)))) (callC C 14))) (seqSC (iteSC (tstC (orC (notC (tstC (argsC (rcC (lrC (consC (evVC 7) (rcC (lrC (consC (un1C (b1W .tuple) (evVC 11)) (rcC nilC))))))) (callC C 20)))) (orC (op2C cmp_ne (un1C (b1W .sum) (evVC 7)) (evVC 12)) (op2C cmp_ne (un1C (b1W .len) (evVC 7)) (op2C bin_add (op2C bin_mul (kC (.int 2)) (evVC 2)) (kC (.int 1))))))) (seqSC (g_ret (kC (.bl false))) g_nil) g_nil) (seqSC (iteSC (tstC (op2C cmp_eq (un1C (b1W .len) (evVC 4)) (kC (.int 1)))) (seqSC (g_asg (putPC (.n 16)) (argsC (rcC (lrC (consC (evVC 2) (rcC nilC)))) (callC C 13))) (seqSC (iteSC (tstC (op2C cmp_ne (runLC [20] (itC (un1C (fun x => lOf (rngF x)) (un1C (b1W .len) (evVC 16)))) (turnC [20] (.n 20) (condC true nilC) (elC (op2C ixK (evVC 7) (op2C bin_sub (op2C bin_add (evVC 2) (kC (.int 1))) (op2C bin_mul (kC (.int 2)) (evVC 20))))))) (un1C (b1W .list) (evVC 16)))) (seqSC (g_ret (kC (.bl false))) g_nil) g_nil) g_nil)) g_nil) (seqSC (iteSC (tstC (andC (op2C cmp_eq (evVC 4) (op2C bin_mul (argsC (rcC (lrC (consC (kC (.int 1)) (rcC nilC)))) tupC) (op2C bin_mul (kC (.int 2)) (evVC 2)))) (andC (op2C cmp_gt (evVC 2) (kC (.int 0))) (op2C cmp_ne (op2C ixK (evVC 7) (evVC 2)) (evVC 12))))) (seqSC (g_ret (kC (.bl false))) g_nil) g_nil) (seqSC (g_asg (putPC (.n 8)) (argsC (rcC (lrC (consC (argsC (rcC (lrC (consC (kC (.fn 14)) (rcC (lrC (consC (argsC (rcC (lrC (consC (argsC (rcC (lrC (consC (kC (.int 3)) (rcC nilC)))) tupC) (rcC nilC)))) tupC) (rcC nilC))))))) tupC) (rcC (lrC (consC (argsC (rcC (lrC (consC (kC (.fn 14)) (rcC (lrC (consC (argsC (rcC (lrC (consC (argsC (rcC (lrC (consC (kC (.int 1)) (rcC (lrC (consC (kC (.int 3)) (rcC nilC))))))) tupC) (rcC nilC)))) tupC) (rcC nilC))))))) tupC) (rcC (lrC (consC (argsC (rcC (lrC (consC (kC (.fn 14)) (rcC (lrC (consC (argsC (rcC (lrC (consC (argsC (rcC (lrC (consC (kC (.int 14)) (rcC nilC)))) tupC) (rcC nilC)))) tupC) (rcC nilC))))))) tupC) (rcC (lrC (consC (argsC (rcC (lrC (consC (kC (.fn 14)) (rcC (lrC (consC (argsC (rcC (lrC (consC (argsC (rcC (lrC (consC (kC (.int 0)) (rcC (lrC (consC (kC (.int 2)) (rcC nilC))))))) tupC) (rcC nilC)))) tupC) (rcC nilC))))))) tupC) (rcC (lrC (consC (argsC (rcC (lrC (consC (kC (.fn 14)) (rcC (lrC (consC (argsC (rcC (lrC (consC (argsC (rcC (lrC (consC (kC (.int 2)) (rcC nilC)))) lstC) (rcC nilC)))) tupC) (rcC nilC))))))) tupC) (rcC (lrC (consC (argsC (rcC (lrC (consC (kC (.fn 14)) (rcC (lrC (consC (argsC (rcC (lrC (consC (kC .non) (rcC nilC)))) tupC) (rcC nilC))))))) tupC) (rcC (lrC (consC (argsC (rcC (lrC (consC (kC (.fn 14)) (rcC (lrC (consC (argsC (rcC (lrC (consC (argsC (rcC (lrC (consC (kC (.bl true)) (rcC (lrC (consC (kC (.int 1)) (rcC nilC))))))) tupC) (rcC nilC)))) tupC) (rcC nilC))))))) tupC) (rcC nilC)))))))))))))))))))))) lstC)) (seqSC (g_asg (putPC (.n 8)) (op2C bin_add (evVC 8) (argsC (rcC (lrC (consC (argsC (rcC (lrC (consC (kC (.fn 14)) (rcC (lrC (consC (argsC (rcC (lrC (consC (argsC (rcC (lrC (consC (kC (.str (PySem.Str.ofString "2"))) (rcC nilC)))) tupC) (rcC nilC)))) tupC) (rcC nilC))))))) tupC) (rcC nilC)))) lstC))) (seqSC (g_ret (op2C cmp_eq (runLC [21, 22] (itC (evVC 8)) (turnC [21, 22] (.t2 (.n 21) (.n 22)) (condC true nilC) (elC (op2C ixK (argsC (rcC (lrC (consC (evVC 21) (rcC (lrC (consC (evVC 22) (rcC nilC))))))) (callC C 21)) (kC (.int 0)))))) (op2C bin_mul (argsC (rcC (lrC (consC (kC (.str (PySem.Str.ofString "malformed"))) (rcC nilC)))) lstC) (kC (.int 8))))) g_nil))))))))))))))))
theorem e_law (C : Kc ω) (K : Nat → List Sl → RF) : exC T K C f_law.body = g_law C := rfl
def CP (C : Kc ω) : Nat → Option (Nat × Nat × Sc ω)
  | 0 => some (1, 1, g_is_integer C)
  | 1 => some (3, 3, g_is_count C)
  | 2 => some (3, 3, g_check_count C)
  | 3 => some (1, 2, g_is_whole_row C)
  | 4 => some (1, 1, g_partitions C)
  | 5 => some (2, 5, g_partitions_below C)
  | 6 => some (2, 3, g_times C)
  | 7 => some (1, 6, g_rounds C)
  | 8 => some (1, 1, g_round_number C)
  | 9 => some (1, 2, g_kind C)
  | 10 => some (2, 7, g_of_rounds C)
  | 11 => some (1, 2, g_pairings C)
  | 12 => some (1, 5, g_pair_rows C)
  | 13 => some (1, 7, g_glue_by_steps C)
  | 14 => some (1, 5, g_glue_many C)
  | 15 => some (1, 2, g_check_sides C)
  | 16 => some (1, 5, g_many_order C)
  | 17 => some (1, 4, g_law_state C)
  | 18 => some (2, 3, g_law_take C)
  | 19 => some (1, 1, g_law_is_whole C)
  | 20 => some (2, 3, g_law_same C)
  | 21 => some (2, 3, g_law_result C)
  | 22 => some (1, 6, g_law_su_rounds C)
  | 23 => some (2, 8, g_law_su_lots C)
  | 24 => some (1, 4, g_law_su_all_pairs C)
  | 25 => some (1, 23, g_law C)
  | _ => none
theorem CP_eq (C : Kc ω) (K : Nat → List Sl → RF) : ∀ f, CP C f = (P f).map fun d => (d.np, d.ns, exC T K C d.body) := fun f => match f with
  | 0 => by show some (1, 1, g_is_integer C) = some (1, 1, exC T K C f_is_integer.body); rw [e_is_integer]
  | 1 => by show some (3, 3, g_is_count C) = some (3, 3, exC T K C f_is_count.body); rw [e_is_count]
  | 2 => by show some (3, 3, g_check_count C) = some (3, 3, exC T K C f_check_count.body); rw [e_check_count]
  | 3 => by show some (1, 2, g_is_whole_row C) = some (1, 2, exC T K C f_is_whole_row.body); rw [e_is_whole_row]
  | 4 => by show some (1, 1, g_partitions C) = some (1, 1, exC T K C f_partitions.body); rw [e_partitions]
  | 5 => by show some (2, 5, g_partitions_below C) = some (2, 5, exC T K C f_partitions_below.body); rw [e_partitions_below]
  | 6 => by show some (2, 3, g_times C) = some (2, 3, exC T K C f_times.body); rw [e_times]
  | 7 => by show some (1, 6, g_rounds C) = some (1, 6, exC T K C f_rounds.body); rw [e_rounds]
  | 8 => by show some (1, 1, g_round_number C) = some (1, 1, exC T K C f_round_number.body); rw [e_round_number]
  | 9 => by show some (1, 2, g_kind C) = some (1, 2, exC T K C f_kind.body); rw [e_kind]
  | 10 => by show some (2, 7, g_of_rounds C) = some (2, 7, exC T K C f_of_rounds.body); rw [e_of_rounds]
  | 11 => by show some (1, 2, g_pairings C) = some (1, 2, exC T K C f_pairings.body); rw [e_pairings]
  | 12 => by show some (1, 5, g_pair_rows C) = some (1, 5, exC T K C f_pair_rows.body); rw [e_pair_rows]
  | 13 => by show some (1, 7, g_glue_by_steps C) = some (1, 7, exC T K C f_glue_by_steps.body); rw [e_glue_by_steps]
  | 14 => by show some (1, 5, g_glue_many C) = some (1, 5, exC T K C f_glue_many.body); rw [e_glue_many]
  | 15 => by show some (1, 2, g_check_sides C) = some (1, 2, exC T K C f_check_sides.body); rw [e_check_sides]
  | 16 => by show some (1, 5, g_many_order C) = some (1, 5, exC T K C f_many_order.body); rw [e_many_order]
  | 17 => by show some (1, 4, g_law_state C) = some (1, 4, exC T K C f_law_state.body); rw [e_law_state]
  | 18 => by show some (2, 3, g_law_take C) = some (2, 3, exC T K C f_law_take.body); rw [e_law_take]
  | 19 => by show some (1, 1, g_law_is_whole C) = some (1, 1, exC T K C f_law_is_whole.body); rw [e_law_is_whole]
  | 20 => by show some (2, 3, g_law_same C) = some (2, 3, exC T K C f_law_same.body); rw [e_law_same]
  | 21 => by show some (2, 3, g_law_result C) = some (2, 3, exC T K C f_law_result.body); rw [e_law_result]
  | 22 => by show some (1, 6, g_law_su_rounds C) = some (1, 6, exC T K C f_law_su_rounds.body); rw [e_law_su_rounds]
  | 23 => by show some (2, 8, g_law_su_lots C) = some (2, 8, exC T K C f_law_su_lots.body); rw [e_law_su_lots]
  | 24 => by show some (1, 4, g_law_su_all_pairs C) = some (1, 4, exC T K C f_law_su_all_pairs.body); rw [e_law_su_all_pairs]
  | 25 => by show some (1, 23, g_law C) = some (1, 23, exC T K C f_law.body); rw [e_law]
  | _ + 26 => rfl
end
end K26
end

section
set_option linter.all false
set_option autoImplicit false
namespace Iv
/-! Mirrors: what the interpreter computes, told by plain functions. -/
def I (n : Nat) : W := .int n
def Is (l : List Nat) : List W := l.map I
@[simp] theorem Is_length (l : List Nat) : (Is l).length = l.length := List.length_map ..
@[simp] theorem Is_nil : Is [] = [] := rfl
@[simp] theorem Is_cons (x : Nat) (l : List Nat) : Is (x :: l) = I x :: Is l := rfl
@[simp] theorem Is_append (a b : List Nat) : Is (a ++ b) = Is a ++ Is b := List.map_append ..
theorem ixN_nat {n k : Nat} (h : k < n) : ixN n (k : Int) = some k := by
  unfold ixN
  rw [if_pos (Int.ofNat_nonneg k), if_pos (Int.ofNat_lt.2 h)]
  rfl
theorem atL_nat' {α : Type} (xs : List α) {k : Nat} (h : k < xs.length) : atL xs (k : Int) = xs[k]? := by
  unfold atL; rw [ixN_nat h]
theorem Is_get (l : List Nat) {k : Nat} (h : k < l.length) : (Is l)[k]? = some (I (l.getD k 0)) := by
  unfold Is
  rw [List.getElem?_map, List.getElem?_eq_getElem h, List.getD_eq_getElem?_getD, List.getElem?_eq_getElem h]; rfl
theorem ix_tup (l : List Nat) {k : Nat} (h : k < l.length) : ixW (.tup (Is l)) (I k) = some (I (l.getD k 0)) := by
  show atL (Is l) (k : Int) = _
  rw [atL_nat' _ (by simpa using h), Is_get l h]
theorem ix_lst (l : List Nat) {k : Nat} (h : k < l.length) : ixW (.lst (Is l)) (I k) = some (I (l.getD k 0)) := by
  show atL (Is l) (k : Int) = _
  rw [atL_nat' _ (by simpa using h), Is_get l h]
/-- a list's comprehension, one item for one, nothing else touched -/
theorem lc_map {own : List Nat} {turn : W → En → RE (List W)} {e : En} (g : W → W) : ∀ (xs : List W), (∀ x ∈ xs, ∃ e', turn x e = .ok [g x] e' ∧ backE e' e own = e) → lcLoop own turn xs e = .ok (xs.map g) e
  | [], _ => rfl
  | x :: xs, h => by
    obtain ⟨e', h1, h2⟩ := h x (List.mem_cons_self ..)
    unfold lcLoop
    rw [h1]
    dsimp only
    rw [h2, lc_map g xs fun y hy => h y (List.mem_cons_of_mem _ hy)]
    rfl
theorem lcRun_map {own : List Nat} {turn : W → En → RE (List W)} {e : En} (g : W → W) (xs : List W) (h : ∀ x ∈ xs, ∃ e', turn x e = .ok [g x] e' ∧ backE e' e own = e) (hl : xs.length < lim) : lcRun own (.ok xs e) turn = .ok (xs.map g) e := by
  unfold lcRun
  dsimp only
  rw [lc_map g xs h]
  dsimp only
  rw [if_pos (by simpa using hl)]
theorem mem_Is {x : W} {l : List Nat} (h : x ∈ Is l) : ∃ n, n ∈ l ∧ x = I n := by
  obtain ⟨n, hn, e⟩ := List.mem_map.1 h
  exact ⟨n, hn, e.symm⟩
end Iv
namespace Iv
/-! ### whole numbers as keys of a dict of True -/
def Ks (s : List Nat) : List Ky := s.map fun (n : Nat) => (Sum.inl (Int.ofNat n) : Ky)
def Ts (s : List Nat) : List W := s.map fun _ => .bl true
def mem (x : Nat) : List Nat → Bool
  | [] => false
  | y :: ys => match Nat.beq y x with
    | true => true
    | false => mem x ys
theorem ky_nat (a b : Nat) : kyEq (.inl (a : Int)) (.inl (b : Int)) = Nat.beq a b := by
  show decide ((a : Int) = (b : Int)) = _
  cases h : Nat.beq a b with
  | true => exact decide_eq_true (by rw [Nat.eq_of_beq_eq_true h])
  | false => exact decide_eq_false fun e => Nat.ne_of_beq_eq_false h (Int.ofNat.inj e)
theorem getK_mem (x : Nat) : ∀ s : List Nat, (getK (Ks s) (Ts s) (.inl (x : Int))).isSome = mem x s
  | [] => rfl
  | y :: ys => by
    show Option.isSome (if kyEq (.inl (y : Int)) (.inl (x : Int)) = true then some (W.bl true) else getK (Ks ys) (Ts ys) (.inl (x : Int))) = mem x (y :: ys)
    rw [ky_nat]
    unfold mem
    cases Nat.beq y x with
    | true => rfl
    | false => exact getK_mem x ys
theorem any_mem (x : Nat) : ∀ s : List Nat, ((Ks s).any fun k => kyEq k (.inl (x : Int))) = mem x s
  | [] => rfl
  | y :: ys => by
    show (kyEq (.inl (y : Int)) (.inl (x : Int)) || (Ks ys).any fun k => kyEq k (.inl (x : Int))) = mem x (y :: ys)
    rw [ky_nat]
    unfold mem
    cases Nat.beq y x with
    | true => rfl
    | false => exact any_mem x ys
theorem nin_dK (x : Nat) (s : List Nat) : cmpW .nin (I x) (.dK (Ks s) (Ts s)) = some (!mem x s) := by
  show Option.map _ (some (getK (Ks s) (Ts s) (.inl (x : Int))).isSome) = _
  rw [getK_mem]; rfl
theorem set_dK (x : Nat) (s : List Nat) (h : mem x s = false) (hl : s.length < lim) : setW (.dK (Ks s) (Ts s)) (I x) (.bl true) = some (.dK (Ks (s ++ [x])) (Ts (s ++ [x]))) := by
  show (if (Ks s).length < lim then some (W.dK (putK (Ks s) (Ts s) (.inl (x : Int)) (.bl true)).1 (putK (Ks s) (Ts s) (.inl (x : Int)) (.bl true)).2) else none) = _
  rw [if_pos (by unfold Ks; rw [List.length_map]; exact hl)]
  unfold putK
  rw [any_mem, h]
  simp [Ks, Ts]
theorem app_lst (x : Nat) (r : List Nat) (hl : r.length < lim) : appW (I x) (.lst (Is r)) = some (.lst (Is (r ++ [x]))) := by
  show (if (Is r).length < lim then some (W.lst (Is r ++ [I x])) else none) = _
  rw [if_pos (by simpa using hl)]; simp
end Iv
end

section
set_option linter.all false
set_option autoImplicit false
set_option maxRecDepth 100000
namespace Iv
theorem ex_cons (T : Tb) (K : Nat → List Sl → RF) (a b : S) (e : En) : ex T K (.cons a b) e = seqE (ex T K a e) (ex T K b) := rfl
theorem ex_next {T : Tb} {K : Nat → List Sl → RF} {a b : S} {e e1 : En} (h : ex T K a e = .ok .next e1) : ex T K (.cons a b) e = ex T K b e1 := by
  rw [ex_cons, h]; rfl
theorem while_next {t : En → RE Bool} {b : En → RE Fl} {m : Nat} {e e1 e2 : En} (ht : t e = .ok true e1) (hb : b e1 = .ok .next e2) : whileL t b (m + 1) e = whileL t b m e2 := by
  simp only [whileL, ht, hb]
theorem while_end {t : En → RE Bool} {b : En → RE Fl} {m : Nat} {e e1 : En} (ht : t e = .ok false e1) : whileL t b (m + 1) e = .ok .next e1 := by
  simp only [whileL, ht]
theorem for_next {bind : W → En → Option En} {b : En → RE Fl} {x : W} {xs : List W} {e e1 e2 : En} (h1 : bind x e = some e1) (hb : b e1 = .ok .next e2) : forL bind b (x :: xs) e = forL bind b xs e2 := by
  simp only [forL, h1, hb]
def wh (one : List Nat) : Nat → List Nat → List Nat → Nat → Option (List Nat × List Nat × Nat)
  | 0, _, _, _ => none
  | m + 1, s, r, x => match mem x s with
    | true => some (s, r, x)
    | false => match one[x]? with
      | some y => wh one m (s ++ [x]) (r ++ [x]) y
      | none => none
def rdF (one : List Nat) : List Nat → List Nat → List (List Nat) → Option (List (List Nat))
  | [], _, f => some f
  | k :: ks, s, f => match mem k s with
    | true => rdF one ks s f
    | false => match Nat.ble s.length 9999 && Nat.ble f.length 9999 with
      | true => (match wh one 99 s [] k with
        | some q => rdF one ks q.1 (f ++ [q.2.1])
        | none => none)
      | false => none
def rd (one : List Nat) : Option (List (List Nat)) := rdF one (List.range one.length) [] []
variable (T : Tb) (K : Nat → List Sl → RF)
def rW : S := (.cons (.asg (.s 2 (.v 5)) (.k (.bl true))) (.cons (.app 4 (.v 5)) (.cons (.asg (.p (.n 5)) (.ix (.v 0) (.v 5))) .nil)))
def rEn (one : List Nat) (k : W) (s : List Nat) (f : W) (r : List Nat) (x : Nat) : En := [.v (.tup (Is one)), .v k, .o (.dK (Ks s) (Ts s)), .o f, .o (.lst (Is r)), .v (I x)]
theorem rW_step (one : List Nat) (k : W) (f : W) (s r : List Nat) (x y : Nat) (h : mem x s = false) (hy : one[x]? = some y) (hs : s.length < lim) (hr : r.length < lim) : ex T K rW (rEn one k s f r x) = .ok .next (rEn one k (s ++ [x]) f (r ++ [x]) y) := by
  have h1 := set_dK x s h hs
  have h2 := app_lst x r hr
  have hx : x < one.length := by
    rcases Nat.lt_or_ge x one.length with q | q
    · exact q
    · rw [List.getElem?_eq_none q] at hy; cases hy
  have h3 := ix_tup one hx
  have hyy : one.getD x 0 = y := by rw [List.getD_eq_getElem?_getD, hy]; rfl
  rw [hyy] at h3
  show seqE (unitF (ofU (match setW (.dK (Ks s) (Ts s)) (I x) (.bl true) with | some y => some _ | none => none))) _ = _
  rw [h1]
  show seqE (nxt (match appW (I x) (.lst (Is r)) with | some y => some _ | none => none)) _ = _
  rw [h2]
  show seqE (resE (ofO (Option.map R1.w (ixW (.tup (Is one)) (I x))) _) _) _ = _
  rw [h3]
  rfl
theorem wh_run (one : List Nat) (k f : W) : ∀ (m : Nat) (s r : List Nat) (x : Nat) (res : List Nat × List Nat × Nat), wh one m s r x = some res → s.length + m < lim → r.length + m < lim → ∀ j, whileL (fun e => tst (ev T K (.cmp .nin (.v 5) (.v 2)) e)) (ex T K rW) (m + j) (rEn one k s f r x) = .ok .next (rEn one k res.1 f res.2.1 res.2.2)
  | 0, _, _, _, _, h, _, _, _ => by cases h
  | m + 1, s, r, x, res, h, hs, hr, j => by
    have q := nin_dK x s
    have t : tst (ev T K (.cmp .nin (.v 5) (.v 2)) (rEn one k s f r x)) = .ok (!mem x s) (rEn one k s f r x) := by
      show tst (ofO (bl (cmpW .nin (I x) (.dK (Ks s) (Ts s)))) _) = _
      rw [q]; rfl
    rw [Nat.add_right_comm]
    unfold wh at h
    cases hm : mem x s with
    | true =>
      rw [hm] at h t
      injection h with h
      subst h
      exact while_end t
    | false =>
      rw [hm] at h t
      cases hy : one[x]? with
      | none => rw [hy] at h; cases h
      | some y =>
        rw [hy] at h
        refine (while_next (t := fun e => tst (ev T K (.cmp .nin (.v 5) (.v 2)) e)) t (rW_step T K one k f s r x y hm hy (by omega) (by omega))).trans ?_
        exact wh_run one k f m (s ++ [x]) (r ++ [x]) y res h (by simp; omega) (by simp; omega) j

def TI (r : List Nat) : W := .tup (Is r)
def notP : Sl → Bool
  | .p _ => false
  | _ => true
def rB : S := (.cons (.ite (.cmp .nin (.v 1) (.v 2)) (.cons (.par [(.p (.n 4)), (.p (.n 5))] (.consR (.lst .nil) (.consR (.v 1) .nil))) (.cons (.while (.cmp .nin (.v 5) (.v 2)) rW) (.cons (.app 3 (.b1 .tuple (.v 4))) .nil))) .nil) .nil)
theorem store_some {i : Nat} {s t : Sl} {e : En} (h : e[i]? = some t) (ht : notP t = true) : store i s e = some (e.set i s) := by
  unfold store
  rw [h]
  cases t with
  | p w => cases ht
  | _ => rfl
theorem app_W (w : W) (r : List W) (hl : r.length < lim) : appW w (.lst r) = some (.lst (r ++ [w])) := by
  show (if r.length < lim then some (W.lst (r ++ [w])) else none) = _
  rw [if_pos hl]
def rE0 (one : List Nat) (s1 : Sl) (s : List Nat) (f : List (List Nat)) (s4 s5 : Sl) : En := [.v (.tup (Is one)), s1, .o (.dK (Ks s) (Ts s)), .o (.lst (f.map TI)), s4, s5]
theorem rB_run (one : List Nat) (k : Nat) (s : List Nat) (f : List (List Nat)) (s4 s5 : Sl) (h4 : notP s4 = true) (h5 : notP s5 = true) (hk : mem k s = false) (q : List Nat × List Nat × Nat) (hq : wh one 99 s [] k = some q) (hs : s.length ≤ 9999) (hf : f.length ≤ 9999) :
    ex T K rB (rE0 one (.v (I k)) s f s4 s5) = .ok .next (rE0 one (.v (I k)) q.1 (f ++ [q.2.1]) (.o (.lst (Is q.2.1))) (.v (I q.2.2))) := by
  have t : tst (ev T K (.cmp .nin (.v 1) (.v 2)) (rE0 one (.v (I k)) s f s4 s5)) = .ok (!mem k s) (rE0 one (.v (I k)) s f s4 s5) := by
    show tst (ofO (bl (cmpW .nin (I k) (.dK (Ks s) (Ts s)))) _) = _
    rw [nin_dK]; rfl
  have e1 : parE (ev T K) [(.p (.n 4)), (.p (.n 5))] [.f (.lst []), .w (I k)] (rE0 one (.v (I k)) s f s4 s5) = .ok .next (rEn one (I k) s (.lst (f.map TI)) [] k) := by
    show unitF (match ofU (store 4 (.o (.lst [])) (rE0 one (.v (I k)) s f s4 s5)) with | .ok _ e' => _ | .exn x e => _ | .err => _) = _
    rw [store_some (t := s4) rfl h4]
    show unitF (match ofU (store 5 (.v (I k)) [.v (.tup (Is one)), .v (I k), .o (.dK (Ks s) (Ts s)), .o (.lst (f.map TI)), .o (.lst []), s5]) with | .ok _ e' => _ | .exn x e => _ | .err => _) = _
    rw [store_some (t := s5) rfl h5]
    rfl
  have w := wh_run T K one (I k) (.lst (f.map TI)) 99 s [] k q hq (by unfold lim; omega) (by simp [lim]) (fuel - 99)
  have hfu : 99 + (fuel - 99) = fuel := by unfold fuel; omega
  rw [hfu] at w
  have a := app_W (TI q.2.1) (f.map TI) (by rw [List.length_map]; unfold lim; omega)
  show seqE (iteE (tst (ev T K (.cmp .nin (.v 1) (.v 2)) (rE0 one (.v (I k)) s f s4 s5))) _ _) _ = _
  rw [t, hk]
  show seqE (seqE (parE (ev T K) [(.p (.n 4)), (.p (.n 5))] [.f (.lst []), .w (I k)] (rE0 one (.v (I k)) s f s4 s5)) _) _ = _
  rw [e1]
  show seqE (seqE (whileL (fun e => tst (ev T K (.cmp .nin (.v 5) (.v 2)) e)) (ex T K rW) fuel (rEn one (I k) s (.lst (f.map TI)) [] k)) _) _ = _
  rw [w]
  show seqE (seqE (nxt (match appW (TI q.2.1) (.lst (f.map TI)) with | some y => some _ | none => none)) _) _ = _
  rw [a]
  show RE.ok Fl.next _ = _
  unfold rE0
  rw [List.map_append]
  rfl
theorem rB_skip (one : List Nat) (k : Nat) (s : List Nat) (f : List (List Nat)) (s4 s5 : Sl) (hk : mem k s = true) :
    ex T K rB (rE0 one (.v (I k)) s f s4 s5) = .ok .next (rE0 one (.v (I k)) s f s4 s5) := by
  have t : tst (ev T K (.cmp .nin (.v 1) (.v 2)) (rE0 one (.v (I k)) s f s4 s5)) = .ok (!mem k s) (rE0 one (.v (I k)) s f s4 s5) := by
    show tst (ofO (bl (cmpW .nin (I k) (.dK (Ks s) (Ts s)))) _) = _
    rw [nin_dK]; rfl
  show seqE (iteE (tst (ev T K (.cmp .nin (.v 1) (.v 2)) (rE0 one (.v (I k)) s f s4 s5))) _ _) _ = _
  rw [t, hk]
  rfl
theorem rF_run (one : List Nat) : ∀ (ks s : List Nat) (f res : List (List Nat)) (s1 s4 s5 : Sl), rdF one ks s f = some res → notP s1 = true → notP s4 = true → notP s5 = true → ∃ s1' s' s4' s5', forL (bindP (.n 1)) (ex T K rB) (Is ks) (rE0 one s1 s f s4 s5) = .ok .next (rE0 one s1' s' res s4' s5')
  | [], s, f, res, s1, s4, s5, h, _, _, _ => by
    injection h with h
    subst h
    exact ⟨s1, s, s4, s5, rfl⟩
  | k :: ks, s, f, res, s1, s4, s5, h, h1, h4, h5 => by
    have st : bindP (.n 1) (I k) (rE0 one s1 s f s4 s5) = some (rE0 one (.v (I k)) s f s4 s5) := store_some (t := s1) rfl h1
    unfold rdF at h
    cases hm : mem k s with
    | true =>
      rw [hm] at h
      rw [Is_cons, for_next st (rB_skip T K one k s f s4 s5 hm)]
      exact rF_run one ks s f res (.v (I k)) s4 s5 h rfl h4 h5
    | false =>
      rw [hm] at h
      cases hb : Nat.ble s.length 9999 && Nat.ble f.length 9999 with
      | false => rw [hb] at h; cases h
      | true =>
        rw [hb] at h
        cases hw : wh one 99 s [] k with
        | none => rw [hw] at h; cases h
        | some q =>
          rw [hw] at h
          have b := (Bool.and_eq_true _ _).mp hb
          rw [Is_cons, for_next st (rB_run T K one k s f s4 s5 h4 h5 hm q hw (Nat.le_of_ble_eq_true b.1) (Nat.le_of_ble_eq_true b.2))]
          exact rF_run one ks q.1 (f ++ [q.2.1]) res (.v (I k)) (.o (.lst (Is q.2.1))) (.v (I q.2.2)) h rfl rfl rfl
theorem rangeL_Is : ∀ (n a : Nat), rangeL (a : Int) n = Is (List.range' a n)
  | 0, a => rfl
  | n + 1, a => by
    show W.int (a : Int) :: rangeL ((a : Int) + 1) n = I a :: Is (List.range' (a + 1) n)
    rw [← rangeL_Is n (a + 1)]; rfl
theorem wsOf_w : ∀ xs : List W, wsOf (xs.map .w) = some xs
  | [] => rfl
  | x :: xs => by
    show (match wsOf (xs.map .w) with | some r => some (x :: r) | none => none) = _
    rw [wsOf_w xs]
def fRounds : S := (.cons (.par [(.p (.n 2)), (.p (.n 3))] (.consR (.d0 false) (.consR (.lst .nil) .nil))) (.cons (.for (.n 1) (.rng1 (.b1 .len (.v 0))) rB) (.cons (.ret (.b1 .tuple (.v 3))) .nil)))
theorem rngF_nat (n : Nat) (h : n < 1000000000) : rngF (.int (n : Int)) = some (Is (List.range n)) := by
  have b : big (n : Int) = true := by unfold big; simp; omega
  have r : rangeL 0 (n : Int).toNat = Is (List.range n) := (rangeL_Is n 0).trans (by rw [List.range_eq_range'])
  unfold rngF
  dsimp only
  rw [b, if_pos rfl, r]
theorem un1_w (f : W → Option R1) (x : W) (e : En) : un1 f (.ok (.w x) e) = ofO (f x) e := rfl
theorem lOf_some (ws : List W) : lOf (some ws) = some (.l (ws.map .w)) := rfl
theorem ofO_some {α : Type} (x : α) (e : En) : ofO (some x) e = .ok x e := rfl
theorem asItems_ml (ws : List W) (e : En) : asItems (.ok (.l (ws.map .w)) e) = .ok ws e := by
  show (match wsOf (ws.map .w) with | some ws => RE.ok ws e | none => .err) = _
  rw [wsOf_w]
theorem ev_rng1 (a : E) (e : En) : ev T K (.rng1 a) e = un1 (fun x => lOf (rngF x)) (ev T K a e) := rfl
theorem rng1_items (a : E) (e : En) (n : Nat) (h : n < 1000000000) (ha : ev T K a e = .ok (.w (.int (n : Int))) e) : asItems (ev T K (.rng1 a) e) = .ok (Is (List.range n)) e := by
  rw [ev_rng1, ha, un1_w, rngF_nat n h, lOf_some, ofO_some, asItems_ml]
theorem ex_for (p : Pt) (it : E) (b : S) (e : En) : ex T K (.for p it b) e = itE (asItems (ev T K it e)) (forL (bindP p) (ex T K b)) := rfl
theorem itE_ok {α β : Type} (xs : α) (e : En) (k : α → En → RE β) : itE (.ok xs e) k = k xs e := rfl
theorem for_items {p : Pt} {it : E} {b : S} {e e2 : En} {xs : List W} (h : asItems (ev T K it e) = .ok xs e) (q : forL (bindP p) (ex T K b) xs e = .ok .next e2) : ex T K (.for p it b) e = .ok .next e2 := by
  rw [ex_for, h, itE_ok, q]
theorem rounds_run (one : List Nat) (res : List (List Nat)) (h : rd one = some res) (hl : one.length < 1000000000) : fin false (ex T K fRounds [.v (.tup (Is one)), .n, .n, .n, .n, .n]) = .ok false (.tup (res.map TI)) .n := by
  obtain ⟨s1', s', s4', s5', q⟩ := rF_run T K one (List.range one.length) [] [] res .n .n .n h rfl rfl rfl
  have l : ev T K (.b1 .len (.v 0)) (rE0 one .n [] [] .n .n) = .ok (.w (.int (one.length : Int))) (rE0 one .n [] [] .n .n) := by
    show RE.ok (R1.w (.int ((Is one).length : Int))) _ = _
    rw [Is_length]
  have f := for_items T K (p := .n 1) (b := rB) (rng1_items T K (.b1 .len (.v 0)) (rE0 one .n [] [] .n .n) one.length hl l) q
  have p : ex T K (.par [(.p (.n 2)), (.p (.n 3))] (.consR (.d0 false) (.consR (.lst .nil) .nil))) [.v (.tup (Is one)), .n, .n, .n, .n, .n] = .ok .next (rE0 one .n [] [] .n .n) := rfl
  have r : ex T K (.cons (.ret (.b1 .tuple (.v 3))) .nil) (rE0 one s1' s' res s4' s5') = .ok (.ret false (.tup (res.map TI))) (rE0 one s1' s' res s4' s5') := rfl
  unfold fRounds
  rw [ex_next p, ex_next f, r]
  rfl
end Iv
end

section
set_option linter.all false
set_option autoImplicit false
set_option maxRecDepth 100000
namespace Iv
variable (T : Tb) (K : Nat → List Sl → RF)
theorem set_lst (l : List Nat) {k : Nat} (h : k < l.length) (y : Nat) : setW (.lst (Is l)) (I k) (I y) = some (.lst (Is (l.set k y))) := by
  show (match ixN (Is l).length (k : Int) with | some j => some (W.lst ((Is l).set j (I y))) | none => none) = _
  rw [Is_length, ixN_nat h]
  show some (W.lst ((Is l).set k (I y))) = _
  unfold Is
  rw [List.map_set]
theorem min_I (a b : Nat) : b2W .min (I a) (I b) = some (.w (I (min a b))) := by
  show some (R1.w (W.int (if (b : Int) < (a : Int) then (b : Int) else (a : Int)))) = some (R1.w (W.int ((min a b : Nat) : Int)))
  by_cases h : b < a
  · rw [if_pos (Int.ofNat_lt.2 h), Nat.min_eq_right (by omega)]
  · rw [if_neg (fun q => h (Int.ofNat_lt.1 q)), Nat.min_eq_left (by omega)]
def lEn (o : W) (n : W) (names : List Nat) (s3 s4 s5 s6 : Sl) : En := [.v o, .v n, .o (.lst (Is names)), s3, s4, s5, s6, .n]
def lB : S := (.cons (.asg (.p (.n 6)) (.b2 .min (.ix (.v 2) (.v 5)) (.ix (.v 2) (.ix (.v 4) (.v 5))))) (.cons (.par [(.s 2 (.v 5)), (.s 2 (.ix (.v 4) (.v 5)))] (.consR (.v 6) (.consR (.v 6) .nil))) .nil))
def lStep (own : List Nat) (names : List Nat) (k : Nat) : List Nat := (names.set k (min (names.getD k 0) (names.getD (own.getD k 0) 0))).set (own.getD k 0) (min (names.getD k 0) (names.getD (own.getD k 0) 0))
theorem lB_run (o n : W) (own names : List Nat) (k : Nat) (s3 s6 : Sl) (h6 : notP s6 = true) (hk : k < names.length) (hk2 : k < own.length) (ho : own.getD k 0 < names.length) :
    ex T K lB (lEn o n names s3 (.v (.tup (Is own))) (.v (I k)) s6) = .ok .next (lEn o n (lStep own names k) s3 (.v (.tup (Is own))) (.v (I k)) (.v (I (min (names.getD k 0) (names.getD (own.getD k 0) 0))))) := by
  have e0 : ev T K (.ix (.v 2) (.v 5)) (lEn o n names s3 (.v (.tup (Is own))) (.v (I k)) s6) = .ok (.w (I (names.getD k 0))) (lEn o n names s3 (.v (.tup (Is own))) (.v (I k)) s6) := by
    show ofO (Option.map R1.w (ixW (.lst (Is names)) (I k))) _ = _
    rw [ix_lst names hk]; rfl
  have e1 : ∀ (nm : List Nat) (s6 : Sl), ev T K (.ix (.v 4) (.v 5)) (lEn o n nm s3 (.v (.tup (Is own))) (.v (I k)) s6) = .ok (.w (I (own.getD k 0))) (lEn o n nm s3 (.v (.tup (Is own))) (.v (I k)) s6) := by
    intro nm s6
    show ofO (Option.map R1.w (ixW (.tup (Is own)) (I k))) _ = _
    rw [ix_tup own hk2]; rfl
  have e2 : ev T K (.ix (.v 2) (.ix (.v 4) (.v 5))) (lEn o n names s3 (.v (.tup (Is own))) (.v (I k)) s6) = .ok (.w (I (names.getD (own.getD k 0) 0))) (lEn o n names s3 (.v (.tup (Is own))) (.v (I k)) s6) := by
    show un2 _ (.ok (.s 2) (lEn o n names s3 (.v (.tup (Is own))) (.v (I k)) s6)) (ev T K (.ix (.v 4) (.v 5))) = _
    unfold un2
    dsimp only
    rw [e1]
    show ofO (Option.map R1.w (ixW (.lst (Is names)) (I (own.getD k 0)))) _ = _
    rw [ix_lst names ho]; rfl
  have a : ex T K (.asg (.p (.n 6)) (.b2 .min (.ix (.v 2) (.v 5)) (.ix (.v 2) (.ix (.v 4) (.v 5))))) (lEn o n names s3 (.v (.tup (Is own))) (.v (I k)) s6) = .ok .next (lEn o n names s3 (.v (.tup (Is own))) (.v (I k)) (.v (I (min (names.getD k 0) (names.getD (own.getD k 0) 0))))) := by
    show resE (un2 (b2W .min) (ev T K (.ix (.v 2) (.v 5)) (lEn o n names s3 (.v (.tup (Is own))) (.v (I k)) s6)) (ev T K (.ix (.v 2) (.ix (.v 4) (.v 5))))) _ = _
    rw [e0]
    unfold un2
    dsimp only
    rw [e2]
    show resE (ofO (b2W .min (I (names.getD k 0)) (I (names.getD (own.getD k 0) 0))) _) _ = _
    rw [min_I]
    show unitF (ofU (store 6 (.v (I _)) (lEn o n names s3 (.v (.tup (Is own))) (.v (I k)) s6))) = _
    rw [store_some (t := s6) rfl h6]
    rfl
  generalize hm : min (names.getD k 0) (names.getD (own.getD k 0) 0) = m at a
  have hl : own.getD k 0 < (names.set k m).length := by rw [List.length_set]; exact ho
  have p : ex T K (.par [(.s 2 (.v 5)), (.s 2 (.ix (.v 4) (.v 5)))] (.consR (.v 6) (.consR (.v 6) .nil))) (lEn o n names s3 (.v (.tup (Is own))) (.v (I k)) (.v (I m))) = .ok .next (lEn o n ((names.set k m).set (own.getD k 0) m) s3 (.v (.tup (Is own))) (.v (I k)) (.v (I m))) := by
    have p1 : put (ev T K) (.s 2 (.v 5)) (.w (I m)) (lEn o n names s3 (.v (.tup (Is own))) (.v (I k)) (.v (I m))) = .ok () (lEn o n (names.set k m) s3 (.v (.tup (Is own))) (.v (I k)) (.v (I m))) := by
      show ofU (match setW (.lst (Is names)) (I k) (I m) with | some y => some _ | none => none) = _
      rw [set_lst names hk]; rfl
    have p2 : put (ev T K) (.s 2 (.ix (.v 4) (.v 5))) (.w (I m)) (lEn o n (names.set k m) s3 (.v (.tup (Is own))) (.v (I k)) (.v (I m))) = .ok () (lEn o n ((names.set k m).set (own.getD k 0) m) s3 (.v (.tup (Is own))) (.v (I k)) (.v (I m))) := by
      show resE (ev T K (.ix (.v 4) (.v 5)) (lEn o n (names.set k m) s3 (.v (.tup (Is own))) (.v (I k)) (.v (I m)))) (putS2 2 (I m)) = _
      rw [e1]
      show ofU (match setW (.lst (Is (names.set k m))) (I (own.getD k 0)) (I m) with | some y => some _ | none => none) = _
      rw [set_lst _ hl]; rfl
    show unitF (match put (ev T K) (.s 2 (.v 5)) (.w (I m)) (lEn o n names s3 (.v (.tup (Is own))) (.v (I k)) (.v (I m))) with | .ok _ e' => puts (ev T K) [(.s 2 (.ix (.v 4) (.v 5)))] [.w (I m)] e' | .exn x e => .exn x e | .err => .err) = _
    rw [p1]
    show unitF (match put (ev T K) (.s 2 (.ix (.v 4) (.v 5))) (.w (I m)) (lEn o n (names.set k m) s3 (.v (.tup (Is own))) (.v (I k)) (.v (I m))) with | .ok _ e' => puts (ev T K) [] [] e' | .exn x e => .exn x e | .err => .err) = _
    rw [p2]
    rfl
  unfold lB lStep
  rw [ex_next a, ex_next p, hm]
  rfl
end Iv
end

section
set_option linter.all false
set_option autoImplicit false
set_option maxRecDepth 100000
namespace Iv
variable (T : Tb) (K : Nat → List Sl → RF)
theorem for_ind {bind : W → En → Option En} {b : En → RE Fl} (J : En → Prop) : ∀ (xs : List W) (e : En), J e → (∀ x ∈ xs, ∀ e, J e → ∃ e1 e2, bind x e = some e1 ∧ b e1 = .ok .next e2 ∧ J e2) → ∃ e', forL bind b xs e = .ok .next e' ∧ J e'
  | [], e, h, _ => ⟨e, rfl, h⟩
  | x :: xs, e, h, q => by
    obtain ⟨e1, e2, h1, h2, h3⟩ := q x (List.mem_cons_self ..) e h
    obtain ⟨e', g1, g2⟩ := for_ind J xs e2 h3 fun y hy => q y (List.mem_cons_of_mem _ hy)
    exact ⟨e', (for_next h1 h2).trans g1, g2⟩
def Inv (lab names : List Nat) (n : Nat) : Prop := names.length = n ∧ ∀ k, k < n → names.getD k 0 ≤ k ∧ lab.getD (names.getD k 0) 0 = lab.getD k 0
theorem getD_set (l : List Nat) (i j v : Nat) (hi : i < l.length) : (l.set i v).getD j 0 = if i = j then v else l.getD j 0 := by
  rw [List.getD_eq_getElem?_getD, List.getD_eq_getElem?_getD, List.getElem?_set]
  by_cases h : i = j
  · rw [if_pos h, if_pos h]
    subst h
    rw [if_pos hi]; rfl
  · rw [if_neg h, if_neg h]
theorem inv_step {lab names own : List Nat} {n k : Nat} (h : Inv lab names n) (hk : k < n) (ho : own.getD k 0 < n) (hl : lab.getD (own.getD k 0) 0 = lab.getD k 0) : Inv lab (lStep own names k) n := by
  obtain ⟨h1, h2⟩ := h
  have a := h2 k hk
  have b := h2 _ ho
  have m : min (names.getD k 0) (names.getD (own.getD k 0) 0) ≤ k ∧ min (names.getD k 0) (names.getD (own.getD k 0) 0) ≤ own.getD k 0 ∧ lab.getD (min (names.getD k 0) (names.getD (own.getD k 0) 0)) 0 = lab.getD k 0 := by
    refine ⟨Nat.le_trans (Nat.min_le_left ..) a.1, Nat.le_trans (Nat.min_le_right ..) b.1, ?_⟩
    rcases Nat.le_total (names.getD k 0) (names.getD (own.getD k 0) 0) with q | q
    · rw [Nat.min_eq_left q]; exact a.2
    · rw [Nat.min_eq_right q]; exact b.2.trans hl
  unfold lStep
  generalize min (names.getD k 0) (names.getD (own.getD k 0) 0) = v at m ⊢
  refine ⟨by simp [h1], fun j hj => ?_⟩
  rw [getD_set _ _ _ _ (by rw [List.length_set]; omega), getD_set _ _ _ _ (by omega)]
  by_cases p : own.getD k 0 = j
  · rw [if_pos p]
    subst p
    exact ⟨m.2.1, m.2.2.trans hl.symm⟩
  · rw [if_neg p]
    by_cases r : k = j
    · rw [if_pos r]; subst r; exact ⟨m.1, m.2.2⟩
    · rw [if_neg r]; exact h2 j hj
/-- an order that keeps the labels -/
def Keeps (lab own : List Nat) (n : Nat) : Prop := own.length = n ∧ ∀ k, k < n → own.getD k 0 < n ∧ lab.getD (own.getD k 0) 0 = lab.getD k 0
theorem lIn_run (o nn : W) (lab own names : List Nat) (n : Nat) (s3 s5 s6 : Sl) (h5 : notP s5 = true) (h6 : notP s6 = true) (hn : n < 1000000000) (hnn : nn = .int (n : Int)) (h : Inv lab names n) (hk : Keeps lab own n) :
    ∃ names' s5' s6', ex T K (.for (.n 5) (.rng1 (.v 1)) lB) (lEn o nn names s3 (.v (.tup (Is own))) s5 s6) = .ok .next (lEn o nn names' s3 (.v (.tup (Is own))) s5' s6') ∧ notP s5' = true ∧ notP s6' = true ∧ Inv lab names' n := by
  obtain ⟨e', q, J⟩ := for_ind (bind := bindP (.n 5)) (b := ex T K lB) (fun e => ∃ names s5 s6, e = lEn o nn names s3 (.v (.tup (Is own))) s5 s6 ∧ notP s5 = true ∧ notP s6 = true ∧ Inv lab names n) (Is (List.range n)) _ ⟨names, s5, s6, rfl, h5, h6, h⟩ (by
    intro x hx e ⟨nm, t5, t6, he, g5, g6, gi⟩
    obtain ⟨k, hk1, rfl⟩ := mem_Is hx
    have hk1 := List.mem_range.1 hk1
    subst he
    have o1 := hk.2 k hk1
    refine ⟨lEn o nn nm s3 (.v (.tup (Is own))) (.v (I k)) t6, _, store_some (t := t5) rfl g5, lB_run T K o nn own nm k s3 t6 g6 (by rw [gi.1]; exact hk1) (by rw [hk.1]; exact hk1) (by rw [gi.1]; exact o1.1), ⟨_, _, _, rfl, rfl, rfl, inv_step gi hk1 o1.1 o1.2⟩⟩)
  obtain ⟨nm, t5, t6, he, g5, g6, gi⟩ := J
  subst he
  refine ⟨nm, t5, t6, for_items T K (rng1_items T K (.v 1) _ n hn ?_) q, g5, g6, gi⟩
  subst hnn
  rfl

theorem lMid_run (nn : W) (lab : List Nat) (orders : List (List Nat)) (names : List Nat) (n : Nat) (s3 s4 s5 s6 : Sl) (h4 : notP s4 = true) (h5 : notP s5 = true) (h6 : notP s6 = true) (hn : n < 1000000000) (hnn : nn = .int (n : Int)) (h : Inv lab names n) (hk : ∀ own ∈ orders, Keeps lab own n) :
    ∃ names' s4' s5' s6', ex T K (.for (.n 4) (.v 0) (.cons (.for (.n 5) (.rng1 (.v 1)) lB) .nil)) (lEn (.tup (orders.map TI)) nn names s3 s4 s5 s6) = .ok .next (lEn (.tup (orders.map TI)) nn names' s3 s4' s5' s6') ∧ notP s4' = true ∧ notP s5' = true ∧ notP s6' = true ∧ Inv lab names' n := by
  obtain ⟨e', q, J⟩ := for_ind (bind := bindP (.n 4)) (b := ex T K (.cons (.for (.n 5) (.rng1 (.v 1)) lB) .nil)) (fun e => ∃ names s4 s5 s6, e = lEn (.tup (orders.map TI)) nn names s3 s4 s5 s6 ∧ notP s4 = true ∧ notP s5 = true ∧ notP s6 = true ∧ Inv lab names n) (orders.map TI) _ ⟨names, s4, s5, s6, rfl, h4, h5, h6, h⟩ (by
    intro x hx e ⟨nm, t4, t5, t6, he, g4, g5, g6, gi⟩
    obtain ⟨own, ho, rfl⟩ := List.mem_map.1 hx
    subst he
    obtain ⟨nm', t5', t6', r, r5, r6, ri⟩ := lIn_run T K (.tup (orders.map TI)) nn lab own nm n s3 t5 t6 g5 g6 hn hnn gi (hk own ho)
    exact ⟨lEn (.tup (orders.map TI)) nn nm s3 (.v (TI own)) t5 t6, _, store_some (t := t4) rfl g4, (ex_next r).trans rfl, ⟨_, _, _, _, rfl, rfl, r5, r6, ri⟩⟩)
  obtain ⟨nm, t4, t5, t6, he, g4, g5, g6, gi⟩ := J
  subst he
  exact ⟨nm, t4, t5, t6, for_items T K rfl q, g4, g5, g6, gi⟩
theorem lOut_run (nn : W) (lab : List Nat) (orders : List (List Nat)) (names : List Nat) (n : Nat) (s3 s4 s5 s6 : Sl) (h3 : notP s3 = true) (h4 : notP s4 = true) (h5 : notP s5 = true) (h6 : notP s6 = true) (hn : n < 1000000000) (hnn : nn = .int (n : Int)) (h : Inv lab names n) (hk : ∀ own ∈ orders, Keeps lab own n) :
    ∃ names' s3' s4' s5' s6', ex T K (.for (.n 3) (.rng1 (.v 1)) (.cons (.for (.n 4) (.v 0) (.cons (.for (.n 5) (.rng1 (.v 1)) lB) .nil)) .nil)) (lEn (.tup (orders.map TI)) nn names s3 s4 s5 s6) = .ok .next (lEn (.tup (orders.map TI)) nn names' s3' s4' s5' s6') ∧ notP s3' = true ∧ notP s4' = true ∧ notP s5' = true ∧ notP s6' = true ∧ Inv lab names' n := by
  obtain ⟨e', q, J⟩ := for_ind (bind := bindP (.n 3)) (b := ex T K (.cons (.for (.n 4) (.v 0) (.cons (.for (.n 5) (.rng1 (.v 1)) lB) .nil)) .nil)) (fun e => ∃ names s3 s4 s5 s6, e = lEn (.tup (orders.map TI)) nn names s3 s4 s5 s6 ∧ notP s3 = true ∧ notP s4 = true ∧ notP s5 = true ∧ notP s6 = true ∧ Inv lab names n) (Is (List.range n)) _ ⟨names, s3, s4, s5, s6, rfl, h3, h4, h5, h6, h⟩ (by
    intro x hx e ⟨nm, t3, t4, t5, t6, he, g3, g4, g5, g6, gi⟩
    obtain ⟨k, hk1, rfl⟩ := mem_Is hx
    subst he
    obtain ⟨nm', t4', t5', t6', r, r4, r5, r6, ri⟩ := lMid_run T K nn lab orders nm n (.v (I k)) t4 t5 t6 g4 g5 g6 hn hnn gi hk
    exact ⟨lEn (.tup (orders.map TI)) nn nm (.v (I k)) t4 t5 t6, _, store_some (t := t3) rfl g3, (ex_next r).trans rfl, ⟨_, _, _, _, _, rfl, rfl, r4, r5, r6, ri⟩⟩)
  obtain ⟨nm, t3, t4, t5, t6, he, g3, g4, g5, g6, gi⟩ := J
  subst he
  refine ⟨nm, t3, t4, t5, t6, for_items T K (rng1_items T K (.v 1) _ n hn ?_) q, g3, g4, g5, g6, gi⟩
  subst hnn
  rfl
/-- a comprehension that keeps some of the numbers -/
theorem lc_len {own : List Nat} {turn : W → En → RE (List W)} {e : En} (p : Nat → Bool) : ∀ l : List Nat, (∀ k ∈ l, ∃ ys e', turn (I k) e = .ok ys e' ∧ backE e' e own = e ∧ (p k = true → 1 ≤ ys.length) ∧ ys.length ≤ 1) → ∃ ws, lcLoop own turn (Is l) e = .ok ws e ∧ (l.filter p).length ≤ ws.length ∧ ws.length ≤ l.length
  | [], _ => ⟨[], rfl, Nat.le_refl _, Nat.le_refl _⟩
  | k :: l, h => by
    obtain ⟨ys, e', h1, h2, h3, h4⟩ := h k (List.mem_cons_self ..)
    obtain ⟨ws, g1, g2, g3⟩ := lc_len p l fun j hj => h j (List.mem_cons_of_mem _ hj)
    refine ⟨ys ++ ws, ?_, ?_, ?_⟩
    · rw [Is_cons]
      unfold lcLoop
      rw [h1]
      dsimp only
      rw [h2, g1]
    · rw [List.filter_cons, List.length_append]
      cases hp : p k with
      | true => rw [if_pos rfl, List.length_cons]; have := h3 hp; omega
      | false => rw [if_neg (by simp)]; omega
    · rw [List.length_append, List.length_cons]; omega
theorem eq_I (a b : Nat) : cmpW .eq (I a) (I b) = some (Nat.beq a b) := by
  show some ((a : Int) == (b : Int)) = _
  cases h : Nat.beq a b with
  | true => rw [Nat.eq_of_beq_eq_true h]; simp
  | false =>
    have := Nat.ne_of_beq_eq_false h
    congr 1
    simp; omega
end Iv
end

section
set_option linter.all false
set_option autoImplicit false
set_option maxRecDepth 100000
namespace Iv
variable (T : Tb) (K : Nat → List Sl → RF)
theorem iteE_t {α : Type} (e : En) (a b : En → RE α) : iteE (.ok true e) a b = a e := rfl
theorem ev_b1 (f : B1) (a : E) (e : En) : ev T K (.b1 f a) e = un1 (b1W f) (ev T K a e) := rfl
theorem un1_f (f : W → Option R1) (x : W) (e : En) : un1 f (.ok (.f x) e) = ofO (f x) e := rfl
theorem lcEl_w {el : En → RE R1} {e e1 : En} {w : W} (h : el e = .ok (.w w) e1) : lcEl el e = .ok [w] e1 := by
  unfold lcEl
  rw [h]; rfl
def cIn : E := .cmp .eq (.ix (.v 2) (.v 5)) (.v 7)
def lcIn : E := .lc [5] (.n 5) (.rng1 (.v 1)) cIn (.v 5)
def cOut : E := .cmp .eq (.ix (.v 2) (.v 7)) (.v 7)
def lEn7 (o : W) (nn : W) (names : List Nat) (s3 s4 s5 s6 s7 : Sl) : En := [.v o, .v nn, .o (.lst (Is names)), s3, s4, s5, s6, s7]
theorem lcRun_len {own : List Nat} {turn : W → En → RE (List W)} {e : En} (p : Nat → Bool) (n : Nat) (it : RE (List W)) (hi : it = .ok (Is (List.range n)) e) (hn : n < lim) (h : ∀ k, k < n → ∃ ys e', turn (I k) e = .ok ys e' ∧ backE e' e own = e ∧ (p k = true → 1 ≤ ys.length) ∧ ys.length ≤ 1) : ∃ ws, lcRun own it turn = .ok ws e ∧ ((List.range n).filter p).length ≤ ws.length ∧ ws.length ≤ n := by
  obtain ⟨ws, h1, h2, h3⟩ := lc_len (own := own) (turn := turn) (e := e) p (List.range n) fun k hk => h k (List.mem_range.1 hk)
  rw [List.length_range] at h3
  refine ⟨ws, ?_, h2, h3⟩
  rw [hi]
  unfold lcRun
  dsimp only
  rw [h1]
  dsimp only
  rw [if_pos (by omega)]
theorem ev_lc (own : List Nat) (p : Pt) (it c el : E) (e : En) : ev T K (.lc own p it c el) e = itE (lcRun own (asItems (ev T K it e)) (lcTurn own p (cond (isNil c) (ev T K c)) (lcEl (ev T K el)))) fun ws e' => .ok (.f (.lst ws)) e' := rfl
theorem in_run (o : W) (names : List Nat) (n x : Nat) (s3 s4 s5 s6 : Sl) (hn : n < 1000000) (hs : notP s5 = true) (hl : names.length = n) : ∃ ws, ev T K lcIn (lEn7 o (.int (n : Int)) names s3 s4 s5 s6 (.v (I x))) = .ok (.f (.lst ws)) (lEn7 o (.int (n : Int)) names s3 s4 s5 s6 (.v (I x))) ∧ ws.length ≤ n := by
  obtain ⟨ws, h1, h2, h3⟩ := lcRun_len (own := [5]) (turn := lcTurn [5] (.n 5) (cond (isNil cIn) (ev T K cIn)) (lcEl (ev T K (.v 5)))) (e := lEn7 o (.int (n : Int)) names s3 s4 s5 s6 (.v (I x))) (fun _ => false) n (asItems (ev T K (.rng1 (.v 1)) (lEn7 o (.int (n : Int)) names s3 s4 s5 s6 (.v (I x))))) (rng1_items T K (.v 1) _ n (by omega) rfl) (by unfold lim; omega) (by
    intro k hk
    have c : tst (ev T K cIn (lEn7 o (.int (n : Int)) names s3 s4 (.v (I k)) s6 (.v (I x)))) = .ok (Nat.beq (names.getD k 0) x) (lEn7 o (.int (n : Int)) names s3 s4 (.v (I k)) s6 (.v (I x))) := by
      have e0 : ev T K (.ix (.v 2) (.v 5)) (lEn7 o (.int (n : Int)) names s3 s4 (.v (I k)) s6 (.v (I x))) = .ok (.w (I (names.getD k 0))) (lEn7 o (.int (n : Int)) names s3 s4 (.v (I k)) s6 (.v (I x))) := by
        show ofO (Option.map R1.w (ixW (.lst (Is names)) (I k))) _ = _
        rw [ix_lst names (by omega)]; rfl
      show tst (un2 _ (ev T K (.ix (.v 2) (.v 5)) (lEn7 o (.int (n : Int)) names s3 s4 (.v (I k)) s6 (.v (I x)))) _) = _
      rw [e0]
      show tst (ofO (bl (cmpW .eq (I (names.getD k 0)) (I x))) _) = _
      rw [eq_I]; rfl
    have b : bindP (.n 5) (I k) (wipeE (lEn7 o (.int (n : Int)) names s3 s4 s5 s6 (.v (I x))) [5]) = some (lEn7 o (.int (n : Int)) names s3 s4 (.v (I k)) s6 (.v (I x))) := rfl
    cases hb : Nat.beq (names.getD k 0) x with
    | true =>
      rw [hb] at c
      refine ⟨[I k], lEn7 o (.int (n : Int)) names s3 s4 (.v (I k)) s6 (.v (I x)), ?_, rfl, fun q => (nomatch q), Nat.le_refl _⟩
      unfold lcTurn
      rw [b]
      show iteE (tst (ev T K cIn (lEn7 o (.int (n : Int)) names s3 s4 (.v (I k)) s6 (.v (I x))))) _ _ = _
      rw [c]
      rfl
    | false =>
      rw [hb] at c
      refine ⟨[], lEn7 o (.int (n : Int)) names s3 s4 (.v (I k)) s6 (.v (I x)), ?_, rfl, fun q => (nomatch q), Nat.zero_le _⟩
      unfold lcTurn
      rw [b]
      show iteE (tst (ev T K cIn (lEn7 o (.int (n : Int)) names s3 s4 (.v (I k)) s6 (.v (I x))))) _ _ = _
      rw [c]
      rfl)
  refine ⟨ws, ?_, h3⟩
  unfold lcIn
  rw [ev_lc, h1, itE_ok]
def lcOut : E := .lc [7] (.n 7) (.rng1 (.v 1)) cOut (.b1 .tuple lcIn)
theorem out_run (o : W) (lab names : List Nat) (n : Nat) (s3 s4 s5 s6 : Sl) (hn : n < 1000000) (hs : notP s5 = true) (hi : Inv lab names n) (hj : ∀ j, j < n → lab.getD j 0 ≤ j) : ∃ ws, ev T K lcOut (lEn7 o (.int (n : Int)) names s3 s4 s5 s6 .n) = .ok (.f (.lst ws)) (lEn7 o (.int (n : Int)) names s3 s4 s5 s6 .n) ∧ ((List.range n).filter fun m => Nat.beq (lab.getD m 0) m).length ≤ ws.length ∧ ws.length ≤ n := by
  have hl := hi.1
  obtain ⟨ws, h1, h2, h3⟩ := lcRun_len (own := [7]) (turn := lcTurn [7] (.n 7) (cond (isNil cOut) (ev T K cOut)) (lcEl (ev T K (.b1 .tuple lcIn)))) (e := lEn7 o (.int (n : Int)) names s3 s4 s5 s6 .n) (fun m => Nat.beq (lab.getD m 0) m) n (asItems (ev T K (.rng1 (.v 1)) (lEn7 o (.int (n : Int)) names s3 s4 s5 s6 .n))) (rng1_items T K (.v 1) _ n (by omega) rfl) (by unfold lim; omega) (by
    intro k hk
    have c : tst (ev T K cOut (lEn7 o (.int (n : Int)) names s3 s4 s5 s6 (.v (I k)))) = .ok (Nat.beq (names.getD k 0) k) (lEn7 o (.int (n : Int)) names s3 s4 s5 s6 (.v (I k))) := by
      have e0 : ev T K (.ix (.v 2) (.v 7)) (lEn7 o (.int (n : Int)) names s3 s4 s5 s6 (.v (I k))) = .ok (.w (I (names.getD k 0))) (lEn7 o (.int (n : Int)) names s3 s4 s5 s6 (.v (I k))) := by
        show ofO (Option.map R1.w (ixW (.lst (Is names)) (I k))) _ = _
        rw [ix_lst names (by omega)]; rfl
      show tst (un2 _ (ev T K (.ix (.v 2) (.v 7)) (lEn7 o (.int (n : Int)) names s3 s4 s5 s6 (.v (I k)))) _) = _
      rw [e0]
      show tst (ofO (bl (cmpW .eq (I (names.getD k 0)) (I k))) _) = _
      rw [eq_I]; rfl
    have b : bindP (.n 7) (I k) (wipeE (lEn7 o (.int (n : Int)) names s3 s4 s5 s6 .n) [7]) = some (lEn7 o (.int (n : Int)) names s3 s4 s5 s6 (.v (I k))) := rfl
    cases hb : Nat.beq (names.getD k 0) k with
    | true =>
      rw [hb] at c
      obtain ⟨vs, g1, g2⟩ := in_run T K o names n k s3 s4 s5 s6 hn hs hl
      refine ⟨[.tup vs], lEn7 o (.int (n : Int)) names s3 s4 s5 s6 (.v (I k)), ?_, rfl, fun q => Nat.le_refl _, Nat.le_refl _⟩
      have g : lcEl (ev T K (.b1 .tuple lcIn)) (lEn7 o (.int (n : Int)) names s3 s4 s5 s6 (.v (I k))) = .ok [.tup vs] (lEn7 o (.int (n : Int)) names s3 s4 s5 s6 (.v (I k))) := by
        have g0 : ev T K (.b1 .tuple lcIn) (lEn7 o (.int (n : Int)) names s3 s4 s5 s6 (.v (I k))) = .ok (.w (.tup vs)) (lEn7 o (.int (n : Int)) names s3 s4 s5 s6 (.v (I k))) := by
          rw [ev_b1, g1, un1_f]; rfl
        exact lcEl_w g0
      unfold lcTurn
      rw [b]
      show iteE (tst (ev T K cOut (lEn7 o (.int (n : Int)) names s3 s4 s5 s6 (.v (I k))))) _ _ = _
      rw [c, iteE_t, g]
    | false =>
      rw [hb] at c
      refine ⟨[], lEn7 o (.int (n : Int)) names s3 s4 s5 s6 (.v (I k)), ?_, rfl, fun q => ?_, Nat.zero_le _⟩
      · unfold lcTurn
        rw [b]
        show iteE (tst (ev T K cOut (lEn7 o (.int (n : Int)) names s3 s4 s5 s6 (.v (I k))))) _ _ = _
        rw [c]
        rfl
      · exfalso
        have q1 := Nat.eq_of_beq_eq_true q
        have i := hi.2 k hk
        have j := hj (names.getD k 0) (by omega)
        rw [i.2, q1] at j
        exact Nat.ne_of_beq_eq_false hb (by omega))
  refine ⟨ws, ?_, h2, h3⟩
  unfold lcOut
  rw [ev_lc, h1, itE_ok]
end Iv
end

section
set_option linter.all false
set_option autoImplicit false
set_option maxRecDepth 100000
namespace Iv
variable (T : Tb) (K : Nat → List Sl → RF)
theorem rngS_nat (n : Nat) (h : n ≤ 1000000) : rngS (.int (n : Int)) = some (Is (List.range n)) := by
  have b : (big (n : Int) && decide ((n : Int) ≤ 1000000)) = true := by unfold big; simp; omega
  have r : rangeL 0 (n : Int).toNat = Is (List.range n) := (rangeL_Is n 0).trans (by rw [List.range_eq_range'])
  unfold rngS
  dsimp only
  rw [b, if_pos rfl, r]
def fLots : S := (.cons (.asg (.p (.n 2)) (.lrng (.v 1))) (.cons (.for (.n 3) (.rng1 (.v 1)) (.cons (.for (.n 4) (.v 0) (.cons (.for (.n 5) (.rng1 (.v 1)) lB) .nil)) .nil)) (.cons (.ret (.b1 .tuple lcOut)) .nil)))
theorem ev_lrng (a : E) (e : En) : ev T K (.lrng a) e = un1 (fun x => (rngS x).map fun l => .f (.lst l)) (ev T K a e) := rfl
theorem ex_asg (t : Tg) (a : E) (e : En) : ex T K (.asg t a) e = resE (ev T K a e) fun r e1 => unitF (put (ev T K) t r e1) := rfl
theorem resE_ok {α : Type} (r : R1) (e : En) (k : R1 → En → RE α) : resE (.ok r e) k = k r e := rfl
theorem ex_ret (a : E) (e : En) : ex T K (.ret a) e = resE (ev T K a e) retE := rfl
theorem fin_cons_ret {a b : S} {e e1 : En} {fr : Bool} {w : W} (h : ex T K a e = .ok (.ret fr w) e1) : fin false (ex T K (.cons a b) e) = .ok fr w .n := by
  rw [ex_cons, h]; rfl
theorem lots_run (lab : List Nat) (orders : List (List Nat)) (n : Nat) (hn : n < 1000000) (hk : ∀ own ∈ orders, Keeps lab own n) (hj : ∀ j, j < n → lab.getD j 0 ≤ j) : ∃ ws, fin false (ex T K fLots [.v (.tup (orders.map TI)), .v (.int (n : Int)), .n, .n, .n, .n, .n, .n]) = .ok false (.tup ws) .n ∧ ((List.range n).filter fun m => Nat.beq (lab.getD m 0) m).length ≤ ws.length ∧ ws.length ≤ n := by
  have i0 : Inv lab (List.range n) n := ⟨List.length_range, fun k hk => by
    have : (List.range n).getD k 0 = k := by rw [List.getD_eq_getElem?_getD, List.getElem?_range hk]; rfl
    rw [this]; exact ⟨Nat.le_refl _, rfl⟩⟩
  have a : ex T K (.asg (.p (.n 2)) (.lrng (.v 1))) [.v (.tup (orders.map TI)), .v (.int (n : Int)), .n, .n, .n, .n, .n, .n] = .ok .next (lEn (.tup (orders.map TI)) (.int (n : Int)) (List.range n) .n .n .n .n) := by
    have v : ev T K (.v 1) [.v (.tup (orders.map TI)), .v (.int (n : Int)), .n, .n, .n, .n, .n, .n] = .ok (.w (.int (n : Int))) [.v (.tup (orders.map TI)), .v (.int (n : Int)), .n, .n, .n, .n, .n, .n] := rfl
    rw [ex_asg, ev_lrng, v, un1_w, rngS_nat n (by omega), Option.map_some, ofO_some, resE_ok]
    rfl
  obtain ⟨nm, t3, t4, t5, t6, r, r3, r4, r5, r6, ri⟩ := lOut_run T K (.int (n : Int)) lab orders (List.range n) n .n .n .n .n rfl rfl rfl rfl (by omega) rfl i0 hk
  obtain ⟨ws, q, q2, q3⟩ := out_run T K (.tup (orders.map TI)) lab nm n t3 t4 t5 t6 hn r5 ri hj
  refine ⟨ws, ?_, q2, q3⟩
  have g : ex T K (.ret (.b1 .tuple lcOut)) (lEn (.tup (orders.map TI)) (.int (n : Int)) nm t3 t4 t5 t6) = .ok (.ret false (.tup ws)) (lEn (.tup (orders.map TI)) (.int (n : Int)) nm t3 t4 t5 t6) := by
    have q' : ev T K lcOut (lEn (.tup (orders.map TI)) (.int (n : Int)) nm t3 t4 t5 t6) = .ok (.f (.lst ws)) (lEn (.tup (orders.map TI)) (.int (n : Int)) nm t3 t4 t5 t6) := q
    rw [ex_ret, ev_b1, q', un1_f]
    rfl
  unfold fLots
  rw [ex_next a, ex_next r]
  exact fin_cons_ret T K g
end Iv
end

section
set_option linter.all false
set_option autoImplicit false
set_option maxRecDepth 100000
namespace Iv
namespace L26
variable (T : Tb) (K : Nat → List Sl → RF)
def GE (s0 s1 s2 s3 s4 s5 s6 : Sl) (turn : List Nat) (s10 s11 s12 s13 s14 s15 s17 s18 s19 : Sl) : En := [s0, s1, s2, s3, s4, s5, s6, .n, .n, .o (.lst (Is turn)), s10, s11, s12, s13, s14, s15, .n, s17, s18, s19, .n, .n, .n]
def ledB : S := (.cons (.par [(.s 13 (.v 17)), (.s 13 (.v 18))] (.consR (.ix (.v 9) (.v 18)) (.consR (.ix (.v 9) (.v 17)) .nil))) .nil)
def ledS (turn led : List Nat) (q : Nat × Nat) : List Nat := (led.set q.1 (turn.getD q.2 0)).set q.2 (turn.getD q.1 0)
variable (s0 s1 s2 s3 s4 s5 s6 s10 s11 s12 s14 s15 s19 : Sl) (turn : List Nat)
theorem led_run (led : List Nat) (a b : Nat) (ha : a < turn.length) (hb : b < turn.length) (hl : led.length = turn.length) :
    ex T K ledB (GE s0 s1 s2 s3 s4 s5 s6 turn s10 s11 s12 (.o (.lst (Is led))) s14 s15 (.v (I a)) (.v (I b)) s19) = .ok .next (GE s0 s1 s2 s3 s4 s5 s6 turn s10 s11 s12 (.o (.lst (Is (ledS turn led (a, b))))) s14 s15 (.v (I a)) (.v (I b)) s19) := by
  generalize he : (fun led => GE s0 s1 s2 s3 s4 s5 s6 turn s10 s11 s12 (.o (.lst (Is led))) s14 s15 (.v (I a)) (.v (I b)) s19) = en
  have he' : ∀ led, GE s0 s1 s2 s3 s4 s5 s6 turn s10 s11 s12 (.o (.lst (Is led))) s14 s15 (.v (I a)) (.v (I b)) s19 = en led := fun led => by rw [← he]
  have e1 : ev T K (.ix (.v 9) (.v 18)) (en led) = .ok (.w (I (turn.getD b 0))) (en led) := by
    subst he
    show ofO (Option.map R1.w (ixW (.lst (Is turn)) (I b))) _ = _
    rw [ix_lst turn hb]; rfl
  have e2 : ev T K (.ix (.v 9) (.v 17)) (en led) = .ok (.w (I (turn.getD a 0))) (en led) := by
    subst he
    show ofO (Option.map R1.w (ixW (.lst (Is turn)) (I a))) _ = _
    rw [ix_lst turn ha]; rfl
  have ee : ev T K (.consR (.ix (.v 9) (.v 18)) (.consR (.ix (.v 9) (.v 17)) .nil)) (en led) = .ok (.l [.w (I (turn.getD b 0)), .w (I (turn.getD a 0))]) (en led) := by
    show consRE (ev T K (.ix (.v 9) (.v 18)) (en led)) _ = _
    rw [e1]
    show rsE (consRE (ev T K (.ix (.v 9) (.v 17)) (en led)) _) _ = _
    rw [e2]
    rfl
  have p1 : put (ev T K) (.s 13 (.v 17)) (.w (I (turn.getD b 0))) (en led) = .ok () (en (led.set a (turn.getD b 0))) := by
    subst he
    show ofU (match setW (.lst (Is led)) (I a) (I (turn.getD b 0)) with | some y => some _ | none => none) = _
    rw [set_lst led (by omega)]; rfl
  have p2 : put (ev T K) (.s 13 (.v 18)) (.w (I (turn.getD a 0))) (en (led.set a (turn.getD b 0))) = .ok () (en (ledS turn led (a, b))) := by
    subst he
    show ofU (match setW (.lst (Is (led.set a (turn.getD b 0)))) (I b) (I (turn.getD a 0)) with | some y => some _ | none => none) = _
    rw [set_lst _ (by rw [List.length_set]; omega)]; rfl
  rw [he', he']
  have p : ex T K (.par [(.s 13 (.v 17)), (.s 13 (.v 18))] (.consR (.ix (.v 9) (.v 18)) (.consR (.ix (.v 9) (.v 17)) .nil))) (en led) = .ok .next (en (ledS turn led (a, b))) := by
    show rsE (ev T K (.consR (.ix (.v 9) (.v 18)) (.consR (.ix (.v 9) (.v 17)) .nil)) (en led)) (parE (ev T K) [(.s 13 (.v 17)), (.s 13 (.v 18))]) = _
    rw [ee]
    show unitF (match put (ev T K) (.s 13 (.v 17)) (.w (I (turn.getD b 0))) (en led) with | .ok _ e' => puts (ev T K) [(.s 13 (.v 18))] [.w (I (turn.getD a 0))] e' | .exn x e => .exn x e | .err => .err) = _
    rw [p1]
    show unitF (match put (ev T K) (.s 13 (.v 18)) (.w (I (turn.getD a 0))) (en (led.set a (turn.getD b 0))) with | .ok _ e' => puts (ev T K) [] [] e' | .exn x e => .exn x e | .err => .err) = _
    rw [p2]
    rfl
  unfold ledB
  rw [ex_next p]
  rfl
def PW (q : Nat × Nat) : W := .tup [I q.1, I q.2]
theorem ledL_run : ∀ (ps : List (Nat × Nat)) (led : List Nat) (s17 s18 : Sl), (∀ q ∈ ps, q.1 < turn.length ∧ q.2 < turn.length) → led.length = turn.length → notP s17 = true → notP s18 = true → ∃ t17 t18, forL (bindP (.t2 (.n 17) (.n 18))) (ex T K ledB) (ps.map PW) (GE s0 s1 s2 s3 s4 s5 s6 turn s10 s11 s12 (.o (.lst (Is led))) s14 s15 s17 s18 s19) = .ok .next (GE s0 s1 s2 s3 s4 s5 s6 turn s10 s11 s12 (.o (.lst (Is (ps.foldl (ledS turn) led)))) s14 s15 t17 t18 s19) ∧ notP t17 = true ∧ notP t18 = true
  | [], led, s17, s18, _, _, h1, h2 => ⟨s17, s18, rfl, h1, h2⟩
  | (a, b) :: ps, led, s17, s18, h, hl, h1, h2 => by
    have q := h (a, b) (List.mem_cons_self ..)
    obtain ⟨t17, t18, g, g1, g2⟩ := ledL_run ps (ledS turn led (a, b)) (.v (I a)) (.v (I b)) (fun r hr => h r (List.mem_cons_of_mem _ hr)) (by unfold ledS; simp [hl]) rfl rfl
    refine ⟨t17, t18, (for_next (e1 := GE s0 s1 s2 s3 s4 s5 s6 turn s10 s11 s12 (.o (.lst (Is led))) s14 s15 (.v (I a)) (.v (I b)) s19) ?_ (led_run T K s0 s1 s2 s3 s4 s5 s6 s10 s11 s12 s14 s15 s19 turn led a b q.1 q.2 hl)).trans g, g1, g2⟩
    show (match store 17 (.v (I a)) (GE s0 s1 s2 s3 s4 s5 s6 turn s10 s11 s12 (.o (.lst (Is led))) s14 s15 s17 s18 s19) with | some e' => store 18 (.v (I b)) e' | none => none) = _
    rw [store_some (t := s17) rfl h1]
    show store 18 (.v (I b)) (GE s0 s1 s2 s3 s4 s5 s6 turn s10 s11 s12 (.o (.lst (Is led))) s14 s15 (.v (I a)) s18 s19) = _
    rw [store_some (t := s18) rfl h2]
    rfl
end L26
end Iv
end

section
set_option linter.all false
set_option autoImplicit false
set_option maxRecDepth 100000
namespace Iv
namespace L26
variable (T : Tb) (K : Nat → List Sl → RF)
variable (s0 s1 s3 s4 s5 s6 s10 s11 s12 s13 s14 s15 s17 s18 s19 : Sl) (turn : List Nat) (n : Nat)
theorem reps_I (k x : Nat) : reps k [I x] = Is (List.replicate k x) := by
  unfold reps Is
  induction k with
  | zero => rfl
  | succ k ih => rw [List.replicate_succ, List.flatten_cons, ih, List.replicate_succ]; rfl
theorem mul_lst (x k : Nat) (h : k < 1000000) : binW .mul (.lst [I x]) (.int (k : Int)) = some (.f (.lst (Is (List.replicate k x)))) := by
  have e : -9223372036854775808 ≤ (k : Int) ∧ (k : Int) < 9223372036854775808 ∧ [I x].length * (k : Int).toNat ≤ lim := by
    refine ⟨by omega, by omega, ?_⟩
    show 1 * (k : Int).toNat ≤ lim
    unfold lim
    omega
  show (if -9223372036854775808 ≤ (k : Int) ∧ (k : Int) < 9223372036854775808 ∧ [I x].length * (k : Int).toNat ≤ lim then some (R1.f (.lst (reps (k : Int).toNat [I x]))) else none) = _
  rw [if_pos e, Int.toNat_natCast, reps_I]
theorem mul_int (a b : Nat) (h : a < 18446744073709551616) : binW .mul (.int (a : Int)) (.int (b : Int)) = some (.w (.int ((a * b : Nat) : Int))) := by
  have e : mulOk (a : Int) (b : Int) = true := by
    unfold mulOk
    have : decide ((a : Int).natAbs < 18446744073709551616) = true := decide_eq_true (by rw [Int.natAbs_natCast]; exact h)
    rw [this]; rfl
  show (if mulOk (a : Int) (b : Int) = true then some (R1.w (.int ((a : Int) * (b : Int)))) else none) = _
  rw [if_pos e, Int.natCast_mul]
theorem ev_bin (o : BOp) (a b : E) (e : En) : ev T K (.bin o a b) e = un2 (binW o) (ev T K a e) (ev T K b) := rfl
theorem un2_ww {f : W → W → Option R1} {x y : W} {e e2 : En} {g : En → RE R1} (hg : g e = .ok (.w y) e2) : un2 f (.ok (.w x) e) g = ofO (f x y) e2 := by
  unfold un2; dsimp only; rw [hg]; rfl
theorem un2_fw {f : W → W → Option R1} {x y : W} {e e2 : En} {g : En → RE R1} (hg : g e = .ok (.w y) e2) : un2 f (.ok (.f x) e) g = ofO (f x y) e2 := by
  unfold un2; dsimp only; rw [hg]; rfl
theorem two_n (e : En) (h : e[2]? = some (.v (.int (n : Int)))) : ev T K (.bin .mul (.k (.int 2)) (.v 2)) e = .ok (.w (.int ((2 * n : Nat) : Int))) e := by
  have v : ev T K (.v 2) e = .ok (.w (.int (n : Int))) e := by
    show evV 2 e = _
    unfold evV
    rw [h]
  have k : ev T K (.k (.int 2)) e = .ok (.w (.int ((2 : Nat) : Int))) e := rfl
  rw [ev_bin, k, un2_ww v, mul_int 2 n (by omega), ofO_some]
/-- led = [0] * (2 n) -/
theorem st1 (hn : n < 1000) (h13 : notP s13 = true) : ex T K (.asg (.p (.n 13)) (.bin .mul (.lst (.cons (.k (.int 0)) .nil)) (.bin .mul (.k (.int 2)) (.v 2)))) (GE s0 s1 (.v (.int (n : Int))) s3 s4 s5 s6 turn s10 s11 s12 s13 s14 s15 s17 s18 s19) = .ok .next (GE s0 s1 (.v (.int (n : Int))) s3 s4 s5 s6 turn s10 s11 s12 (.o (.lst (Is (List.replicate (2 * n) 0)))) s14 s15 s17 s18 s19) := by
  have l : ev T K (.lst (.cons (.k (.int 0)) .nil)) (GE s0 s1 (.v (.int (n : Int))) s3 s4 s5 s6 turn s10 s11 s12 s13 s14 s15 s17 s18 s19) = .ok (.f (.lst [I 0])) (GE s0 s1 (.v (.int (n : Int))) s3 s4 s5 s6 turn s10 s11 s12 s13 s14 s15 s17 s18 s19) := rfl
  rw [ex_asg, ev_bin, l, un2_fw (two_n T K n _ rfl), mul_lst 0 (2 * n) (by omega), ofO_some, resE_ok]
  show unitF (ofU (store 13 _ _)) = _
  rw [store_some (t := s13) rfl h13]
  rfl
/-- the loop over the pairs -/
theorem st2 (ps : List (Nat × Nat)) (led : List Nat) (h : ∀ q ∈ ps, q.1 < turn.length ∧ q.2 < turn.length) (hl : led.length = turn.length) (h17 : notP s17 = true) (h18 : notP s18 = true) : ∃ t17 t18, ex T K (.for (.t2 (.n 17) (.n 18)) (.v 6) ledB) (GE s0 s1 (.v (.int (n : Int))) s3 s4 s5 (.v (.lst (ps.map PW))) turn s10 s11 s12 (.o (.lst (Is led))) s14 s15 s17 s18 s19) = .ok .next (GE s0 s1 (.v (.int (n : Int))) s3 s4 s5 (.v (.lst (ps.map PW))) turn s10 s11 s12 (.o (.lst (Is (ps.foldl (ledS turn) led)))) s14 s15 t17 t18 s19) ∧ notP t17 = true ∧ notP t18 = true := by
  obtain ⟨t17, t18, g, g1, g2⟩ := ledL_run T K s0 s1 (.v (.int (n : Int))) s3 s4 s5 (.v (.lst (ps.map PW))) s10 s11 s12 s14 s15 s19 turn ps led s17 s18 h hl h17 h18
  exact ⟨t17, t18, for_items T K rfl g, g1, g2⟩
def H22 : Prop := ∀ one res, rd one = some res → one.length < 1000000000 → K 22 [.v (.tup (Is one))] = .ok false (.tup (res.map TI)) .n
theorem ev_call (f : Nat) (es : E) (e : En) : ev T K (.call f es) e = argsE (ev T K es e) fun ws e' => landed (K f (ws.map .v)) e' := rfl
/-- points = len(rounds(tuple(led))) -/
theorem st3 (h : H22 K) (led : List Nat) (rs : List (List Nat)) (hr : rd led = some rs) (hl : led.length < 1000000000) (h14 : notP s14 = true) : ex T K (.asg (.p (.n 14)) (.b1 .len (.call 22 (.cons (.b1 .tuple (.v 13)) .nil)))) (GE s0 s1 (.v (.int (n : Int))) s3 s4 s5 s6 turn s10 s11 s12 (.o (.lst (Is led))) s14 s15 s17 s18 s19) = .ok .next (GE s0 s1 (.v (.int (n : Int))) s3 s4 s5 s6 turn s10 s11 s12 (.o (.lst (Is led))) (.v (I rs.length)) s15 s17 s18 s19) := by
  have a : ev T K (.cons (.b1 .tuple (.v 13)) .nil) (GE s0 s1 (.v (.int (n : Int))) s3 s4 s5 s6 turn s10 s11 s12 (.o (.lst (Is led))) s14 s15 s17 s18 s19) = .ok (.l [.w (.tup (Is led))]) (GE s0 s1 (.v (.int (n : Int))) s3 s4 s5 s6 turn s10 s11 s12 (.o (.lst (Is led))) s14 s15 s17 s18 s19) := rfl
  have c : ev T K (.call 22 (.cons (.b1 .tuple (.v 13)) .nil)) (GE s0 s1 (.v (.int (n : Int))) s3 s4 s5 s6 turn s10 s11 s12 (.o (.lst (Is led))) s14 s15 s17 s18 s19) = .ok (.w (.tup (rs.map TI))) (GE s0 s1 (.v (.int (n : Int))) s3 s4 s5 s6 turn s10 s11 s12 (.o (.lst (Is led))) s14 s15 s17 s18 s19) := by
    rw [ev_call, a]
    show landed (K 22 [.v (.tup (Is led))]) _ = _
    rw [h led rs hr hl]
    rfl
  have d : b1W .len (.tup (rs.map TI)) = some (.w (I rs.length)) := by
    show some (R1.w (W.int ((rs.map TI).length : Int))) = _
    rw [List.length_map]; rfl
  rw [ex_asg, ev_b1, c, un1_w, d, ofO_some, resE_ok]
  show unitF (ofU (store 14 _ _)) = _
  rw [store_some (t := s14) rfl h14]
  rfl
end L26
end Iv
end

section
set_option linter.all false
set_option autoImplicit false
set_option maxRecDepth 100000
namespace Iv
namespace L26
variable (T : Tb) (K : Nat → List Sl → RF)
variable (s0 s1 s3 s4 s5 s6 s10 s11 s12 s13 s14 s15 s17 s18 s19 : Sl) (turn : List Nat) (n : Nat)
theorem add_int (a b : Nat) : binW .add (.int (a : Int)) (.int (b : Int)) = some (.w (.int ((a + b : Nat) : Int))) := by
  show some (R1.w (.int ((a : Int) + (b : Int)))) = _
  rw [Int.natCast_add]
/-- counts[points], total_sum = counts[points] + 1, total_sum + 1 -/
theorem st4 (cs led : List Nat) (t p : Nat) (hp : p < cs.length) :
    ex T K (.par [(.s 11 (.v 14)), (.p (.n 12))] (.consR (.bin .add (.ix (.v 11) (.v 14)) (.k (.int 1))) (.consR (.bin .add (.v 12) (.k (.int 1))) .nil))) (GE s0 s1 (.v (.int (n : Int))) s3 s4 s5 s6 turn s10 (.o (.lst (Is cs))) (.v (I t)) (.o (.lst (Is led))) (.v (I p)) s15 s17 s18 s19) = .ok .next (GE s0 s1 (.v (.int (n : Int))) s3 s4 s5 s6 turn s10 (.o (.lst (Is (cs.set p (cs.getD p 0 + 1))))) (.v (I (t + 1))) (.o (.lst (Is led))) (.v (I p)) s15 s17 s18 s19) := by
  generalize he : (fun cs t => GE s0 s1 (.v (.int (n : Int))) s3 s4 s5 s6 turn s10 (.o (.lst (Is cs))) (.v (I t)) (.o (.lst (Is led))) (.v (I p)) s15 s17 s18 s19) = en
  have he' : ∀ cs t, GE s0 s1 (.v (.int (n : Int))) s3 s4 s5 s6 turn s10 (.o (.lst (Is cs))) (.v (I t)) (.o (.lst (Is led))) (.v (I p)) s15 s17 s18 s19 = en cs t := fun cs t => by rw [← he]
  rw [he', he']
  have k1 : ∀ e, ev T K (.k (.int 1)) e = .ok (.w (.int ((1 : Nat) : Int))) e := fun e => rfl
  have i1 : ev T K (.ix (.v 11) (.v 14)) (en cs t) = .ok (.w (I (cs.getD p 0))) (en cs t) := by
    subst he
    show ofO (Option.map R1.w (ixW (.lst (Is cs)) (I p))) _ = _
    rw [ix_lst cs hp]; rfl
  have e1 : ev T K (.bin .add (.ix (.v 11) (.v 14)) (.k (.int 1))) (en cs t) = .ok (.w (I (cs.getD p 0 + 1))) (en cs t) := by
    rw [ev_bin, i1, un2_ww (k1 _)]
    exact congrArg (fun o => ofO o (en cs t)) (add_int (cs.getD p 0) 1)
  have i2 : ev T K (.v 12) (en cs t) = .ok (.w (I t)) (en cs t) := by subst he; rfl
  have e2 : ev T K (.bin .add (.v 12) (.k (.int 1))) (en cs t) = .ok (.w (I (t + 1))) (en cs t) := by
    rw [ev_bin, i2, un2_ww (k1 _)]
    exact congrArg (fun o => ofO o (en cs t)) (add_int t 1)
  have ee : ev T K (.consR (.bin .add (.ix (.v 11) (.v 14)) (.k (.int 1))) (.consR (.bin .add (.v 12) (.k (.int 1))) .nil)) (en cs t) = .ok (.l [.w (I (cs.getD p 0 + 1)), .w (I (t + 1))]) (en cs t) := by
    show consRE (ev T K (.bin .add (.ix (.v 11) (.v 14)) (.k (.int 1))) (en cs t)) _ = _
    rw [e1]
    show rsE (consRE (ev T K (.bin .add (.v 12) (.k (.int 1))) (en cs t)) _) _ = _
    rw [e2]
    rfl
  have p1 : put (ev T K) (.s 11 (.v 14)) (.w (I (cs.getD p 0 + 1))) (en cs t) = .ok () (en (cs.set p (cs.getD p 0 + 1)) t) := by
    subst he
    show ofU (match setW (.lst (Is cs)) (I p) (I (cs.getD p 0 + 1)) with | some y => some _ | none => none) = _
    rw [set_lst cs hp]; rfl
  have p2 : put (ev T K) (.p (.n 12)) (.w (I (t + 1))) (en (cs.set p (cs.getD p 0 + 1)) t) = .ok () (en (cs.set p (cs.getD p 0 + 1)) (t + 1)) := by
    subst he
    rfl
  show rsE (ev T K (.consR (.bin .add (.ix (.v 11) (.v 14)) (.k (.int 1))) (.consR (.bin .add (.v 12) (.k (.int 1))) .nil)) (en cs t)) (parE (ev T K) [(.s 11 (.v 14)), (.p (.n 12))]) = _
  rw [ee]
  show unitF (match put (ev T K) (.s 11 (.v 14)) (.w (I (cs.getD p 0 + 1))) (en cs t) with | .ok _ e' => puts (ev T K) [(.p (.n 12))] [.w (I (t + 1))] e' | .exn x e => .exn x e | .err => .err) = _
  rw [p1]
  show unitF (match put (ev T K) (.p (.n 12)) (.w (I (t + 1))) (en (cs.set p (cs.getD p 0 + 1)) t) with | .ok _ e' => puts (ev T K) [] [] e' | .exn x e => .exn x e | .err => .err) = _
  rw [p2]
  rfl
def cntL (lab : List Nat) (n : Nat) : Nat := ((List.range n).filter fun m => Nat.beq (lab.getD m 0) m).length
def H23 : Prop := ∀ (lab : List Nat) (orders : List (List Nat)) (n : Nat), n < 1000000 → (∀ own ∈ orders, Keeps lab own n) → (∀ j, j < n → lab.getD j 0 ≤ j) → ∃ ws, K 23 [.v (.tup (orders.map TI)), .v (.int (n : Int))] = .ok false (.tup ws) .n ∧ cntL lab n ≤ ws.length ∧ ws.length ≤ n
/-- lots = lots((tuple(turn), tuple(led)), 2 n) -/
theorem st5 (h : H23 K) (led lab : List Nat) (hn : n < 1000) (k1 : Keeps lab turn (2 * n)) (k2 : Keeps lab led (2 * n)) (hj : ∀ j, j < 2 * n → lab.getD j 0 ≤ j) (h15 : notP s15 = true) : ∃ ws, ex T K (.asg (.p (.n 15)) (.call 23 (.cons (.tup (.cons (.b1 .tuple (.v 9)) (.cons (.b1 .tuple (.v 13)) .nil))) (.cons (.bin .mul (.k (.int 2)) (.v 2)) .nil)))) (GE s0 s1 (.v (.int (n : Int))) s3 s4 s5 s6 turn s10 s11 s12 (.o (.lst (Is led))) s14 s15 s17 s18 s19) = .ok .next (GE s0 s1 (.v (.int (n : Int))) s3 s4 s5 s6 turn s10 s11 s12 (.o (.lst (Is led))) s14 (.v (.tup ws)) s17 s18 s19) ∧ cntL lab (2 * n) ≤ ws.length ∧ ws.length ≤ 2 * n := by
  obtain ⟨ws, h1, h2, h3⟩ := h lab [turn, led] (2 * n) (by omega) (by
    intro own ho
    rcases List.mem_cons.1 ho with rfl | ho
    · exact k1
    · rcases List.mem_cons.1 ho with rfl | ho
      · exact k2
      · cases ho) hj
  refine ⟨ws, ?_, h2, h3⟩
  generalize he : GE s0 s1 (.v (.int (n : Int))) s3 s4 s5 s6 turn s10 s11 s12 (.o (.lst (Is led))) s14 s15 s17 s18 s19 = en
  have tw := two_n T K n en (by rw [← he]; rfl)
  have tt : ev T K (.tup (.cons (.b1 .tuple (.v 9)) (.cons (.b1 .tuple (.v 13)) .nil))) en = .ok (.w (.tup [TI turn, TI led])) en := by subst he; rfl
  have a : ev T K (.cons (.tup (.cons (.b1 .tuple (.v 9)) (.cons (.b1 .tuple (.v 13)) .nil))) (.cons (.bin .mul (.k (.int 2)) (.v 2)) .nil)) en = .ok (.l [.w (.tup [TI turn, TI led]), .w (.int ((2 * n : Nat) : Int))]) en := by
    show consE (ev T K (.tup (.cons (.b1 .tuple (.v 9)) (.cons (.b1 .tuple (.v 13)) .nil))) en) _ = _
    rw [tt]
    show rsE (consE (ev T K (.bin .mul (.k (.int 2)) (.v 2)) en) _) _ = _
    rw [tw]
    rfl
  have c : ev T K (.call 23 (.cons (.tup (.cons (.b1 .tuple (.v 9)) (.cons (.b1 .tuple (.v 13)) .nil))) (.cons (.bin .mul (.k (.int 2)) (.v 2)) .nil))) en = .ok (.w (.tup ws)) en := by
    rw [ev_call, a]
    show landed (K 23 [.v (.tup ([turn, led].map TI)), .v (.int ((2 * n : Nat) : Int))]) _ = _
    rw [h1]
    rfl
  rw [ex_asg, c, resE_ok]
  subst he
  show unitF (ofU (store 15 _ _)) = _
  rw [store_some (t := s15) rfl h15]
  rfl
end L26
end Iv
end

section
set_option linter.all false
set_option autoImplicit false
set_option maxRecDepth 100000
namespace Iv
namespace L26
variable (T : Tb) (K : Nat → List Sl → RF)
variable (s0 s1 s3 s4 s5 s6 s10 s11 s12 s13 s14 s15 s17 s18 s19 : Sl) (turn : List Nat) (n : Nat)
def sumE : E := .bin .add (.bin .sub (.v 14) (.v 2)) (.b1 .len (.v 4))
def badE : E := .or (.cmp .ne (.bin .mod sumE (.k (.int 2))) (.k (.int 0))) (.cmp .gt sumE (.bin .mul (.k (.int 2)) (.b1 .len (.v 15))))
theorem ev_cmp (o : COp) (a b : E) (e : En) : ev T K (.cmp o a b) e = un2 (fun x y => bl (cmpW o x y)) (ev T K a e) (ev T K b) := rfl
theorem ev_or (a b : E) (e : En) : ev T K (.or a b) e = orE (ev T K a e) (ev T K b) := rfl
theorem orE_f {e : En} {b : En → RE R1} : orE (.ok (.w (.bl false)) e) b = b e := rfl
theorem ex_ite (c : E) (a b : S) (e : En) : ex T K (.ite c a b) e = iteE (tst (ev T K c e)) (ex T K a) (ex T K b) := rfl
/-- the genus's bound holds: on -/
theorem st6 (row : List Nat) (p : Nat) (ws : List W) (a : S) (led : List Nat) (h1 : ((p : Int) - (n : Int) + (row.length : Int)) % 2 = 0) (h2 : (p : Int) - (n : Int) + (row.length : Int) ≤ 2 * (ws.length : Int)) :
    ex T K (.ite badE a .nil) (GE s0 s1 (.v (.int (n : Int))) s3 (.v (.tup (Is row))) s5 s6 turn s10 s11 s12 s13 (.v (I p)) (.v (.tup ws)) s17 s18 s19) = .ok .next (GE s0 s1 (.v (.int (n : Int))) s3 (.v (.tup (Is row))) s5 s6 turn s10 s11 s12 s13 (.v (I p)) (.v (.tup ws)) s17 s18 s19) := by
  generalize he : GE s0 s1 (.v (.int (n : Int))) s3 (.v (.tup (Is row))) s5 s6 turn s10 s11 s12 s13 (.v (I p)) (.v (.tup ws)) s17 s18 s19 = en
  have kk : ∀ i : Int, ev T K (.k (.int i)) en = .ok (.w (.int i)) en := fun i => rfl
  have a0 : ev T K (.v 14) en = .ok (.w (.int (p : Int))) en := by subst he; rfl
  have a1 : ev T K (.v 2) en = .ok (.w (.int (n : Int))) en := by subst he; rfl
  have a2 : ev T K (.b1 .len (.v 4)) en = .ok (.w (.int (row.length : Int))) en := by
    subst he
    show RE.ok (R1.w (W.int ((Is row).length : Int))) _ = _
    rw [Is_length]
  have a3 : ev T K (.b1 .len (.v 15)) en = .ok (.w (.int (ws.length : Int))) en := by subst he; rfl
  have b1 : ev T K (.bin .sub (.v 14) (.v 2)) en = .ok (.w (.int ((p : Int) - (n : Int)))) en := by
    rw [ev_bin, a0, un2_ww a1]; rfl
  have b2 : ev T K sumE en = .ok (.w (.int ((p : Int) - (n : Int) + (row.length : Int)))) en := by
    unfold sumE
    rw [ev_bin, b1, un2_ww a2]; rfl
  have b3 : ev T K (.bin .mod sumE (.k (.int 2))) en = .ok (.w (.int 0)) en := by
    rw [ev_bin, b2, un2_ww (kk 2)]
    show ofO (some (R1.w (.int (((p : Int) - (n : Int) + (row.length : Int)) % 2)))) en = _
    rw [h1]
  have b4 : ev T K (.cmp .ne (.bin .mod sumE (.k (.int 2))) (.k (.int 0))) en = .ok (.w (.bl false)) en := by
    rw [ev_cmp, b3, un2_ww (kk 0)]; rfl
  have b5 : ev T K (.bin .mul (.k (.int 2)) (.b1 .len (.v 15))) en = .ok (.w (.int ((2 * ws.length : Nat) : Int))) en := by
    rw [ev_bin, kk 2, un2_ww a3]
    exact congrArg (fun o => ofO o en) (mul_int 2 ws.length (by omega))
  have b6 : ev T K (.cmp .gt sumE (.bin .mul (.k (.int 2)) (.b1 .len (.v 15)))) en = .ok (.w (.bl false)) en := by
    rw [ev_cmp, b2, un2_ww b5]
    show ofO (some (R1.w (.bl (decide (((2 * ws.length : Nat) : Int) < (p : Int) - (n : Int) + (row.length : Int)))))) en = _
    rw [decide_eq_false (by omega)]
  have b7 : ev T K badE en = .ok (.w (.bl false)) en := by
    unfold badE
    rw [ev_or, b4, orE_f, b6]
  rw [ex_ite, b7]
  rfl
end L26
end Iv
end

section
set_option linter.all false
set_option autoImplicit false
set_option maxRecDepth 100000
namespace Iv
namespace L26
variable (T : Tb) (K : Nat → List Sl → RF)
variable (s0 s1 s3 s4 s5 s6 s10 s11 s12 s13 s14 s15 s17 s18 s19 : Sl) (turn : List Nat) (n : Nat)
def lawB : S := (.cons (.asg (.p (.n 13)) (.bin .mul (.lst (.cons (.k (.int 0)) .nil)) (.bin .mul (.k (.int 2)) (.v 2)))) (.cons (.for (.t2 (.n 17) (.n 18)) (.v 6) ledB) (.cons (.asg (.p (.n 14)) (.b1 .len (.call 22 (.cons (.b1 .tuple (.v 13)) .nil)))) (.cons (.par [(.s 11 (.v 14)), (.p (.n 12))] (.consR (.bin .add (.ix (.v 11) (.v 14)) (.k (.int 1))) (.consR (.bin .add (.v 12) (.k (.int 1))) .nil))) (.cons (.asg (.p (.n 15)) (.call 23 (.cons (.tup (.cons (.b1 .tuple (.v 9)) (.cons (.b1 .tuple (.v 13)) .nil))) (.cons (.bin .mul (.k (.int 2)) (.v 2)) .nil)))) (.cons (.ite badE (.cons (.ret (.k (.bl false))) .nil) .nil) .nil))))))
def ledOf (turn : List Nat) (n : Nat) (ps : List (Nat × Nat)) : List Nat := ps.foldl (ledS turn) (List.replicate (2 * n) 0)
structure Good (turn : List Nat) (n r : Nat) (ps : List (Nat × Nat)) (p : Nat) : Prop where
  inn : ∀ q ∈ ps, q.1 < 2 * n ∧ q.2 < 2 * n
  rd : ∃ rs, rd (ledOf turn n ps) = some rs ∧ rs.length = p
  small : p < 2 * n + 1
  lab : ∃ lab, Keeps lab turn (2 * n) ∧ Keeps lab (ledOf turn n ps) (2 * n) ∧ (∀ j, j < 2 * n → lab.getD j 0 ≤ j) ∧ p + r ≤ 2 * cntL lab (2 * n) + n
  par : (p + r + n) % 2 = 0
theorem foldl_len (turn : List Nat) : ∀ (ps : List (Nat × Nat)) (l : List Nat), (ps.foldl (ledS turn) l).length = l.length
  | [], _ => rfl
  | q :: ps, l => by
    rw [List.foldl_cons, foldl_len turn ps]
    unfold ledS; simp
theorem lawB_run (h22 : H22 K) (h23 : H23 K) (row : List Nat) (ps : List (Nat × Nat)) (cs : List Nat) (t p : Nat) (g : Good turn n row.length ps p) (hn : n < 1000) (ht : turn.length = 2 * n) (hc : cs.length = 2 * n + 1) (h13 : notP s13 = true) (h14 : notP s14 = true) (h15 : notP s15 = true) (h17 : notP s17 = true) (h18 : notP s18 = true) :
    ∃ t13 t14 t15 t17 t18, ex T K lawB (GE s0 s1 (.v (.int (n : Int))) s3 (.v (.tup (Is row))) s5 (.v (.lst (ps.map PW))) turn s10 (.o (.lst (Is cs))) (.v (I t)) s13 s14 s15 s17 s18 s19) = .ok .next (GE s0 s1 (.v (.int (n : Int))) s3 (.v (.tup (Is row))) s5 (.v (.lst (ps.map PW))) turn s10 (.o (.lst (Is (cs.set p (cs.getD p 0 + 1))))) (.v (I (t + 1))) t13 t14 t15 t17 t18 s19) ∧ notP t13 = true ∧ notP t14 = true ∧ notP t15 = true ∧ notP t17 = true ∧ notP t18 = true := by
  obtain ⟨inn, ⟨rs, hrd, hrs⟩, small, ⟨lab, k1, k2, hj, hb⟩, par⟩ := g
  have hl : (ledOf turn n ps).length = 2 * n := by unfold ledOf; rw [foldl_len]; simp
  have a1 := st1 T K s0 s1 s3 (.v (.tup (Is row))) s5 (.v (.lst (ps.map PW))) s10 (.o (.lst (Is cs))) (.v (I t)) s13 s14 s15 s17 s18 s19 turn n hn h13
  obtain ⟨t17, t18, a2, g17, g18⟩ := st2 T K s0 s1 s3 (.v (.tup (Is row))) s5 s10 (.o (.lst (Is cs))) (.v (I t)) s14 s15 s17 s18 s19 turn n ps (List.replicate (2 * n) 0) (by rw [ht]; exact inn) (by rw [ht]; simp) h17 h18
  have a3 := st3 T K s0 s1 s3 (.v (.tup (Is row))) s5 (.v (.lst (ps.map PW))) s10 (.o (.lst (Is cs))) (.v (I t)) s14 s15 t17 t18 s19 turn n h22 (ledOf turn n ps) rs hrd (by omega) h14
  have a4 := st4 T K s0 s1 s3 (.v (.tup (Is row))) s5 (.v (.lst (ps.map PW))) s10 s15 t17 t18 s19 turn n cs (ledOf turn n ps) t rs.length (by omega)
  obtain ⟨ws, a5, w1, w2⟩ := st5 T K s0 s1 s3 (.v (.tup (Is row))) s5 (.v (.lst (ps.map PW))) s10 (.o (.lst (Is (cs.set rs.length (cs.getD rs.length 0 + 1))))) (.v (I (t + 1))) (.v (I rs.length)) s15 t17 t18 s19 turn n h23 (ledOf turn n ps) lab hn k1 k2 hj h15
  have a6 := st6 T K s0 s1 s3 s5 (.v (.lst (ps.map PW))) s10 (.o (.lst (Is (cs.set rs.length (cs.getD rs.length 0 + 1))))) (.v (I (t + 1))) (.o (.lst (Is (ledOf turn n ps)))) t17 t18 s19 turn n row rs.length ws (.cons (.ret (.k (.bl false))) .nil) (ledOf turn n ps) (by omega) (by omega)
  rw [hrs] at a3 a4 a5 a6
  have lo : ps.foldl (ledS turn) (List.replicate (2 * n) 0) = ledOf turn n ps := rfl
  rw [lo] at a2
  refine ⟨.o (.lst (Is (ledOf turn n ps))), .v (I p), .v (.tup ws), t17, t18, ?_, rfl, rfl, rfl, g17, g18⟩
  unfold lawB
  rw [ex_next a1, ex_next a2, ex_next a3, ex_next a4, ex_next a5, ex_next a6]
  rfl
/-- a list of pairings of the law, each with its number of points -/
theorem lawL_run (h22 : H22 K) (h23 : H23 K) (row : List Nat) (hn : n < 1000) (ht : turn.length = 2 * n) : ∀ (pss : List (List (Nat × Nat) × Nat)) (cs : List Nat) (t : Nat) (s6 s13 s14 s15 s17 s18 : Sl), (∀ g ∈ pss, Good turn n row.length g.1 g.2) → cs.length = 2 * n + 1 → notP s6 = true → notP s13 = true → notP s14 = true → notP s15 = true → notP s17 = true → notP s18 = true →
    ∃ t6 t13 t14 t15 t17 t18, forL (bindP (.n 6)) (ex T K lawB) (pss.map fun g => .lst (g.1.map PW)) (GE s0 s1 (.v (.int (n : Int))) s3 (.v (.tup (Is row))) s5 s6 turn s10 (.o (.lst (Is cs))) (.v (I t)) s13 s14 s15 s17 s18 s19) = .ok .next (GE s0 s1 (.v (.int (n : Int))) s3 (.v (.tup (Is row))) s5 t6 turn s10 (.o (.lst (Is (pss.foldl (fun cs g => cs.set g.2 (cs.getD g.2 0 + 1)) cs)))) (.v (I (t + pss.length))) t13 t14 t15 t17 t18 s19) ∧ notP t6 = true ∧ notP t13 = true ∧ notP t14 = true ∧ notP t15 = true ∧ notP t17 = true ∧ notP t18 = true
  | [], cs, t, s6, s13, s14, s15, s17, s18, _, _, h6, h13, h14, h15, h17, h18 => ⟨s6, s13, s14, s15, s17, s18, rfl, h6, h13, h14, h15, h17, h18⟩
  | g :: pss, cs, t, s6, s13, s14, s15, s17, s18, hg, hc, h6, h13, h14, h15, h17, h18 => by
    obtain ⟨t13, t14, t15, t17, t18, r, r13, r14, r15, r17, r18⟩ := lawB_run T K s0 s1 s3 s5 s10 s13 s14 s15 s17 s18 s19 turn n h22 h23 row g.1 cs t g.2 (hg g (List.mem_cons_self ..)) hn ht hc h13 h14 h15 h17 h18
    obtain ⟨u6, u13, u14, u15, u17, u18, q, q6, q13, q14, q15, q17, q18⟩ := lawL_run h22 h23 row hn ht pss (cs.set g.2 (cs.getD g.2 0 + 1)) (t + 1) (.v (.lst (g.1.map PW))) t13 t14 t15 t17 t18 (fun x hx => hg x (List.mem_cons_of_mem _ hx)) (by rw [List.length_set]; exact hc) rfl r13 r14 r15 r17 r18
    refine ⟨u6, u13, u14, u15, u17, u18, ?_, q6, q13, q14, q15, q17, q18⟩
    have b : bindP (.n 6) (.lst (g.1.map PW)) (GE s0 s1 (.v (.int (n : Int))) s3 (.v (.tup (Is row))) s5 s6 turn s10 (.o (.lst (Is cs))) (.v (I t)) s13 s14 s15 s17 s18 s19) = some (GE s0 s1 (.v (.int (n : Int))) s3 (.v (.tup (Is row))) s5 (.v (.lst (g.1.map PW))) turn s10 (.o (.lst (Is cs))) (.v (I t)) s13 s14 s15 s17 s18 s19) := store_some (t := s6) rfl h6
    rw [List.map_cons, for_next b r, q]
    rw [List.foldl_cons, List.length_cons, Nat.add_assoc, Nat.add_comm 1]
end L26
end Iv
end

section
set_option linter.all false
set_option autoImplicit false
set_option maxRecDepth 100000
namespace Iv
namespace L26
variable (T : Tb) (K : Nat → List Sl → RF)
def timesL (own turn : List Nat) : List Nat := own.map fun x => turn.getD x 0
theorem times_run (a b : List Nat) (h : ∀ x ∈ a, x < b.length) (hl : a.length < lim) : fin false (ex T K (.cons (.ret (.b1 .tuple (.lc [2] (.n 2) (.v 0) .nil (.ix (.v 1) (.v 2))))) .nil) [.v (.tup (Is a)), .v (.tup (Is b)), .n]) = .ok false (.tup (Is (timesL a b))) .n := by
  have hc := lcRun_map (own := [2]) (turn := lcTurn [2] (.n 2) none (lcEl (ev T K (.ix (.v 1) (.v 2))))) (e := [.v (.tup (Is a)), .v (.tup (Is b)), .n]) (fun w => match w with | .int i => I (b.getD i.toNat 0) | w => w) (Is a) (fun x hx => by
    obtain ⟨k, hk, rfl⟩ := mem_Is hx
    refine ⟨[.v (.tup (Is a)), .v (.tup (Is b)), .v (I k)], ?_, rfl⟩
    have q := ix_tup b (h k hk)
    show (match ofO (Option.map R1.w (ixW (.tup (Is b)) (I k))) _ with | .ok r e' => _ | _ => _) = _
    rw [q]; rfl) (by simpa using hl)
  show fin false (seqE (resE (un1 (b1W .tuple) (itE (lcRun [2] (.ok (Is a) _) (lcTurn [2] (.n 2) none (lcEl (ev T K (.ix (.v 1) (.v 2)))))) _)) retE) _) = _
  rw [hc]
  show RF.ok false (.tup ((Is a).map _)) .n = _
  have : (Is a).map (fun w => match w with | .int i => I (b.getD i.toNat 0) | w => w) = Is (timesL a b) := by
    unfold Is timesL
    rw [List.map_map, List.map_map]
    rfl
  rw [this]
def H6 : Prop := ∀ a b : List Nat, (∀ x ∈ a, x < b.length) → a.length < lim → K 6 [.v (.tup (Is a)), .v (.tup (Is b))] = .ok false (.tup (Is (timesL a b))) .n
def H8 : Prop := ∀ one rs, rd one = some rs → one.length < 1000000000 → K 8 [.v (.tup (Is one))] = .ok false (I rs.length) .n
def gmB : S := (.cons (.aug 3 .add (.call 8 (.cons (.call 6 (.cons (.v 4) (.cons (.v 1) .nil))) .nil)) (.k (.int 1))) .nil)
def GM (s0 : Sl) (turn : List Nat) (s2 : Sl) (cs : List Nat) (s4 : Sl) : En := [s0, .v (.tup (Is turn)), s2, .o (.lst (Is cs)), s4]
theorem ev_cons (a es : E) (e : En) : ev T K (.cons a es) e = consE (ev T K a e) (ev T K es) := rfl
theorem gmB_run (h6 : H6 K) (h8 : H8 K) (s0 s2 : Sl) (turn own cs : List Nat) (rs : List (List Nat)) (ho : ∀ x ∈ own, x < turn.length) (hl : own.length < 1000000) (hr : rd (timesL own turn) = some rs) (hc : rs.length < cs.length) :
    ex T K gmB (GM s0 turn s2 cs (.v (TI own))) = .ok .next (GM s0 turn s2 (cs.set rs.length (cs.getD rs.length 0 + 1)) (.v (TI own))) := by
  generalize he : GM s0 turn s2 cs (.v (TI own)) = en
  have a1 : ev T K (.cons (.v 4) (.cons (.v 1) .nil)) en = .ok (.l [.w (TI own), .w (TI turn)]) en := by subst he; rfl
  have c1 : ev T K (.call 6 (.cons (.v 4) (.cons (.v 1) .nil))) en = .ok (.w (TI (timesL own turn))) en := by
    rw [ev_call, a1]
    show landed (K 6 [.v (.tup (Is own)), .v (.tup (Is turn))]) _ = _
    rw [h6 own turn ho (by unfold lim; omega)]
    rfl
  have a2 : ev T K (.cons (.call 6 (.cons (.v 4) (.cons (.v 1) .nil))) .nil) en = .ok (.l [.w (TI (timesL own turn))]) en := by
    rw [ev_cons, c1]; rfl
  have c2 : ev T K (.call 8 (.cons (.call 6 (.cons (.v 4) (.cons (.v 1) .nil))) .nil)) en = .ok (.w (I rs.length)) en := by
    rw [ev_call, a2]
    show landed (K 8 [.v (.tup (Is (timesL own turn)))]) _ = _
    rw [h8 _ rs hr (by unfold timesL; rw [List.length_map]; omega)]
    rfl
  have x : ex T K (.aug 3 .add (.call 8 (.cons (.call 6 (.cons (.v 4) (.cons (.v 1) .nil))) .nil)) (.k (.int 1))) en = .ok .next (GM s0 turn s2 (cs.set rs.length (cs.getD rs.length 0 + 1)) (.v (TI own))) := by
    have m : hasE 3 en (resE (ev T K (.call 8 (.cons (.call 6 (.cons (.v 4) (.cons (.v 1) .nil))) .nil)) en) (augE 3 .add (ev T K (.k (.int 1))))) = resE (ev T K (.call 8 (.cons (.call 6 (.cons (.v 4) (.cons (.v 1) .nil))) .nil)) en) (augE 3 .add (ev T K (.k (.int 1)))) := by
      generalize resE (ev T K (.call 8 (.cons (.call 6 (.cons (.v 4) (.cons (.v 1) .nil))) .nil)) en) (augE 3 .add (ev T K (.k (.int 1)))) = r
      subst he; rfl
    show hasE 3 en _ = _
    rw [m, c2, resE_ok]
    subst he
    show (match ixW (.lst (Is cs)) (I rs.length) with | some (.int old) => resE _ (augE2 3 .add old (I rs.length)) | _ => .err) = _
    rw [ix_lst cs hc]
    show nxt (match setW (.lst (Is cs)) (I rs.length) (I (cs.getD rs.length 0 + 1)) with | some y => some _ | none => none) = _
    rw [set_lst cs hc]
    rfl
  unfold gmB
  rw [ex_next x]
  rfl
end L26
end Iv
end

section
set_option linter.all false
set_option autoImplicit false
set_option maxRecDepth 100000
namespace Iv
namespace L26
variable (T : Tb) (K : Nat → List Sl → RF)
theorem gmL_run (h6 : H6 K) (h8 : H8 K) (s0 s2 : Sl) (turn : List Nat) : ∀ (gs : List (List Nat × Nat)) (cs : List Nat) (s4 : Sl), (∀ g ∈ gs, (∀ x ∈ g.1, x < turn.length) ∧ g.1.length < 1000000 ∧ (∃ rs, rd (timesL g.1 turn) = some rs ∧ rs.length = g.2) ∧ g.2 < cs.length) → notP s4 = true → ∃ t4, forL (bindP (.n 4)) (ex T K gmB) (gs.map fun g => TI g.1) (GM s0 turn s2 cs s4) = .ok .next (GM s0 turn s2 (gs.foldl (fun cs g => cs.set g.2 (cs.getD g.2 0 + 1)) cs) t4) ∧ notP t4 = true
  | [], cs, s4, _, h4 => ⟨s4, rfl, h4⟩
  | g :: gs, cs, s4, h, h4 => by
    obtain ⟨ho, hl, ⟨rs, hr, hp⟩, hc⟩ := h g (List.mem_cons_self ..)
    have r := gmB_run T K h6 h8 s0 s2 turn g.1 cs rs ho hl hr (by omega)
    rw [hp] at r
    obtain ⟨t4, q, q4⟩ := gmL_run h6 h8 s0 s2 turn gs (cs.set g.2 (cs.getD g.2 0 + 1)) (.v (TI g.1)) (fun x hx => by
      obtain ⟨a, b, c, d⟩ := h x (List.mem_cons_of_mem _ hx)
      exact ⟨a, b, c, by rw [List.length_set]; exact d⟩) rfl
    refine ⟨t4, ?_, q4⟩
    have b : bindP (.n 4) (TI g.1) (GM s0 turn s2 cs s4) = some (GM s0 turn s2 cs (.v (TI g.1))) := store_some (t := s4) rfl h4
    rw [List.map_cons, for_next b r, q, List.foldl_cons]
def fGlue : S := (.cons (.expr (.call 15 (.cons (.v 0) .nil))) (.cons (.asg (.p (.n 1)) (.call 16 (.cons (.v 0) .nil))) (.cons (.asg (.p (.n 2)) (.bin .fdiv (.b1 .sum (.v 0)) (.k (.int 2)))) (.cons (.asg (.p (.n 3)) (.bin .mul (.lst (.cons (.k (.int 0)) .nil)) (.bin .add (.bin .mul (.k (.int 2)) (.v 2)) (.k (.int 1))))) (.cons (.for (.n 4) (.call 11 (.cons (.v 2) .nil)) gmB) (.cons (.ret (.b1 .tuple (.v 3))) .nil))))))
theorem glue_run (h6 : H6 K) (h8 : H8 K) (row turn : List Nat) (n : Nat) (hn : n < 1000) (gs : List (List Nat × Nat)) (fr15 : Bool) (w15 : W) (s15 : Sl) (c15 : K 15 [.v (.tup (Is row))] = .ok fr15 w15 s15) (c16 : K 16 [.v (.tup (Is row))] = .ok false (.tup (Is turn)) .n) (c11 : K 11 [.v (.int (n : Int))] = .ok false (.tup (gs.map fun g => TI g.1)) .n) (hs : b1W .sum (.tup (Is row)) = some (.w (.int ((2 * n : Nat) : Int))))
    (h : ∀ g ∈ gs, (∀ x ∈ g.1, x < turn.length) ∧ g.1.length < 1000000 ∧ (∃ rs, rd (timesL g.1 turn) = some rs ∧ rs.length = g.2) ∧ g.2 < 2 * n + 1) :
    fin false (ex T K fGlue [.v (.tup (Is row)), .n, .n, .n, .n]) = .ok false (.tup (Is (gs.foldl (fun cs g => cs.set g.2 (cs.getD g.2 0 + 1)) (List.replicate (2 * n + 1) 0)))) .n := by
  have v0 : ∀ e : En, e[0]? = some (.v (.tup (Is row))) → ev T K (.cons (.v 0) .nil) e = .ok (.l [.w (.tup (Is row))]) e := by
    intro e he
    have : ev T K (.v 0) e = .ok (.w (.tup (Is row))) e := by show evV 0 e = _; unfold evV; rw [he]
    rw [ev_cons, this]; rfl
  have a1 : ex T K (.expr (.call 15 (.cons (.v 0) .nil))) [.v (.tup (Is row)), .n, .n, .n, .n] = .ok .next [.v (.tup (Is row)), .n, .n, .n, .n] := by
    show resE (ev T K (.call 15 (.cons (.v 0) .nil)) _) _ = _
    rw [ev_call, v0 _ rfl]
    show resE (landed (K 15 [.v (.tup (Is row))]) _) _ = _
    rw [c15]; rfl
  have a2 : ex T K (.asg (.p (.n 1)) (.call 16 (.cons (.v 0) .nil))) [.v (.tup (Is row)), .n, .n, .n, .n] = .ok .next [.v (.tup (Is row)), .v (.tup (Is turn)), .n, .n, .n] := by
    rw [ex_asg, ev_call, v0 _ rfl]
    show resE (landed (K 16 [.v (.tup (Is row))]) _) _ = _
    rw [c16]; rfl
  have a3 : ex T K (.asg (.p (.n 2)) (.bin .fdiv (.b1 .sum (.v 0)) (.k (.int 2)))) [.v (.tup (Is row)), .v (.tup (Is turn)), .n, .n, .n] = .ok .next [.v (.tup (Is row)), .v (.tup (Is turn)), .v (.int (n : Int)), .n, .n] := by
    have z : ev T K (.v 0) [.v (.tup (Is row)), .v (.tup (Is turn)), .n, .n, .n] = .ok (.w (.tup (Is row))) [.v (.tup (Is row)), .v (.tup (Is turn)), .n, .n, .n] := rfl
    have d : binW .fdiv (.int ((2 * n : Nat) : Int)) (.int 2) = some (.w (.int (n : Int))) := by
      show (if 0 < (2 : Int) ∧ (2 : Int).natAbs.log2 < 9000 then some (R1.w (.int (((2 * n : Nat) : Int) / 2))) else none) = _
      rw [if_pos (by decide)]
      have : (((2 * n : Nat) : Int) / 2) = (n : Int) := by omega
      rw [this]
    have k2 : ev T K (.k (.int 2)) [.v (.tup (Is row)), .v (.tup (Is turn)), .n, .n, .n] = .ok (.w (.int 2)) [.v (.tup (Is row)), .v (.tup (Is turn)), .n, .n, .n] := rfl
    rw [ex_asg, ev_bin, ev_b1, z, un1_w, hs, ofO_some, un2_ww k2, d, ofO_some, resE_ok]
    rfl
  have a4 : ex T K (.asg (.p (.n 3)) (.bin .mul (.lst (.cons (.k (.int 0)) .nil)) (.bin .add (.bin .mul (.k (.int 2)) (.v 2)) (.k (.int 1))))) [.v (.tup (Is row)), .v (.tup (Is turn)), .v (.int (n : Int)), .n, .n] = .ok .next (GM (.v (.tup (Is row))) turn (.v (.int (n : Int))) (List.replicate (2 * n + 1) 0) .n) := by
    generalize he : ([.v (.tup (Is row)), .v (.tup (Is turn)), .v (.int (n : Int)), .n, .n] : En) = en
    have l : ev T K (.lst (.cons (.k (.int 0)) .nil)) en = .ok (.f (.lst [I 0])) en := by subst he; rfl
    have k1 : ev T K (.k (.int 1)) en = .ok (.w (.int ((1 : Nat) : Int))) en := rfl
    have m : ev T K (.bin .add (.bin .mul (.k (.int 2)) (.v 2)) (.k (.int 1))) en = .ok (.w (.int ((2 * n + 1 : Nat) : Int))) en := by
      rw [ev_bin, two_n T K n en (by rw [← he]; rfl), un2_ww k1, add_int, ofO_some]
    rw [ex_asg, ev_bin, l, un2_fw m, mul_lst 0 (2 * n + 1) (by omega), ofO_some, resE_ok]
    subst he
    rfl
  obtain ⟨t4, q, q4⟩ := gmL_run T K h6 h8 (.v (.tup (Is row))) (.v (.int (n : Int))) turn gs (List.replicate (2 * n + 1) 0) .n (by
    intro g hg
    obtain ⟨a, b, c, d⟩ := h g hg
    exact ⟨a, b, c, by rw [List.length_replicate]; exact d⟩) rfl
  have it : asItems (ev T K (.call 11 (.cons (.v 2) .nil)) (GM (.v (.tup (Is row))) turn (.v (.int (n : Int))) (List.replicate (2 * n + 1) 0) .n)) = .ok (gs.map fun g => TI g.1) (GM (.v (.tup (Is row))) turn (.v (.int (n : Int))) (List.replicate (2 * n + 1) 0) .n) := by
    have z : ev T K (.cons (.v 2) .nil) (GM (.v (.tup (Is row))) turn (.v (.int (n : Int))) (List.replicate (2 * n + 1) 0) .n) = .ok (.l [.w (.int (n : Int))]) (GM (.v (.tup (Is row))) turn (.v (.int (n : Int))) (List.replicate (2 * n + 1) 0) .n) := rfl
    rw [ev_call, z]
    show asItems (landed (K 11 [.v (.int (n : Int))]) _) = _
    rw [c11]; rfl
  have a5 := for_items T K (p := .n 4) (b := gmB) it q
  unfold fGlue
  rw [ex_next a1, ex_next a2, ex_next a3, ex_next a4, ex_next a5]
  rfl
end L26
end Iv
end

section
set_option linter.all false
set_option autoImplicit false
set_option maxRecDepth 100000
namespace Iv
namespace Dr
/-! The draws of every law. -/
variable (T : Tb) (K : Nat → List Sl → RF)
def stB : S := (.cons (.asg (.p (.n 1)) (.bin .add (.bin .mul (.v 1) (.k (.int 1000003))) (.b1 .abs (.v 3)))) (.cons (.asg (.p (.n 2)) (.bin .mod (.b1 .int (.bin .add (.bin .mul (.v 2) (.k (.int 48271))) (.v 3))) (.k (.int 2147483647)))) .nil))
def fState : S := (.cons (.asg (.p (.n 1)) (.k (.int 0))) (.cons (.asg (.p (.n 2)) (.k (.int 1))) (.cons (.for (.n 3) (.sl (.v 0) .nil (.k (.int 63)))
stB) (.cons (.ret (.lst (.cons (.v 1) (.cons (.ite (.cmp .ne (.v 2) (.k (.int 1973665155))) (.v 2) (.k (.int 7))) .nil)))) .nil))))
theorem mulI (i j : Int) (h : j.natAbs < 18446744073709551616) : binW .mul (.int i) (.int j) = some (.w (.int (i * j))) := by
  have e : mulOk i j = true := by
    unfold mulOk
    rw [decide_eq_true h]
    simp
  show (if mulOk i j = true then some (R1.w (.int (i * j))) else none) = _
  rw [if_pos e]
theorem modI (i j : Int) (h : 0 < j) : binW .mod (.int i) (.int j) = some (.w (.int (i % j))) := by
  show (if 0 < j then some (R1.w (.int (i % j))) else none) = _
  rw [if_pos h]
theorem fdivI (i j : Int) (h : 0 < j) (h2 : j.natAbs.log2 < 9000) : binW .fdiv (.int i) (.int j) = some (.w (.int (i / j))) := by
  show (if 0 < j ∧ j.natAbs.log2 < 9000 then some (R1.w (.int (i / j))) else none) = _
  rw [if_pos ⟨h, h2⟩]
theorem addI (i j : Int) : binW .add (.int i) (.int j) = some (.w (.int (i + j))) := rfl
theorem un2_eq {f : W → W → Option R1} {x y : W} {e e1 e2 : En} {a : RE R1} {g : En → RE R1} (ha : a = .ok (.w x) e1) (hg : g e1 = .ok (.w y) e2) : un2 f a g = ofO (f x y) e2 := by
  rw [ha, L26.un2_ww hg]
theorem bin_ww {o : BOp} {a b : E} {x y : W} {e : En} (ha : ev T K a e = .ok (.w x) e) (hb : ev T K b e = .ok (.w y) e) : ev T K (.bin o a b) e = ofO (binW o x y) e := by
  rw [L26.ev_bin, ha, L26.un2_ww hb]
def stEn (s0 : Sl) (a b : Int) (s3 : Sl) : En := [s0, .v (.int a), .v (.int b), s3]
theorem stB_run (s0 : Sl) (a b x : Int) : ex T K stB (stEn s0 a b (.v (.int x))) = .ok .next (stEn s0 (a * 1000003 + (if x < 0 then -x else x)) ((b * 48271 + x) % 2147483647) (.v (.int x))) := by
  have e1 : ev T K (.bin .mul (.v 1) (.k (.int 1000003))) (stEn s0 a b (.v (.int x))) = .ok (.w (.int (a * 1000003))) (stEn s0 a b (.v (.int x))) := by
    show ofO (binW .mul (.int a) (.int 1000003)) _ = _
    rw [mulI a 1000003 (by decide), ofO_some]
  have a1 : ex T K (.asg (.p (.n 1)) (.bin .add (.bin .mul (.v 1) (.k (.int 1000003))) (.b1 .abs (.v 3)))) (stEn s0 a b (.v (.int x))) = .ok .next (stEn s0 (a * 1000003 + (if x < 0 then -x else x)) b (.v (.int x))) := by
    rw [ex_asg, L26.ev_bin, e1]; rfl
  generalize a * 1000003 + (if x < 0 then -x else x) = a' at a1 ⊢
  have e2 : ev T K (.bin .mul (.v 2) (.k (.int 48271))) (stEn s0 a' b (.v (.int x))) = .ok (.w (.int (b * 48271))) (stEn s0 a' b (.v (.int x))) := by
    show ofO (binW .mul (.int b) (.int 48271)) _ = _
    rw [mulI b 48271 (by decide), ofO_some]
  have e3 : ev T K (.b1 .int (.bin .add (.bin .mul (.v 2) (.k (.int 48271))) (.v 3))) (stEn s0 a' b (.v (.int x))) = .ok (.w (.int (b * 48271 + x))) (stEn s0 a' b (.v (.int x))) := by
    rw [ev_b1, L26.ev_bin, e2]; rfl
  have a2 : ex T K (.asg (.p (.n 2)) (.bin .mod (.b1 .int (.bin .add (.bin .mul (.v 2) (.k (.int 48271))) (.v 3))) (.k (.int 2147483647)))) (stEn s0 a' b (.v (.int x))) = .ok .next (stEn s0 a' ((b * 48271 + x) % 2147483647) (.v (.int x))) := by
    rw [ex_asg, bin_ww T K e3 (y := .int 2147483647) rfl, modI _ _ (by decide), ofO_some]; rfl
  unfold stB
  rw [ex_next a1, ex_next a2]
  rfl
theorem stL_run (s0 : Sl) : ∀ (xs : List Int) (a b : Int) (s3 : Sl), notP s3 = true → 0 ≤ a → 0 ≤ b → ∃ a' b' s3', forL (bindP (.n 3)) (ex T K stB) (xs.map .int) (stEn s0 a b s3) = .ok .next (stEn s0 a' b' s3') ∧ 0 ≤ a' ∧ 0 ≤ b'
  | [], a, b, s3, _, ha, hb => ⟨a, b, s3, rfl, ha, hb⟩
  | x :: xs, a, b, s3, h3, ha, hb => by
    obtain ⟨a', b', s3', q, qa, qb⟩ := stL_run s0 xs (a * 1000003 + (if x < 0 then -x else x)) ((b * 48271 + x) % 2147483647) (.v (.int x)) rfl (by split <;> omega) (Int.emod_nonneg _ (by decide))
    refine ⟨a', b', s3', ?_, qa, qb⟩
    rw [List.map_cons]
    exact (for_next (e1 := stEn s0 a b (.v (.int x))) (store_some (t := s3) rfl h3) (stB_run T K s0 a b x)).trans q
theorem state_run (ns : List Int) (h : ns.length ≤ 63) : ∃ a b : Int, 0 ≤ a ∧ 0 ≤ b ∧ fin false (ex T K fState [.v (.scr (ns.map .int)), .n, .n, .n]) = .ok true (.lst [.int a, .int b]) .n := by
  obtain ⟨a, b, s3, q, ha, hb⟩ := stL_run T K (.v (.scr (ns.map .int))) ns 0 1 .n rfl (by decide) (by decide)
  have hc : cut (ns.map W.int) none (some 63) = ns.map W.int := by
    unfold cut
    have l : (ns.map W.int).length = ns.length := List.length_map ..
    have s1 : sIx (ns.map W.int).length 0 none = 0 := rfl
    have s2 : sIx (ns.map W.int).length (ns.map W.int).length (some 63) = ns.length := by
      rw [l]
      unfold sIx
      dsimp only
      rw [if_neg (by decide)]
      show min 63 ns.length = _
      omega
    rw [s1, s2, List.drop_zero, Nat.sub_zero]; exact List.take_of_length_le (by omega)
  have it : asItems (ev T K (.sl (.v 0) .nil (.k (.int 63))) (stEn (.v (.scr (ns.map .int))) 0 1 .n)) = .ok (ns.map .int) (stEn (.v (.scr (ns.map .int))) 0 1 .n) := by
    show asItems (ofO (some (R1.f (.lst (cut (ns.map W.int) none (some 63))))) _) = _
    rw [hc]; rfl
  have a3 := for_items T K (p := .n 3) (b := stB) it q
  have a1 : ex T K (.asg (.p (.n 1)) (.k (.int 0))) [.v (.scr (ns.map .int)), .n, .n, .n] = .ok .next [.v (.scr (ns.map .int)), .v (.int 0), .n, .n] := rfl
  have a2 : ex T K (.asg (.p (.n 2)) (.k (.int 1))) [.v (.scr (ns.map .int)), .v (.int 0), .n, .n] = .ok .next (stEn (.v (.scr (ns.map .int))) 0 1 .n) := rfl
  refine ⟨a, if b ≠ 1973665155 then b else 7, ha, by split <;> omega, ?_⟩
  unfold fState
  rw [ex_next a1, ex_next a2, ex_next a3]
  have c : ev T K (.ite (.cmp .ne (.v 2) (.k (.int 1973665155))) (.v 2) (.k (.int 7))) (stEn (.v (.scr (ns.map .int))) a b s3) = .ok (.w (.int (if b ≠ 1973665155 then b else 7))) (stEn (.v (.scr (ns.map .int))) a b s3) := by
    show iteE (RE.ok (!(b == 1973665155)) (stEn (.v (.scr (ns.map .int))) a b s3)) _ _ = _
    by_cases hb' : b = 1973665155
    · subst hb'; rfl
    · have : (b == 1973665155) = false := by simpa using hb'
      rw [this, if_pos hb']; rfl
  have d : ev T K (.cons (.v 1) (.cons (.ite (.cmp .ne (.v 2) (.k (.int 1973665155))) (.v 2) (.k (.int 7))) .nil)) (stEn (.v (.scr (ns.map .int))) a b s3) = .ok (.l [.w (.int a), .w (.int (if b ≠ 1973665155 then b else 7))]) (stEn (.v (.scr (ns.map .int))) a b s3) := by
    rw [L26.ev_cons]
    have v1 : ev T K (.v 1) (stEn (.v (.scr (ns.map .int))) a b s3) = .ok (.w (.int a)) (stEn (.v (.scr (ns.map .int))) a b s3) := rfl
    rw [v1]
    show rsE (ev T K (.cons (.ite (.cmp .ne (.v 2) (.k (.int 1973665155))) (.v 2) (.k (.int 7))) .nil) _) _ = _
    rw [L26.ev_cons, c]
    rfl
  have g : ex T K (.ret (.lst (.cons (.v 1) (.cons (.ite (.cmp .ne (.v 2) (.k (.int 1973665155))) (.v 2) (.k (.int 7))) .nil)))) (stEn (.v (.scr (ns.map .int))) a b s3) = .ok (.ret true (.lst [.int a, .int (if b ≠ 1973665155 then b else 7)])) (stEn (.v (.scr (ns.map .int))) a b s3) := by
    rw [ex_ret]
    show resE (argsE (ev T K (.cons (.v 1) (.cons (.ite (.cmp .ne (.v 2) (.k (.int 1973665155))) (.v 2) (.k (.int 7))) .nil)) _) lstE) _ = _
    rw [d]
    rfl
  exact fin_cons_ret T K g
def fTake : S := (.cons (.ite (.cmp .gt (.ix (.v 0) (.k (.int 0))) (.k (.int 0)))
(.cons (.asg (.p (.n 2)) (.bin .mod (.b1 .int (.ix (.v 0) (.k (.int 0)))) (.v 1))) (.cons (.asg (.s 0 (.k (.int 0))) (.bin .fdiv (.ix (.v 0) (.k (.int 0))) (.v 1))) (.cons (.ret (.v 2)) .nil)))
.nil) (.cons (.asg (.s 0 (.k (.int 1))) (.bin .mod (.b1 .int (.bin .add (.bin .mul (.ix (.v 0) (.k (.int 1))) (.k (.int 48271))) (.k (.int 11)))) (.k (.int 2147483647)))) (.cons (.ret (.bin .mod (.b1 .int (.bin .fdiv (.ix (.v 0) (.k (.int 1))) (.k (.int 7)))) (.v 1))) .nil)))
def St (a b : Int) : W := .lst [.int a, .int b]
theorem take_run (a b : Int) (m : Nat) (ha : 0 ≤ a) (hb : 0 ≤ b) (hm : 0 < m) (hm2 : m < 1000000) : ∃ (v : Nat) (a' b' : Int), v < m ∧ 0 ≤ a' ∧ 0 ≤ b' ∧ fin true (ex T K fTake [.p (St a b), .v (I m), .n]) = .ok false (I v) (.p (St a' b')) := by
  have hm' : (0 : Int) < (m : Int) := by omega
  have hl : ((m : Int)).natAbs.log2 < 9000 := by
    rw [Int.natAbs_natCast]
    have : m.log2 < 20 := Nat.log2_lt (by omega) |>.2 (by omega)
    omega
  by_cases h : a > 0
  · refine ⟨(a % m).toNat, a / m, b, ?_, Int.ediv_nonneg ha (by omega), hb, ?_⟩
    · have := Int.emod_lt_of_pos a hm'
      have := Int.emod_nonneg a (b := m) (by omega)
      omega
    have hv : I (a % m).toNat = .int (a % m) := by
      have := Int.emod_nonneg a (b := m) (by omega)
      show W.int ((a % m).toNat : Int) = _
      rw [Int.toNat_of_nonneg this]
    rw [hv]
    have t : ev T K (.cmp .gt (.ix (.v 0) (.k (.int 0))) (.k (.int 0))) [.p (St a b), .v (I m), .n] = .ok (.w (.bl true)) [.p (St a b), .v (I m), .n] := by
      show RE.ok (R1.w (W.bl (decide (0 < a)))) _ = _
      rw [decide_eq_true h]
    have e1 : ev T K (.bin .mod (.b1 .int (.ix (.v 0) (.k (.int 0)))) (.v 1)) [.p (St a b), .v (I m), .n] = .ok (.w (.int (a % m))) [.p (St a b), .v (I m), .n] := by
      rw [bin_ww T K (x := .int a) (y := .int m) rfl rfl, modI _ _ hm', ofO_some]
    have a1 : ex T K (.asg (.p (.n 2)) (.bin .mod (.b1 .int (.ix (.v 0) (.k (.int 0)))) (.v 1))) [.p (St a b), .v (I m), .n] = .ok .next [.p (St a b), .v (I m), .v (.int (a % m))] := by
      rw [ex_asg, e1]; rfl
    have e2 : ev T K (.bin .fdiv (.ix (.v 0) (.k (.int 0))) (.v 1)) [.p (St a b), .v (I m), .v (.int (a % m))] = .ok (.w (.int (a / m))) [.p (St a b), .v (I m), .v (.int (a % m))] := by
      rw [bin_ww T K (x := .int a) (y := .int m) rfl rfl, fdivI _ _ hm' hl, ofO_some]
    have a2 : ex T K (.asg (.s 0 (.k (.int 0))) (.bin .fdiv (.ix (.v 0) (.k (.int 0))) (.v 1))) [.p (St a b), .v (I m), .v (.int (a % m))] = .ok .next [.p (St (a / m) b), .v (I m), .v (.int (a % m))] := by
      rw [ex_asg, e2]; rfl
    unfold fTake
    rw [ex_cons, L26.ex_ite, t]
    show fin true (seqE (ex T K (.cons _ (.cons _ (.cons (.ret (.v 2)) .nil))) [.p (St a b), .v (I m), .n]) _) = _
    rw [ex_next a1, ex_next a2]
    rfl
  · have t : ev T K (.cmp .gt (.ix (.v 0) (.k (.int 0))) (.k (.int 0))) [.p (St a b), .v (I m), .n] = .ok (.w (.bl false)) [.p (St a b), .v (I m), .n] := by
      show RE.ok (R1.w (W.bl (decide (0 < a)))) _ = _
      rw [decide_eq_false h]
    have hb1 : 0 ≤ (b * 48271 + 11) % 2147483647 := Int.emod_nonneg _ (by decide)
    refine ⟨((b * 48271 + 11) % 2147483647 / 7 % m).toNat, a, (b * 48271 + 11) % 2147483647, ?_, ha, hb1, ?_⟩
    · have := Int.emod_lt_of_pos ((b * 48271 + 11) % 2147483647 / 7) hm'
      have := Int.emod_nonneg ((b * 48271 + 11) % 2147483647 / 7) (b := m) (by omega)
      omega
    have hv : I ((b * 48271 + 11) % 2147483647 / 7 % m).toNat = .int ((b * 48271 + 11) % 2147483647 / 7 % m) := by
      have := Int.emod_nonneg ((b * 48271 + 11) % 2147483647 / 7) (b := m) (by omega)
      show W.int (((b * 48271 + 11) % 2147483647 / 7 % m).toNat : Int) = _
      rw [Int.toNat_of_nonneg this]
    rw [hv]
    have e0 : ev T K (.bin .mul (.ix (.v 0) (.k (.int 1))) (.k (.int 48271))) [.p (St a b), .v (I m), .n] = .ok (.w (.int (b * 48271))) [.p (St a b), .v (I m), .n] := by
      rw [bin_ww T K (x := .int b) (y := .int 48271) rfl rfl, mulI _ _ (by decide), ofO_some]
    have e1 : ev T K (.b1 .int (.bin .add (.bin .mul (.ix (.v 0) (.k (.int 1))) (.k (.int 48271))) (.k (.int 11)))) [.p (St a b), .v (I m), .n] = .ok (.w (.int (b * 48271 + 11))) [.p (St a b), .v (I m), .n] := by
      rw [ev_b1, L26.ev_bin, e0]; rfl
    have e2 : ev T K (.bin .mod (.b1 .int (.bin .add (.bin .mul (.ix (.v 0) (.k (.int 1))) (.k (.int 48271))) (.k (.int 11)))) (.k (.int 2147483647))) [.p (St a b), .v (I m), .n] = .ok (.w (.int ((b * 48271 + 11) % 2147483647))) [.p (St a b), .v (I m), .n] := by
      rw [bin_ww T K e1 (y := .int 2147483647) rfl, modI _ _ (by decide), ofO_some]
    have a1 : ex T K (.asg (.s 0 (.k (.int 1))) (.bin .mod (.b1 .int (.bin .add (.bin .mul (.ix (.v 0) (.k (.int 1))) (.k (.int 48271))) (.k (.int 11)))) (.k (.int 2147483647)))) [.p (St a b), .v (I m), .n] = .ok .next [.p (St a ((b * 48271 + 11) % 2147483647)), .v (I m), .n] := by
      rw [ex_asg, e2]; rfl
    generalize (b * 48271 + 11) % 2147483647 = b' at a1 hb1 ⊢
    have e3 : ev T K (.bin .fdiv (.ix (.v 0) (.k (.int 1))) (.k (.int 7))) [.p (St a b'), .v (I m), .n] = .ok (.w (.int (b' / 7))) [.p (St a b'), .v (I m), .n] := by
      rw [bin_ww T K (x := .int b') (y := .int 7) rfl rfl, fdivI _ _ (by decide) (by decide), ofO_some]
    have e4 : ev T K (.b1 .int (.bin .fdiv (.ix (.v 0) (.k (.int 1))) (.k (.int 7)))) [.p (St a b'), .v (I m), .n] = .ok (.w (.int (b' / 7))) [.p (St a b'), .v (I m), .n] := by
      rw [ev_b1, e3]; rfl
    have e5 : ev T K (.bin .mod (.b1 .int (.bin .fdiv (.ix (.v 0) (.k (.int 1))) (.k (.int 7)))) (.v 1)) [.p (St a b'), .v (I m), .n] = .ok (.w (.int (b' / 7 % m))) [.p (St a b'), .v (I m), .n] := by
      rw [bin_ww T K e4 (y := .int m) rfl, modI _ _ hm', ofO_some]
    unfold fTake
    rw [ex_cons, L26.ex_ite, t]
    show fin true (ex T K (.cons _ (.cons (.ret _) .nil)) [.p (St a b), .v (I m), .n]) = _
    rw [ex_next a1, ex_cons, ex_ret, e5]
    rfl
end Dr
end Iv
end

section
set_option linter.all false
set_option autoImplicit false
set_option maxRecDepth 1000000
namespace Iv
namespace L26
noncomputable section
variable {ω : Type}
def memC (x : Nat) (s : List Nat) : Bool := @List.rec Nat (fun _ => Bool) false (fun y _ ih => @Bool.rec (fun _ => Bool) ih true (Nat.beq y x)) s
theorem memC_eq (x : Nat) : ∀ s : List Nat, memC x s = mem x s
  | [] => rfl
  | y :: ys => by
    show @Bool.rec (fun _ => Bool) (memC x ys) true (Nat.beq y x) = (match Nat.beq y x with | true => true | false => mem x ys)
    rw [memC_eq x ys]
    cases Nat.beq y x <;> rfl
def nthC (xs : List Nat) : Nat → ω → (Nat → ω) → ω := @List.rec Nat (fun _ => Nat → ω → (Nat → ω) → ω) (fun _ z _ => z) (fun x _ ih n z k => @Nat.rec (fun _ => ω) (k x) (fun m _ => ih m z k) n) xs
theorem nthC_eq : ∀ (xs : List Nat) (n : Nat) (z : ω) (k : Nat → ω), nthC xs n z k = optK xs[n]? z k
  | [], n, z, k => rfl
  | x :: xs, 0, z, k => rfl
  | x :: xs, n + 1, z, k => by
    show nthC xs n z k = _
    rw [nthC_eq xs n]; rfl
def wcC (one : List Nat) (m : Nat) : List Nat → Nat → ω → (List Nat → ω) → ω := @Nat.rec (fun _ => List Nat → Nat → ω → (List Nat → ω) → ω) (fun _ _ z _ => z) (fun _ ih s x z k => ifK (memC x s) (k s) (nthC one x z fun y => fNat y fun y => appC [x] s fun s => ih s y z k)) m
theorem wcC_eq (one : List Nat) : ∀ (m : Nat) (s r : List Nat) (x : Nat) (z : ω) (k : List Nat → ω), wcC one m s x z k = optK (wh one m s r x) z fun q => k q.1
  | 0, s, r, x, z, k => rfl
  | m + 1, s, r, x, z, k => by
    show ifK (memC x s) (k s) (nthC one x z fun y => fNat y fun y => appC [x] s fun s => wcC one m s y z k) = _
    rw [memC_eq]
    unfold wh
    cases mem x s with
    | true => rfl
    | false =>
      show nthC one x z _ = _
      rw [nthC_eq]
      cases one[x]? with
      | none => rfl
      | some y =>
        show (fNat y fun y => appC [x] s fun s => wcC one m s y z k) = optK (wh one m (s ++ [x]) (r ++ [x]) y) z fun q => k q.1
        rw [fNat_eq, appC_eq, wcC_eq one m (s ++ [x]) (r ++ [x])]
def rcC26 (one : List Nat) (ks : List Nat) : List Nat → Nat → ω → (Nat → ω) → ω := @List.rec Nat (fun _ => List Nat → Nat → ω → (Nat → ω) → ω) (fun _ c _ k => k c) (fun x _ ih s c z k => ifK (memC x s) (ih s c z k) (ifK (Nat.ble s.length 9999) (ifK (Nat.ble c 9999) (wcC one 99 s x z fun s => fNat (Nat.succ c) fun c => ih s c z k) z) z)) ks
theorem rcC26_eq (one : List Nat) : ∀ (ks s : List Nat) (f : List (List Nat)) (z : ω) (k : Nat → ω), rcC26 one ks s f.length z k = optK (rdF one ks s f) z fun q => k q.length
  | [], s, f, z, k => rfl
  | x :: ks, s, f, z, k => by
    show ifK (memC x s) (rcC26 one ks s f.length z k) (ifK (Nat.ble s.length 9999) (ifK (Nat.ble f.length 9999) (wcC one 99 s x z fun s => fNat (Nat.succ f.length) fun c => rcC26 one ks s c z k) z) z) = _
    rw [memC_eq]
    unfold rdF
    cases mem x s with
    | true => exact rcC26_eq one ks s f z k
    | false =>
      show ifK (Nat.ble s.length 9999) (ifK (Nat.ble f.length 9999) _ z) z = optK (match Nat.ble s.length 9999 && Nat.ble f.length 9999 with | true => _ | false => none) z _
      cases Nat.ble s.length 9999 with
      | false => rfl
      | true =>
        cases Nat.ble f.length 9999 with
        | false => rfl
        | true =>
          show wcC one 99 s x z _ = optK (match wh one 99 s [] x with | some q => _ | none => none) z _
          rw [wcC_eq one 99 s [] x]
          cases wh one 99 s [] x with
          | none => rfl
          | some q =>
            show fNat (Nat.succ f.length) _ = _
            rw [fNat_eq]
            have := rcC26_eq one ks q.1 (f ++ [q.2.1]) z k
            rw [List.length_append] at this
            exact this
end
end L26
end Iv
end

section
set_option linter.all false
set_option autoImplicit false
set_option maxRecDepth 1000000
namespace Iv
namespace L26
noncomputable section
variable {ω : Type}
/-! points counted with the seen ones as bits of a number -/
def bitK (m x : Nat) : Bool := Nat.beq (Nat.land (Nat.shiftRight m x) 1) 1
def insM (m x : Nat) : Nat := Nat.lor m (Nat.shiftLeft 1 x)
theorem bitK_eq (m x : Nat) : bitK m x = m.testBit x := by
  unfold bitK Nat.testBit
  show Nat.beq ((m >>> x) &&& 1) 1 = ((1 &&& (m >>> x)) != 0)
  rw [Nat.and_comm, Nat.and_comm 1, Nat.and_one_is_mod]
  rcases Nat.mod_two_eq_zero_or_one (m >>> x) with h | h <;> rw [h] <;> rfl
def Msk (m : Nat) (s : List Nat) : Prop := ∀ x, bitK m x = mem x s
theorem mem_app (y x : Nat) : ∀ s : List Nat, mem y (s ++ [x]) = (mem y s || Nat.beq x y)
  | [] => by
    show (match Nat.beq x y with | true => true | false => false) = (false || Nat.beq x y)
    cases Nat.beq x y <;> rfl
  | a :: s => by
    show (match Nat.beq a y with | true => true | false => mem y (s ++ [x])) = ((match Nat.beq a y with | true => true | false => mem y s) || Nat.beq x y)
    rw [mem_app y x s]
    cases Nat.beq a y <;> rfl
theorem msk_ins {m x : Nat} {s : List Nat} (h : Msk m s) : Msk (insM m x) (s ++ [x]) := fun y => by
  rw [mem_app, ← h y, bitK_eq, bitK_eq]
  unfold insM
  show (m ||| (1 <<< x)).testBit y = _
  rw [Nat.testBit_or, Nat.one_shiftLeft, Nat.testBit_two_pow]
  congr 1
  cases hb : Nat.beq x y with
  | true => exact decide_eq_true (Nat.eq_of_beq_eq_true hb)
  | false => exact decide_eq_false (Nat.ne_of_beq_eq_false hb)
theorem msk0 : Msk 0 [] := fun x => by rw [bitK_eq, Nat.zero_testBit]; rfl
def wmC (one : List Nat) (m : Nat) : Nat → Nat → ω → (Nat → ω) → ω := @Nat.rec (fun _ => Nat → Nat → ω → (Nat → ω) → ω) (fun _ _ z _ => z) (fun _ ih s x z k => ifK (bitK s x) (k s) (nthC one x z fun y => fNat y fun y => fNat (insM s x) fun s => ih s y z k)) m
theorem wmC_some (one : List Nat) : ∀ (m : Nat) (mk : Nat) (s r : List Nat) (x : Nat) (q : List Nat × List Nat × Nat), wh one m s r x = some q → Msk mk s → ∃ mk', Msk mk' q.1 ∧ q.1.length ≤ s.length + m ∧ ∀ (z : ω) (k : Nat → ω), wmC one m mk x z k = k mk'
  | 0, _, _, _, _, _, h, _ => by cases h
  | m + 1, mk, s, r, x, q, h, hm => by
    unfold wh at h
    cases hx : mem x s with
    | true =>
      rw [hx] at h
      injection h with h
      subst h
      refine ⟨mk, hm, Nat.le_add_right .., fun z k => ?_⟩
      show ifK (bitK mk x) (k mk) _ = _
      rw [hm x, hx]; rfl
    | false =>
      rw [hx] at h
      cases hy : one[x]? with
      | none => rw [hy] at h; cases h
      | some y =>
        rw [hy] at h
        obtain ⟨mk', g1, g2, g3⟩ := wmC_some one m (insM mk x) (s ++ [x]) (r ++ [x]) y q h (msk_ins hm)
        rw [List.length_append] at g2
        refine ⟨mk', g1, by simp at g2; omega, fun z k => ?_⟩
        show ifK (bitK mk x) (k mk) (nthC one x z fun y => fNat y fun y => fNat (insM mk x) fun s => wmC one m s y z k) = _
        rw [hm x, hx]
        show nthC one x z _ = _
        rw [nthC_eq, hy]
        show (fNat y fun y => fNat (insM mk x) fun s => wmC one m s y z k) = _
        rw [fNat_eq, fNat_eq, g3]
theorem wmC_none (one : List Nat) : ∀ (m : Nat) (mk : Nat) (s r : List Nat) (x : Nat), wh one m s r x = none → Msk mk s → ∀ (z : ω) (k : Nat → ω), wmC one m mk x z k = z
  | 0, _, _, _, _, _, _ => fun z k => rfl
  | m + 1, mk, s, r, x, h, hm => fun z k => by
    unfold wh at h
    show ifK (bitK mk x) (k mk) (nthC one x z fun y => fNat y fun y => fNat (insM mk x) fun s => wmC one m s y z k) = _
    rw [hm x]
    cases hx : mem x s with
    | true => rw [hx] at h; cases h
    | false =>
      rw [hx] at h
      show nthC one x z _ = _
      rw [nthC_eq]
      cases hy : one[x]? with
      | none => rfl
      | some y =>
        rw [hy] at h
        show (fNat y fun y => fNat (insM mk x) fun s => wmC one m s y z k) = _
        rw [fNat_eq, fNat_eq, wmC_none one m (insM mk x) (s ++ [x]) (r ++ [x]) y h (msk_ins hm)]
def rmC (one : List Nat) (ks : List Nat) : Nat → Nat → ω → (Nat → ω) → ω := @List.rec Nat (fun _ => Nat → Nat → ω → (Nat → ω) → ω) (fun _ c _ k => k c) (fun x _ ih s c z k => ifK (bitK s x) (ih s c z k) (wmC one 99 s x z fun s => fNat (Nat.succ c) fun c => ih s c z k)) ks
theorem rmC_ok (one : List Nat) : ∀ (ks : List Nat) (mk : Nat) (s : List Nat) (f : List (List Nat)) (k : Nat → Bool), rmC one ks mk f.length false k = true → Msk mk s → s.length + 99 * ks.length ≤ 9999 → f.length + ks.length ≤ 9999 → ∃ res, rdF one ks s f = some res ∧ k res.length = true
  | [], mk, s, f, k, h, _, _, _ => ⟨f, rfl, h⟩
  | x :: ks, mk, s, f, k, h, hm, h1, h2 => by
    rw [List.length_cons] at h1 h2
    have h : ifK (bitK mk x) (rmC one ks mk f.length false k) (wmC one 99 mk x false fun s => fNat (Nat.succ f.length) fun c => rmC one ks s c false k) = true := h
    rw [hm x] at h
    unfold rdF
    cases hx : mem x s with
    | true =>
      rw [hx] at h
      exact rmC_ok one ks mk s f k h hm (by omega) (by omega)
    | false =>
      rw [hx] at h
      have b1 : Nat.ble s.length 9999 = true := Nat.ble_eq_true_of_le (by omega)
      have b2 : Nat.ble f.length 9999 = true := Nat.ble_eq_true_of_le (by omega)
      rw [b1, b2]
      dsimp only [Bool.and_self]
      have h : (wmC one 99 mk x false fun s => fNat (Nat.succ f.length) fun c => rmC one ks s c false k) = true := h
      cases hw : wh one 99 s [] x with
      | none => rw [wmC_none one 99 mk s [] x hw hm] at h; cases h
      | some q =>
        obtain ⟨mk', g1, g2, g3⟩ := wmC_some (ω := Bool) one 99 mk s [] x q hw hm
        rw [g3, fNat_eq] at h
        have e : Nat.succ f.length = (f ++ [q.2.1]).length := by rw [List.length_append]; rfl
        rw [e] at h
        exact rmC_ok one ks mk' q.1 (f ++ [q.2.1]) k h g1 (by omega) (by rw [List.length_append]; simp; omega)
/-! the orders of a pairing -/
def ledC (turn : List Nat) (ps : List (Nat × Nat)) : List Nat → ω → (List Nat → ω) → ω := @List.rec (Nat × Nat) (fun _ => List Nat → ω → (List Nat → ω) → ω) (fun l _ k => k l) (fun q _ ih l z k => fNat q.1 fun a => fNat q.2 fun b => nthC turn b z fun tb => nthC turn a z fun ta => setC tb l a fun l => setC ta l b fun l => ih l z k) ps
theorem ledC_ok (turn : List Nat) (k : List Nat → Bool) : ∀ (ps : List (Nat × Nat)) (l : List Nat), ledC turn ps l false k = true → (∀ q ∈ ps, q.1 < turn.length ∧ q.2 < turn.length) ∧ k (ps.foldl (ledS turn) l) = true
  | [], l, h => ⟨fun q hq => (nomatch hq), h⟩
  | q :: ps, l, h => by
    have h : (fNat q.1 fun a => fNat q.2 fun b => nthC turn b false fun tb => nthC turn a false fun ta => setC tb l a fun l => setC ta l b fun l => ledC turn ps l false k) = true := h
    rw [fNat_eq, fNat_eq, nthC_eq] at h
    cases hb : turn[q.2]? with
    | none => rw [hb] at h; cases h
    | some tb =>
      rw [hb] at h
      have h : (nthC turn q.1 false fun ta => setC tb l q.1 fun l => setC ta l q.2 fun l => ledC turn ps l false k) = true := h
      rw [nthC_eq] at h
      cases ha : turn[q.1]? with
      | none => rw [ha] at h; cases h
      | some ta =>
        rw [ha] at h
        have h : (setC tb l q.1 fun l => setC ta l q.2 fun l => ledC turn ps l false k) = true := h
        rw [setC_eq, setC_eq] at h
        obtain ⟨g1, g2⟩ := ledC_ok turn k ps _ h
        have l2 : q.2 < turn.length := (List.getElem?_eq_some_iff.1 hb).1
        have l1 : q.1 < turn.length := (List.getElem?_eq_some_iff.1 ha).1
        refine ⟨fun p hp => ?_, ?_⟩
        · rcases List.mem_cons.1 hp with rfl | hp
          · exact ⟨l1, l2⟩
          · exact g1 p hp
        · have e : ledS turn l q = (l.set q.1 tb).set q.2 ta := by
            unfold ledS
            rw [List.getD_eq_getElem?_getD, List.getD_eq_getElem?_getD, ha, hb]; rfl
          rw [List.foldl_cons, e]
          exact g2
/-! labels -/
def mapC (hi lo : Nat) (l : List Nat) : (List Nat → ω) → ω := @List.rec Nat (fun _ => (List Nat → ω) → ω) (fun k => k []) (fun v _ ih k => ifK (Nat.beq v hi) (ih fun l => k (lo :: l)) (ih fun l => k (v :: l))) l
def mrgC (ps : List (Nat × Nat)) : List Nat → ω → (List Nat → ω) → ω := @List.rec (Nat × Nat) (fun _ => List Nat → ω → (List Nat → ω) → ω) (fun l _ k => k l) (fun q _ ih l z k => fNat q.1 fun a => fNat q.2 fun b => nthC l a z fun va => nthC l b z fun vb => ifK (Nat.ble va vb) (mapC vb va l fun l => ih l z k) (mapC va vb l fun l => ih l z k)) ps
theorem mapC_ok (hi lo : Nat) : ∀ (l : List Nat) (k : List Nat → Bool), mapC hi lo l k = true → ∃ l', k l' = true
  | [], k, h => ⟨[], h⟩
  | v :: l, k, h => by
    have h : ifK (Nat.beq v hi) (mapC hi lo l fun l => k (lo :: l)) (mapC hi lo l fun l => k (v :: l)) = true := h
    cases hb : Nat.beq v hi with
    | true => rw [hb] at h; obtain ⟨l', g⟩ := mapC_ok hi lo l _ h; exact ⟨_, g⟩
    | false => rw [hb] at h; obtain ⟨l', g⟩ := mapC_ok hi lo l _ h; exact ⟨_, g⟩
theorem mrgC_ok (k : List Nat → Bool) : ∀ (ps : List (Nat × Nat)) (l : List Nat), mrgC ps l false k = true → ∃ l', k l' = true
  | [], l, h => ⟨l, h⟩
  | q :: ps, l, h => by
    have h : (fNat q.1 fun a => fNat q.2 fun b => nthC l a false fun va => nthC l b false fun vb => ifK (Nat.ble va vb) (mapC vb va l fun l => mrgC ps l false k) (mapC va vb l fun l => mrgC ps l false k)) = true := h
    rw [fNat_eq, fNat_eq, nthC_eq] at h
    cases ha : l[q.1]? with
    | none => rw [ha] at h; cases h
    | some va =>
      rw [ha] at h
      have h : (nthC l q.2 false fun vb => ifK (Nat.ble va vb) (mapC vb va l fun l => mrgC ps l false k) (mapC va vb l fun l => mrgC ps l false k)) = true := h
      rw [nthC_eq] at h
      cases hb : l[q.2]? with
      | none => rw [hb] at h; cases h
      | some vb =>
        rw [hb] at h
        have h : ifK (Nat.ble va vb) (mapC vb va l fun l => mrgC ps l false k) (mapC va vb l fun l => mrgC ps l false k) = true := h
        cases hc : Nat.ble va vb with
        | true => rw [hc] at h; obtain ⟨l', g⟩ := mapC_ok _ _ _ _ h; exact mrgC_ok k ps l' g
        | false => rw [hc] at h; obtain ⟨l', g⟩ := mapC_ok _ _ _ _ h; exact mrgC_ok k ps l' g
def kpC (lab : List Nat) (own : List Nat) : List Nat → Bool := @List.rec Nat (fun _ => List Nat → Bool) (fun l => @List.rec Nat (fun _ => Bool) true (fun _ _ _ => false) l) (fun o _ ih l => @List.rec Nat (fun _ => Bool) false (fun v l _ => nthC lab o false fun u => ifK (Nat.beq u v) (ih l) false) l) own
theorem kpC_ok (lab : List Nat) : ∀ (own l : List Nat), kpC lab own l = true → own.length = l.length ∧ ∀ k, k < l.length → own.getD k 0 < lab.length ∧ lab.getD (own.getD k 0) 0 = l.getD k 0
  | [], [], _ => ⟨rfl, fun k hk => absurd hk (Nat.not_lt_zero _)⟩
  | [], v :: l, h => by cases h
  | o :: own, [], h => by cases h
  | o :: own, v :: l, h => by
    have h : (nthC lab o false fun u => ifK (Nat.beq u v) (kpC lab own l) false) = true := h
    rw [nthC_eq] at h
    cases ho : lab[o]? with
    | none => rw [ho] at h; cases h
    | some u =>
      rw [ho] at h
      have h : ifK (Nat.beq u v) (kpC lab own l) false = true := h
      cases hb : Nat.beq u v with
      | false => rw [hb] at h; cases h
      | true =>
        rw [hb] at h
        obtain ⟨g1, g2⟩ := kpC_ok lab own l h
        refine ⟨by rw [List.length_cons, List.length_cons, g1], fun k hk => ?_⟩
        cases k with
        | zero =>
          refine ⟨(List.getElem?_eq_some_iff.1 ho).1, ?_⟩
          show lab.getD o 0 = v
          rw [List.getD_eq_getElem?_getD, ho]
          exact Nat.eq_of_beq_eq_true hb
        | succ k => exact g2 k (by rw [List.length_cons] at hk; omega)
/-- each label is at most its place; the number of those at their own place -/
def cnC (l : List Nat) : Nat → Nat → ω → (Nat → ω) → ω := @List.rec Nat (fun _ => Nat → Nat → ω → (Nat → ω) → ω) (fun _ c _ k => k c) (fun v _ ih j c z k => ifK (Nat.beq v j) (fNat (Nat.succ c) fun c => fNat (Nat.succ j) fun j => ih j c z k) (ifK (Nat.ble v j) (fNat (Nat.succ j) fun j => ih j c z k) z)) l
theorem filter_shift (p : Nat → Bool) (a n : Nat) : ((List.range' a (n + 1)).filter p).length = (if p a then 1 else 0) + ((List.range' (a + 1) n).filter p).length := by
  rw [List.range'_succ, List.filter_cons]
  by_cases h : p a = true
  · rw [if_pos h, if_pos h, List.length_cons]; omega
  · rw [if_neg h, if_neg h]; omega
theorem cnC_ok (lab : List Nat) (k : Nat → Bool) : ∀ (l : List Nat) (j c : Nat), lab.drop j = l → cnC l j c false k = true → (∀ i, j ≤ i → i < j + l.length → lab.getD i 0 ≤ i) ∧ k (c + ((List.range' j l.length).filter fun m => Nat.beq (lab.getD m 0) m).length) = true
  | [], j, c, _, h => ⟨fun i h1 h2 => by simp at h2; omega, h⟩
  | v :: l, j, c, hd, h => by
    have h : ifK (Nat.beq v j) (fNat (Nat.succ c) fun c => fNat (Nat.succ j) fun j => cnC l j c false k) (ifK (Nat.ble v j) (fNat (Nat.succ j) fun j => cnC l j c false k) false) = true := h
    have hv : lab.getD j 0 = v := by
      have : (lab.drop j)[0]? = some v := by rw [hd]; rfl
      rw [List.getElem?_drop] at this
      rw [List.getD_eq_getElem?_getD]
      rw [Nat.add_zero] at this
      rw [this]; rfl
    have hd' : lab.drop (j + 1) = l := by
      rw [← List.drop_drop, hd]; rfl
    rw [List.length_cons, filter_shift, hv]
    cases hb : Nat.beq v j with
    | true =>
      rw [hb] at h
      have h : (fNat (Nat.succ c) fun c => fNat (Nat.succ j) fun j => cnC l j c false k) = true := h
      rw [fNat_eq, fNat_eq] at h
      obtain ⟨g1, g2⟩ := cnC_ok lab k l (j + 1) (c + 1) hd' h
      refine ⟨fun i h1 h2 => ?_, ?_⟩
      · rcases Nat.lt_or_ge j i with q | q
        · exact g1 i q (by omega)
        · have : i = j := by omega
          subst this
          rw [hv, Nat.eq_of_beq_eq_true hb]; exact Nat.le_refl _
      · rw [if_pos rfl, ← Nat.add_assoc]; exact g2
    | false =>
      rw [hb] at h
      have h : ifK (Nat.ble v j) (fNat (Nat.succ j) fun j => cnC l j c false k) false = true := h
      cases hl : Nat.ble v j with
      | false => rw [hl] at h; cases h
      | true =>
        rw [hl] at h
        have h : (fNat (Nat.succ j) fun j => cnC l j c false k) = true := h
        rw [fNat_eq] at h
        obtain ⟨g1, g2⟩ := cnC_ok lab k l (j + 1) c hd' h
        refine ⟨fun i h1 h2 => ?_, ?_⟩
        · rcases Nat.lt_or_ge j i with q | q
          · exact g1 i q (by omega)
          · have : i = j := by omega
            subst this
            rw [hv]; exact Nat.le_of_ble_eq_true hl
        · rw [if_neg (by simp), Nat.zero_add]; exact g2
def ltC (n : Nat) (l : List Nat) : Bool := @List.rec Nat (fun _ => Bool) true (fun v _ ih => ifK (Nat.ble (Nat.succ v) n) ih false) l
theorem ltC_ok (n : Nat) : ∀ l : List Nat, ltC n l = true → ∀ k, k < l.length → l.getD k 0 < n
  | [], _, k, hk => absurd hk (Nat.not_lt_zero _)
  | v :: l, h, k, hk => by
    have h : ifK (Nat.ble (Nat.succ v) n) (ltC n l) false = true := h
    cases hb : Nat.ble (Nat.succ v) n with
    | false => rw [hb] at h; cases h
    | true =>
      rw [hb] at h
      cases k with
      | zero => exact Nat.le_of_ble_eq_true hb
      | succ k => exact ltC_ok n l h k (by rw [List.length_cons] at hk; omega)
def labOK (turn led lab : List Nat) (N m : Nat) : Bool := ifK (Nat.beq lab.length N) (ifK (kpC lab turn lab) (ifK (kpC lab led lab) (cnC lab 0 0 false fun c => Nat.ble m (Nat.add c c)) false) false) false
theorem ifK_t {b x : Bool} (h : ifK b x false = true) : b = true ∧ x = true := by
  cases b with
  | true => exact ⟨rfl, h⟩
  | false => cases h
theorem labOK_ok {turn led lab : List Nat} {N m : Nat} (h : labOK turn led lab N m = true) : Keeps lab turn N ∧ Keeps lab led N ∧ (∀ j, j < N → lab.getD j 0 ≤ j) ∧ m ≤ 2 * cntL lab N := by
  obtain ⟨h0, h⟩ := ifK_t h
  obtain ⟨h1, h⟩ := ifK_t h
  obtain ⟨h2, h⟩ := ifK_t h
  have e := Nat.eq_of_beq_eq_true h0
  obtain ⟨a1, a2⟩ := kpC_ok lab turn lab h1
  obtain ⟨b1, b2⟩ := kpC_ok lab led lab h2
  obtain ⟨c1, c2⟩ := cnC_ok lab _ lab 0 0 rfl h
  subst e
  refine ⟨⟨a1, a2⟩, ⟨b1, b2⟩, fun j hj => c1 j (Nat.zero_le _) (by omega), ?_⟩
  have c2 := Nat.le_of_ble_eq_true c2
  unfold cntL
  rw [List.range_eq_range']
  rw [Nat.zero_add] at c2
  have c2 : m ≤ _ + _ := c2
  omega
/-! one pairing -/
def incS (cs : List Nat) (p : Nat) : List Nat := cs.set p (cs.getD p 0 + 1)
def chkC (turn led lab0 : List Nat) (ps : List (Nat × Nat)) (n N r p : Nat) : Bool := ifK (Nat.ble p N) (ifK (Nat.beq (Nat.mod (Nat.add (Nat.add p r) n) 2) 0) (ifK (ltC N led) (ifK (Nat.ble (Nat.add p r) (Nat.add n 2)) true (mrgC ps lab0 false fun lab => labOK turn led lab N (Nat.sub (Nat.add p r) n))) false) false) false
def sweep (turn lab0 zero ks : List Nat) (n N r : Nat) (pss : List (List (Nat × Nat))) : List Nat → (List Nat → Bool) → Bool := @List.rec (List (Nat × Nat)) (fun _ => List Nat → (List Nat → Bool) → Bool) (fun cs k => k cs) (fun ps _ ih cs k => ledC turn ps zero false fun led => rmC led ks 0 0 false fun p => ifK (chkC turn led lab0 ps n N r p) (nthC cs p false fun v => fNat (Nat.succ v) fun v => setC v cs p fun cs => ih cs k) false) pss
theorem getD_rep (N k : Nat) : (List.replicate N 0).getD k 0 = 0 := by
  rw [List.getD_eq_getElem?_getD, List.getElem?_replicate]
  by_cases h : k < N
  · rw [if_pos h]; rfl
  · rw [if_neg h]; rfl
theorem good_of {turn lab0 : List Nat} {ps : List (Nat × Nat)} {n r : Nat} {rs : List (List Nat)} (hn : 0 < n) (ht : turn.length = 2 * n) (hlt : ∀ k, k < turn.length → turn.getD k 0 < 2 * n) (inn : ∀ q ∈ ps, q.1 < turn.length ∧ q.2 < turn.length) (hr : rd (ledOf turn n ps) = some rs) (hc : chkC turn (ledOf turn n ps) lab0 ps n (2 * n) r rs.length = true) : Good turn n r ps rs.length := by
  obtain ⟨h1, hc⟩ := ifK_t hc
  obtain ⟨h2, hc⟩ := ifK_t hc
  obtain ⟨h3, hc⟩ := ifK_t hc
  have hl : (ledOf turn n ps).length = 2 * n := by unfold ledOf; rw [foldl_len]; simp
  refine ⟨by rw [← ht]; exact inn, ⟨rs, hr, rfl⟩, Nat.lt_succ_of_le (Nat.le_of_ble_eq_true h1), ?_, Nat.eq_of_beq_eq_true h2⟩
  have z := ltC_ok _ _ h3
  cases hb : Nat.ble (Nat.add rs.length r) (Nat.add n 2) with
  | true =>
    have hb := Nat.le_of_ble_eq_true hb
    refine ⟨List.replicate (2 * n) 0, ⟨ht, fun k hk => ⟨hlt k (by omega), by rw [getD_rep, getD_rep]⟩⟩, ⟨hl, fun k hk => ⟨z k (by omega), by rw [getD_rep, getD_rep]⟩⟩, fun j _ => by rw [getD_rep]; omega, ?_⟩
    have c : 1 ≤ cntL (List.replicate (2 * n) 0) (2 * n) := by
      unfold cntL
      apply List.length_pos_of_mem (a := 0)
      rw [List.mem_filter]
      exact ⟨List.mem_range.2 (by omega), by rw [getD_rep]; rfl⟩
    have hb : rs.length + r ≤ n + 2 := hb
    omega
  | false =>
    rw [hb] at hc
    obtain ⟨lab, g⟩ := mrgC_ok _ ps lab0 hc
    obtain ⟨g1, g2, g3, g4⟩ := labOK_ok g
    refine ⟨lab, g1, g2, g3, ?_⟩
    have g4 : rs.length + r - n ≤ 2 * cntL lab (2 * n) := g4
    omega
theorem sweep_ok {turn lab0 : List Nat} {n r : Nat} (hn : 0 < n) (hn2 : n ≤ 10) (ht : turn.length = 2 * n) (hlt : ∀ k, k < turn.length → turn.getD k 0 < 2 * n) (k : List Nat → Bool) : ∀ (pss : List (List (Nat × Nat))) (cs : List Nat), sweep turn lab0 (List.replicate (2 * n) 0) (List.range (2 * n)) n (2 * n) r pss cs k = true → ∃ gs : List (List (Nat × Nat) × Nat), gs.map (fun g => g.1) = pss ∧ (∀ g ∈ gs, Good turn n r g.1 g.2) ∧ k (gs.foldl (fun cs g => incS cs g.2) cs) = true
  | [], cs, h => ⟨[], rfl, fun g hg => (nomatch hg), h⟩
  | ps :: pss, cs, h => by
    have h : (ledC turn ps (List.replicate (2 * n) 0) false fun led => rmC led (List.range (2 * n)) 0 0 false fun p => ifK (chkC turn led lab0 ps n (2 * n) r p) (nthC cs p false fun v => fNat (Nat.succ v) fun v => setC v cs p fun cs => sweep turn lab0 (List.replicate (2 * n) 0) (List.range (2 * n)) n (2 * n) r pss cs k) false) = true := h
    obtain ⟨inn, h⟩ := ledC_ok turn _ ps _ h
    have lo : ps.foldl (ledS turn) (List.replicate (2 * n) 0) = ledOf turn n ps := rfl
    rw [lo] at h
    have hl : (ledOf turn n ps).length = 2 * n := by unfold ledOf; rw [foldl_len]; simp
    obtain ⟨rs, hr, h⟩ := rmC_ok (ledOf turn n ps) (List.range (2 * n)) 0 [] [] _ h msk0 (by rw [List.length_range]; simp; omega) (by rw [List.length_range]; simp; omega)
    obtain ⟨hc, h⟩ := ifK_t h
    have g := good_of hn ht hlt inn (show rd (ledOf turn n ps) = some rs by unfold rd; rw [hl]; exact hr) hc
    rw [nthC_eq] at h
    cases hv : cs[rs.length]? with
    | none => rw [hv] at h; cases h
    | some v =>
      rw [hv] at h
      have h : (fNat (Nat.succ v) fun v => setC v cs rs.length fun cs => sweep turn lab0 (List.replicate (2 * n) 0) (List.range (2 * n)) n (2 * n) r pss cs k) = true := h
      rw [fNat_eq, setC_eq] at h
      obtain ⟨gs, g1, g2, g3⟩ := sweep_ok hn hn2 ht hlt k pss _ h
      refine ⟨(ps, rs.length) :: gs, by rw [List.map_cons, g1], fun x hx => ?_, ?_⟩
      · rcases List.mem_cons.1 hx with rfl | hx
        · exact g
        · exact g2 x hx
      · rw [List.foldl_cons]
        have e : incS cs rs.length = cs.set rs.length (Nat.succ v) := by
          unfold incS
          rw [List.getD_eq_getElem?_getD, hv]; rfl
        show k (gs.foldl _ (incS cs rs.length)) = true
        rw [e]; exact g3
end
end L26
end Iv
end

section
set_option linter.all false
set_option autoImplicit false
set_option maxRecDepth 1000000
namespace Iv
/-! what a run gives, in any form -/
section
variable (T : Tb)
theorem ex_run (P : Nat → Option FD) (n : Nat) (s : S) (e : En) : ex T (run T P n) s e = exC (ω := RE Fl) T (run T P n) (runC T P n) s e RE.ok RE.exn RE.err := by
  rw [exC_eq T (run T P n) _ (runC_eq T P n)]
  show _ = kRE (ex T (run T P n) s e) RE.ok RE.exn RE.err
  cases ex T (run T P n) s e <;> rfl
theorem ex_test (P : Nat → Option FD) (n : Nat) (s : S) (e : En) (t : RE Fl → Bool) : t (ex T (run T P n) s e) = exC (ω := Bool) T (run T P n) (runC T P n) s e (fun f e1 => t (.ok f e1)) (fun q e1 => t (.exn q e1)) (t .err) := by
  rw [exC_eq T (run T P n) _ (runC_eq T P n)]
  show _ = kRE (ex T (run T P n) s e) _ _ _
  cases ex T (run T P n) s e <;> rfl
end
/-! written-out results compared -/
def eqIs : List Nat → List W → Bool
  | [], [] => true
  | x :: xs, .int (.ofNat y) :: ws => match Nat.beq x y with
    | true => eqIs xs ws
    | false => false
  | _, _ => false
theorem eqIs_ok : ∀ (xs : List Nat) (ws : List W), eqIs xs ws = true → ws = Is xs
  | [], [], _ => rfl
  | [], _ :: _, h => by cases h
  | x :: xs, [], h => by cases h
  | x :: xs, w :: ws, h => by
    cases w with
    | int i =>
      cases i with
      | negSucc n => cases h
      | ofNat y =>
        have h : (match Nat.beq x y with | true => eqIs xs ws | false => false) = true := h
        cases hb : Nat.beq x y with
        | false => rw [hb] at h; cases h
        | true =>
          rw [hb] at h
          rw [eqIs_ok xs ws h, Nat.eq_of_beq_eq_true hb]; rfl
    | _ => cases h
/-- a list of tuples of numbers -/
def eqTs : List (List Nat) → List W → Bool
  | [], [] => true
  | x :: xs, .tup w :: ws => match eqIs x w with
    | true => eqTs xs ws
    | false => false
  | _, _ => false
theorem eqTs_ok : ∀ (xs : List (List Nat)) (ws : List W), eqTs xs ws = true → ws = xs.map TI
  | [], [], _ => rfl
  | [], _ :: _, h => by cases h
  | x :: xs, [], h => by cases h
  | x :: xs, w :: ws, h => by
    cases w with
    | tup v =>
      have h : (match eqIs x v with | true => eqTs xs ws | false => false) = true := h
      cases hb : eqIs x v with
      | false => rw [hb] at h; cases h
      | true =>
        rw [hb] at h
        rw [eqTs_ok xs ws h, eqIs_ok x v hb]; rfl
    | _ => cases h
/-- a list of lists of pairs -/
def eqPs : List (Nat × Nat) → List W → Bool
  | [], [] => true
  | (a, b) :: xs, .tup [.int (.ofNat x), .int (.ofNat y)] :: ws => match Nat.beq a x with
    | true => (match Nat.beq b y with
      | true => eqPs xs ws
      | false => false)
    | false => false
  | _, _ => false
theorem eqPs_ok : ∀ (xs : List (Nat × Nat)) (ws : List W), eqPs xs ws = true → ws = xs.map L26.PW
  | [], [], _ => rfl
  | [], _ :: _, h => by cases h
  | x :: xs, [], h => by cases h
  | (a, b) :: xs, w :: ws, h => by
    match w, h with
    | .tup [.int (.ofNat x), .int (.ofNat y)], h =>
      have h : (match Nat.beq a x with | true => (match Nat.beq b y with | true => eqPs xs ws | false => false) | false => false) = true := h
      cases hb : Nat.beq a x with
      | false => rw [hb] at h; cases h
      | true =>
        rw [hb] at h
        have h : (match Nat.beq b y with | true => eqPs xs ws | false => false) = true := h
        cases hc : Nat.beq b y with
        | false => rw [hc] at h; cases h
        | true =>
          rw [hc] at h
          rw [eqPs_ok xs ws h, Nat.eq_of_beq_eq_true hb, Nat.eq_of_beq_eq_true hc]; rfl
def eqPss : List (List (Nat × Nat)) → List W → Bool
  | [], [] => true
  | x :: xs, .lst w :: ws => match eqPs x w with
    | true => eqPss xs ws
    | false => false
  | _, _ => false
theorem eqPss_ok : ∀ (xs : List (List (Nat × Nat))) (ws : List W), eqPss xs ws = true → ws = xs.map fun ps => .lst (ps.map L26.PW)
  | [], [], _ => rfl
  | [], _ :: _, h => by cases h
  | x :: xs, [], h => by cases h
  | x :: xs, w :: ws, h => by
    cases w with
    | lst v =>
      have h : (match eqPs x v with | true => eqPss xs ws | false => false) = true := h
      cases hb : eqPs x v with
      | false => rw [hb] at h; cases h
      | true =>
        rw [hb] at h
        rw [eqPss_ok xs ws h, eqPs_ok x v hb]; rfl
    | _ => cases h
def rfTs (fr : Bool) (xs : List (List Nat)) : RF → Bool
  | .ok f (.tup ws) .n => match f == fr with
    | true => eqTs xs ws
    | false => false
  | _ => false
theorem rfTs_ok {fr : Bool} {xs : List (List Nat)} {r : RF} (h : rfTs fr xs r = true) : r = .ok fr (.tup (xs.map TI)) .n := by
  unfold rfTs at h
  split at h
  · rename_i f ws
    cases hb : f == fr with
    | false => rw [hb] at h; cases h
    | true =>
      rw [hb] at h
      rw [eqTs_ok xs ws h, eq_of_beq hb]
  · cases h
def rfPss (fr : Bool) (xs : List (List (Nat × Nat))) : RF → Bool
  | .ok f (.lst ws) .n => match f == fr with
    | true => eqPss xs ws
    | false => false
  | _ => false
theorem rfPss_ok {fr : Bool} {xs : List (List (Nat × Nat))} {r : RF} (h : rfPss fr xs r = true) : r = .ok fr (.lst (xs.map fun ps => .lst (ps.map L26.PW))) .n := by
  unfold rfPss at h
  split at h
  · rename_i f ws
    cases hb : f == fr with
    | false => rw [hb] at h; cases h
    | true =>
      rw [hb] at h
      rw [eqPss_ok xs ws h, eq_of_beq hb]
  · cases h
def rfT (fr : Bool) (x : List Nat) : RF → Bool
  | .ok f (.tup ws) .n => match f == fr with
    | true => eqIs x ws
    | false => false
  | _ => false
theorem rfT_ok {fr : Bool} {x : List Nat} {r : RF} (h : rfT fr x r = true) : r = .ok fr (.tup (Is x)) .n := by
  unfold rfT at h
  split at h
  · rename_i f ws
    cases hb : f == fr with
    | false => rw [hb] at h; cases h
    | true =>
      rw [hb] at h
      rw [eqIs_ok x ws h, eq_of_beq hb]
  · cases h
namespace L26
/-! a pairing as an order -/
def ownS (l : List Nat) (q : Nat × Nat) : List Nat := (l.set q.1 q.2).set q.2 q.1
def ownOf (n : Nat) (ps : List (Nat × Nat)) : List Nat := ps.foldl ownS (List.replicate (2 * n) 0)
theorem own_len : ∀ (ps : List (Nat × Nat)) (l : List Nat), (ps.foldl ownS l).length = l.length
  | [], _ => rfl
  | q :: ps, l => by rw [List.foldl_cons, own_len ps]; unfold ownS; simp
theorem led_own (turn : List Nat) (N : Nat) : ∀ (ps : List (Nat × Nat)) (l l' : List Nat), l.length = N → l'.length = N → (∀ q ∈ ps, q.1 < N ∧ q.2 < N) → (∀ j, j < N → (∃ q ∈ ps, j = q.1 ∨ j = q.2) ∨ l.getD j 0 = turn.getD (l'.getD j 0) 0) → ∀ j, j < N → (ps.foldl (ledS turn) l).getD j 0 = turn.getD ((ps.foldl ownS l').getD j 0) 0
  | [], l, l', _, _, _, h, j, hj => by
    rcases h j hj with ⟨q, hq, _⟩ | h
    · cases hq
    · exact h
  | q :: ps, l, l', hl, hl', hq, h, j, hj => by
    rw [List.foldl_cons, List.foldl_cons]
    have q0 := hq q (List.mem_cons_self ..)
    refine led_own turn N ps _ _ (by unfold ledS; simp [hl]) (by unfold ownS; simp [hl']) (fun r hr => hq r (List.mem_cons_of_mem _ hr)) (fun i hi => ?_) j hj
    unfold ledS ownS
    rw [getD_set _ _ _ _ (by rw [List.length_set]; omega), getD_set _ _ _ _ (by omega), getD_set _ _ _ _ (by rw [List.length_set]; omega), getD_set _ _ _ _ (by omega)]
    by_cases e2 : q.2 = i
    · right; rw [if_pos e2, if_pos e2]
    · rw [if_neg e2, if_neg e2]
      by_cases e1 : q.1 = i
      · right; rw [if_pos e1, if_pos e1]
      · rw [if_neg e1, if_neg e1]
        rcases h i hi with ⟨r, hr, hr2⟩ | h
        · rcases List.mem_cons.1 hr with rfl | hr
          · exact absurd hr2 (by omega)
          · exact Or.inl ⟨r, hr, hr2⟩
        · exact Or.inr h
theorem list_ext_getD (l l' : List Nat) (h : l.length = l'.length) (q : ∀ j, j < l.length → l.getD j 0 = l'.getD j 0) : l = l' := by
  apply List.ext_getElem h
  intro i h1 h2
  have := q i h1
  rw [List.getD_eq_getElem?_getD, List.getD_eq_getElem?_getD, List.getElem?_eq_getElem h1, List.getElem?_eq_getElem h2] at this
  exact this
theorem led_times (turn : List Nat) (n : Nat) (ps : List (Nat × Nat)) (hq : ∀ q ∈ ps, q.1 < 2 * n ∧ q.2 < 2 * n) (hc : ∀ j, j < 2 * n → ∃ q ∈ ps, j = q.1 ∨ j = q.2) : ledOf turn n ps = timesL (ownOf n ps) turn := by
  have h1 : (ledOf turn n ps).length = 2 * n := by unfold ledOf; rw [foldl_len]; simp
  have h2 : (ownOf n ps).length = 2 * n := by unfold ownOf; rw [own_len]; simp
  apply list_ext_getD
  · unfold timesL; rw [List.length_map, h1, h2]
  · intro j hj
    rw [h1] at hj
    have := led_own turn (2 * n) ps (List.replicate (2 * n) 0) (List.replicate (2 * n) 0) (by simp) (by simp) hq (fun j hj => Or.inl (hc j hj)) j hj
    have e : (timesL (ownOf n ps) turn).getD j 0 = turn.getD ((ownOf n ps).getD j 0) 0 := by
      unfold timesL
      rw [List.getD_eq_getElem?_getD, List.getElem?_map, List.getD_eq_getElem?_getD (l := ownOf n ps), List.getElem?_eq_getElem (by omega)]
      rfl
    rw [e]
    exact this
def covB (N : Nat) (ps : List (Nat × Nat)) : Bool := (List.range N).all fun j => ps.any fun q => Nat.beq q.1 j || Nat.beq q.2 j
theorem covB_ok {N : Nat} {ps : List (Nat × Nat)} (h : covB N ps = true) : ∀ j, j < N → ∃ q ∈ ps, j = q.1 ∨ j = q.2 := fun j hj => by
  have := List.all_eq_true.1 h j (List.mem_range.2 hj)
  obtain ⟨q, h1, h2⟩ := List.any_eq_true.1 this
  refine ⟨q, h1, ?_⟩
  rcases (Bool.or_eq_true _ _).mp h2 with h | h
  · exact Or.inl (Nat.eq_of_beq_eq_true h).symm
  · exact Or.inr (Nat.eq_of_beq_eq_true h).symm
def innB (N : Nat) (ps : List (Nat × Nat)) : Bool := ps.all fun q => Nat.ble (Nat.succ q.1) N && Nat.ble (Nat.succ q.2) N
theorem innB_ok {N : Nat} {ps : List (Nat × Nat)} (h : innB N ps = true) : ∀ q ∈ ps, q.1 < N ∧ q.2 < N := fun q hq => by
  have := (Bool.and_eq_true _ _).mp (List.all_eq_true.1 h q hq)
  exact ⟨Nat.le_of_ble_eq_true this.1, Nat.le_of_ble_eq_true this.2⟩
noncomputable section
variable {ω : Type}
def fPs (ps : List (Nat × Nat)) : (List (Nat × Nat) → ω) → ω := @List.rec (Nat × Nat) (fun _ => (List (Nat × Nat) → ω) → ω) (fun k => k []) (fun q _ ih k => fNat q.1 fun a => fNat q.2 fun b => ih fun ps => k ((a, b) :: ps)) ps
theorem fPs_eq : ∀ (ps : List (Nat × Nat)) (k : List (Nat × Nat) → ω), fPs ps k = k ps
  | [], k => rfl
  | q :: ps, k => by
    show (fNat q.1 fun a => fNat q.2 fun b => fPs ps fun ps => k ((a, b) :: ps)) = _
    rw [fNat_eq, fNat_eq, fPs_eq ps]
def fPss (pss : List (List (Nat × Nat))) : (List (List (Nat × Nat)) → ω) → ω := @List.rec (List (Nat × Nat)) (fun _ => (List (List (Nat × Nat)) → ω) → ω) (fun k => k []) (fun q _ ih k => fPs q fun a => ih fun ps => k (a :: ps)) pss
theorem fPss_eq : ∀ (pss : List (List (Nat × Nat))) (k : List (List (Nat × Nat)) → ω), fPss pss k = k pss
  | [], k => rfl
  | q :: pss, k => by
    show (fPs q fun a => fPss pss fun ps => k (a :: ps)) = _
    rw [fPs_eq, fPss_eq pss]
end
def apF : Nat → List Nat → List (List (Nat × Nat))
  | 0, _ => [[]]
  | _ + 1, [] => [[]]
  | m + 1, a :: ns => (List.range ns.length).flatMap fun k => (apF m (ns.take k ++ ns.drop (k + 1))).map fun own => (a, ns.getD k 0) :: own
def PS (n : Nat) : List (List (Nat × Nat)) := apF n (List.range (2 * n))
def eqLN : List Nat → List Nat → Bool
  | [], [] => true
  | x :: xs, y :: ys => match Nat.beq x y with
    | true => eqLN xs ys
    | false => false
  | _, _ => false
theorem eqLN_ok : ∀ xs ys : List Nat, eqLN xs ys = true → xs = ys
  | [], [], _ => rfl
  | [], _ :: _, h => by cases h
  | x :: xs, [], h => by cases h
  | x :: xs, y :: ys, h => by
    have h : (match Nat.beq x y with | true => eqLN xs ys | false => false) = true := h
    cases hb : Nat.beq x y with
    | false => rw [hb] at h; cases h
    | true => rw [hb] at h; rw [Nat.eq_of_beq_eq_true hb, eqLN_ok xs ys h]
end L26
end Iv
end

section
set_option linter.all false
set_option autoImplicit false
set_option maxRecDepth 100000
namespace Iv
namespace Pr
open L26
variable (T : Tb) (K : Nat → List Sl → RF)
/-! the lists of pairs, told by both roads -/
theorem un2_pk {f : W → W → Option R1} {r r2 : R1} {x y : W} {e1 e2 : En} {a : RE R1} {g : En → RE R1} (ha : a = .ok r e1) (hg : g e1 = .ok r2 e2) (p1 : peek r e2 = some x) (p2 : peek r2 e2 = some y) : un2 f a g = ofO (f x y) e2 := by
  subst ha
  unfold un2; dsimp only; rw [hg]; dsimp only; rw [p1, p2]
theorem cut_Is (l : List Nat) (lo hi : Option Int) : cut (Is l) lo hi = Is (cut l lo hi) := by
  unfold cut Is
  rw [List.length_map, List.map_take, List.map_drop]
theorem cut_mid (a : Nat) (l : List Nat) (j : Nat) (h : j ≤ l.length) : cut (a :: l) (some 1) (some ((j + 1 : Nat) : Int)) = l.take j := by
  unfold cut
  have s1 : sIx (a :: l).length 0 (some 1) = 1 := by
    unfold sIx; dsimp only
    rw [if_neg (by decide)]
    show min 1 (a :: l).length = 1
    rw [List.length_cons]; omega
  have s2 : sIx (a :: l).length (a :: l).length (some ((j + 1 : Nat) : Int)) = j + 1 := by
    unfold sIx; dsimp only
    rw [if_neg (by omega), Int.toNat_natCast, List.length_cons]; omega
  rw [s1, s2]; rfl
theorem cut_end (a : Nat) (l : List Nat) (j : Nat) (h : j < l.length) : cut (a :: l) (some ((j + 2 : Nat) : Int)) none = l.drop (j + 1) := by
  unfold cut
  have s1 : sIx (a :: l).length 0 (some ((j + 2 : Nat) : Int)) = j + 2 := by
    unfold sIx; dsimp only
    rw [if_neg (by omega), Int.toNat_natCast, List.length_cons]; omega
  have s2 : sIx (a :: l).length (a :: l).length none = (a :: l).length := rfl
  rw [s1, s2]
  show ((l.drop (j + 1))).take _ = _
  apply List.take_of_length_le
  rw [List.length_drop, List.length_cons]; omega
def df : Nat → Nat
  | 0 => 1
  | m + 1 => (2 * m + 1) * df m
def blk (m a : Nat) (ns : List Nat) (k : Nat) : List (List (Nat × Nat)) := (apF m (ns.take k ++ ns.drop (k + 1))).map fun own => (a, ns.getD k 0) :: own
def LP (ps : List (Nat × Nat)) : W := .lst (ps.map PW)
theorem ap_step (m a : Nat) (ns : List Nat) : apF (m + 1) (a :: ns) = (List.range ns.length).flatMap (blk m a ns) := rfl
theorem ap_len : ∀ (m : Nat) (ns : List Nat), ns.length = 2 * m → (apF m ns).length = df m ∧ ∀ ps ∈ apF m ns, ps.length = m
  | 0, ns, _ => ⟨rfl, fun ps hp => by rw [List.mem_singleton.1 (show ps ∈ [[]] from hp)]; rfl⟩
  | m + 1, [], h => by simp at h
  | m + 1, a :: ns, h => by
    have hn : ns.length = 2 * m + 1 := by rw [List.length_cons] at h; omega
    have b : ∀ k, k < ns.length → (blk m a ns k).length = df m ∧ ∀ ps ∈ blk m a ns k, ps.length = m + 1 := by
      intro k hk
      have q := ap_len m (ns.take k ++ ns.drop (k + 1)) (by rw [List.length_append, List.length_take, List.length_drop]; omega)
      refine ⟨by unfold blk; rw [List.length_map]; exact q.1, fun ps hp => ?_⟩
      obtain ⟨own, ho, rfl⟩ := List.mem_map.1 hp
      rw [List.length_cons, q.2 own ho]
    rw [ap_step]
    refine ⟨?_, fun ps hp => ?_⟩
    · have : ∀ j, j ≤ ns.length → ((List.range j).flatMap (blk m a ns)).length = j * df m := by
        intro j
        induction j with
        | zero => intro _; simp
        | succ j ih =>
          intro hj
          rw [List.range_succ, List.flatMap_append, List.length_append, ih (by omega)]
          rw [List.flatMap_cons, List.flatMap_nil, List.append_nil, (b j (by omega)).1, Nat.succ_mul]
      rw [this ns.length (Nat.le_refl _), hn]; rfl
    · obtain ⟨k, hk, hp⟩ := List.mem_flatMap.1 hp
      exact (b k (List.mem_range.1 hk)).2 ps hp
theorem part_len (m a : Nat) (ns : List Nat) (hn : ns.length = 2 * m + 1) : ∀ j, j ≤ ns.length → ((List.range j).flatMap (blk m a ns)).length = j * df m := by
  intro j
  induction j with
  | zero => intro _; simp
  | succ j ih =>
    intro hj
    rw [List.range_succ, List.flatMap_append, List.length_append, ih (by omega)]
    rw [List.flatMap_cons, List.flatMap_nil, List.append_nil, Nat.succ_mul]
    congr 1
    unfold blk
    rw [List.length_map]
    exact (ap_len m _ (by rw [List.length_append, List.length_take, List.length_drop]; omega)).1
theorem lcLoop_mapT {own : List Nat} {turn : W → En → RE (List W)} {e : En} {α : Type} (r : α → W) (g : α → W) : ∀ (xs : List α), (∀ x ∈ xs, ∃ e', turn (r x) e = .ok [g x] e' ∧ backE e' e own = e) → lcLoop own turn (xs.map r) e = .ok (xs.map g) e
  | [], _ => rfl
  | x :: xs, h => by
    obtain ⟨e', h1, h2⟩ := h x (List.mem_cons_self ..)
    rw [List.map_cons]
    unfold lcLoop
    rw [h1]
    dsimp only
    rw [h2, lcLoop_mapT r g xs fun y hy => h y (List.mem_cons_of_mem _ hy)]
    rfl
theorem cons_w (x : W) (e : En) (g : En → RE R1) : consE (.ok (.w x) e) g = rsE (g e) fun rs e3 => .ok (.l (.w x :: rs)) e3 := rfl
theorem add_lst (xs ys : List W) (h : xs.length + ys.length ≤ lim) : binW .add (.lst xs) (.lst ys) = some (.f (.lst (xs ++ ys))) := by
  show (if xs.length + ys.length ≤ lim then some (R1.f (.lst (xs ++ ys))) else none) = _
  rw [if_pos h]
theorem add_tup (xs ys : List W) (h : xs.length + ys.length ≤ lim) : binW .add (.tup xs) (.tup ys) = some (.w (.tup (xs ++ ys))) := by
  show (if xs.length + ys.length ≤ lim then some (R1.w (.tup (xs ++ ys))) else none) = _
  rw [if_pos h]
section
variable (i : Nat)
def restE : E := .bin .add (.sl (.v 0) (.k (.int 1)) (.v 2)) (.sl (.v 0) (.bin .add (.v 2) (.k (.int 1))) .nil)
def elE (x : Nat) : E := .bin .add (.lst (.cons (.tup (.cons (.ix (.v 0) (.k (.int 0))) (.cons (.ix (.v 0) (.v 2)) .nil))) .nil)) (.v x)
theorem ev_sl (a lo hi : E) (e : En) : ev T K (.sl a lo hi) e = slE (ev T K a e) (partE (isNil lo) (ev T K lo)) (partE (isNil hi) (ev T K hi)) := rfl
theorem rest_ev (a : Nat) (ns : List Nat) (j : Nat) (tl : En) (s1 : Sl) (hj : j < ns.length) (hl : ns.length < 1000) : ev T K restE (.v (.tup (Is (a :: ns))) :: s1 :: .v (I (j + 1)) :: tl) = .ok (.w (.tup (Is (ns.take j ++ ns.drop (j + 1))))) (.v (.tup (Is (a :: ns))) :: s1 :: .v (I (j + 1)) :: tl) := by
  generalize he : (.v (.tup (Is (a :: ns))) :: s1 :: .v (I (j + 1)) :: tl : En) = en
  have v0 : ev T K (.v 0) en = .ok (.w (.tup (Is (a :: ns)))) en := by subst he; rfl
  have v2 : ev T K (.v 2) en = .ok (.w (.int ((j + 1 : Nat) : Int))) en := by subst he; rfl
  have k1 : ev T K (.k (.int 1)) en = .ok (.w (.int ((1 : Nat) : Int))) en := rfl
  have p1 : ev T K (.bin .add (.v 2) (.k (.int 1))) en = .ok (.w (.int ((j + 2 : Nat) : Int))) en := by
    rw [ev_bin, v2, un2_ww k1, add_int, ofO_some]
  have e1 : ev T K (.sl (.v 0) (.k (.int 1)) (.v 2)) en = .ok (.w (.tup (Is (ns.take j)))) en := by
    have q1 : partE (isNil (.k (.int 1))) (ev T K (.k (.int 1))) en = .ok (some 1) en := rfl
    have q2 : partE (isNil (.v 2)) (ev T K (.v 2)) en = .ok (some ((j + 1 : Nat) : Int)) en := by
      show (match ev T K (.v 2) en with | .ok r e => _ | .exn x e => _ | .err => _) = _
      rw [v2]; rfl
    rw [ev_sl, v0]
    unfold slE
    dsimp only
    rw [q1]
    dsimp only
    rw [q2]
    show ofO (some (R1.w (.tup (cut (Is (a :: ns)) (some 1) (some ((j + 1 : Nat) : Int)))))) en = _
    rw [cut_Is, cut_mid a ns j (by omega)]; try rfl
  have e2 : ev T K (.sl (.v 0) (.bin .add (.v 2) (.k (.int 1))) .nil) en = .ok (.w (.tup (Is (ns.drop (j + 1))))) en := by
    have q1 : partE (isNil (.bin .add (.v 2) (.k (.int 1)))) (ev T K (.bin .add (.v 2) (.k (.int 1)))) en = .ok (some ((j + 2 : Nat) : Int)) en := by
      show (match ev T K (.bin .add (.v 2) (.k (.int 1))) en with | .ok r e => _ | .exn x e => _ | .err => _) = _
      rw [p1]; rfl
    have q2 : partE (isNil .nil) (ev T K .nil) en = .ok none en := rfl
    rw [ev_sl, v0]
    unfold slE
    dsimp only
    rw [q1]
    dsimp only
    rw [q2]
    show ofO (some (R1.w (.tup (cut (Is (a :: ns)) (some ((j + 2 : Nat) : Int)) none)))) en = _
    rw [cut_Is, cut_end a ns j hj]; try rfl
  unfold restE
  rw [ev_bin, e1, un2_ww e2, add_tup _ _ (by rw [Is_length, Is_length, List.length_take, List.length_drop]; unfold lim; omega), ofO_some, ← Is_append]
theorem el_ev (x a : Nat) (ns : List Nat) (j : Nat) (tl : En) (s1 : Sl) (ps : List (Nat × Nat)) (hx : (.v (.tup (Is (a :: ns))) :: s1 :: .v (I (j + 1)) :: tl : En)[x]? = some (.v (LP ps))) (hj : j < ns.length) (hp : ps.length < 1000) : ev T K (elE x) (.v (.tup (Is (a :: ns))) :: s1 :: .v (I (j + 1)) :: tl) = .ok (.f (LP ((a, ns.getD j 0) :: ps))) (.v (.tup (Is (a :: ns))) :: s1 :: .v (I (j + 1)) :: tl) := by
  generalize he : (.v (.tup (Is (a :: ns))) :: s1 :: .v (I (j + 1)) :: tl : En) = en at hx
  have i0 : ev T K (.ix (.v 0) (.k (.int 0))) en = .ok (.w (I a)) en := by
    subst he
    show ofO (Option.map R1.w (ixW (.tup (Is (a :: ns))) (I 0))) _ = _
    rw [ix_tup (a :: ns) (k := 0) (by rw [List.length_cons]; omega)]; rfl
  have i1 : ev T K (.ix (.v 0) (.v 2)) en = .ok (.w (I (ns.getD j 0))) en := by
    subst he
    show ofO (Option.map R1.w (ixW (.tup (Is (a :: ns))) (I (j + 1)))) _ = _
    rw [ix_tup (a :: ns) (k := j + 1) (by rw [List.length_cons]; omega)]; rfl
  have c2 : ev T K (.cons (.ix (.v 0) (.v 2)) .nil) en = .ok (.l [.w (I (ns.getD j 0))]) en := by rw [ev_cons, i1]; rfl
  have c1 : ev T K (.cons (.ix (.v 0) (.k (.int 0))) (.cons (.ix (.v 0) (.v 2)) .nil)) en = .ok (.l [.w (I a), .w (I (ns.getD j 0))]) en := by rw [ev_cons, i0, cons_w, c2]; rfl
  have t1 : ev T K (.tup (.cons (.ix (.v 0) (.k (.int 0))) (.cons (.ix (.v 0) (.v 2)) .nil))) en = .ok (.w (PW (a, ns.getD j 0))) en := by
    show argsE (ev T K (.cons (.ix (.v 0) (.k (.int 0))) (.cons (.ix (.v 0) (.v 2)) .nil)) en) tupE = _
    rw [c1]; rfl
  have c3 : ev T K (.cons (.tup (.cons (.ix (.v 0) (.k (.int 0))) (.cons (.ix (.v 0) (.v 2)) .nil))) .nil) en = .ok (.l [.w (PW (a, ns.getD j 0))]) en := by rw [ev_cons, t1]; rfl
  have l1 : ev T K (.lst (.cons (.tup (.cons (.ix (.v 0) (.k (.int 0))) (.cons (.ix (.v 0) (.v 2)) .nil))) .nil)) en = .ok (.f (.lst [PW (a, ns.getD j 0)])) en := by
    show argsE (ev T K (.cons (.tup (.cons (.ix (.v 0) (.k (.int 0))) (.cons (.ix (.v 0) (.v 2)) .nil))) .nil) en) lstE = _
    rw [c3]; rfl
  have vx : ev T K (.v x) en = .ok (.w (LP ps)) en := by
    show evV x en = _
    unfold evV; rw [hx]
  unfold elE
  rw [ev_bin, l1, un2_fw vx]
  unfold LP
  rw [add_lst _ _ (by rw [List.length_map]; unfold lim; simp; omega)]
  rfl
theorem lcEl_f {el : En → RE R1} {e e1 : En} {xs : List W} (h : el e = .ok (.f (.lst xs)) e1) : lcEl el e = .ok [.lst xs] e1 := by
  unfold lcEl; rw [h]; rfl
theorem blk_lc (x a m : Nat) (ns : List Nat) (j : Nat) (en : En) (tl tl' : En) (s1 : Sl) (it : E) (hn : ns.length = 2 * m + 1) (hm : m < 8) (hj : j < ns.length)
    (hen : en = .v (.tup (Is (a :: ns))) :: s1 :: .v (I (j + 1)) :: tl) (hit : asItems (ev T K it en) = .ok ((apF m (ns.take j ++ ns.drop (j + 1))).map LP) en)
    (hb : ∀ w, ∃ tl', bindP (.n x) w (wipeE en [x]) = some (.v (.tup (Is (a :: ns))) :: s1 :: .v (I (j + 1)) :: tl') ∧ (.v (.tup (Is (a :: ns))) :: s1 :: .v (I (j + 1)) :: tl' : En)[x]? = some (.v w) ∧ backE (.v (.tup (Is (a :: ns))) :: s1 :: .v (I (j + 1)) :: tl') en [x] = en) (hd : df m < 1000000) :
    ev T K (.lc [x] (.n x) it .nil (elE x)) en = .ok (.f (.lst ((blk m a ns j).map LP))) en := by
  have hl := ap_len m (ns.take j ++ ns.drop (j + 1)) (by rw [List.length_append, List.length_take, List.length_drop]; omega)
  have lp := lcLoop_mapT (own := [x]) (turn := lcTurn [x] (.n x) none (lcEl (ev T K (elE x)))) (e := en) LP (fun ps => LP ((a, ns.getD j 0) :: ps)) (apF m (ns.take j ++ ns.drop (j + 1))) (by
    intro ps hp
    obtain ⟨tl', h1, h2, h3⟩ := hb (LP ps)
    refine ⟨_, ?_, h3⟩
    unfold lcTurn
    rw [h1]
    show lcEl (ev T K (elE x)) _ = _
    exact lcEl_f (el_ev T K x a ns j tl' s1 ps h2 hj (by rw [hl.2 ps hp]; omega)))
  have r : lcRun [x] (asItems (ev T K it en)) (lcTurn [x] (.n x) none (lcEl (ev T K (elE x)))) = .ok ((blk m a ns j).map LP) en := by
    rw [hit]
    unfold lcRun
    dsimp only
    rw [lp]
    dsimp only
    rw [if_pos (by rw [List.length_map, hl.1]; unfold lim; omega)]
    unfold blk
    rw [List.map_map]; rfl
  rw [ev_lc]
  exact (congrArg (fun z => itE z fun ws e' => RE.ok (R1.f (.lst ws)) e') r)
theorem rng2_items (a b : E) (e : En) (n : Nat) (h : n < 1000000) (ha : ev T K a e = .ok (.w (.int 1)) e) (hb : ev T K b e = .ok (.w (.int ((n + 1 : Nat) : Int))) e) : asItems (ev T K (.rng2 a b) e) = .ok (Is (List.range' 1 n)) e := by
  have r : rng2F (.int 1) (.int ((n + 1 : Nat) : Int)) = some (Is (List.range' 1 n)) := by
    have b1 : (big 1 && big ((n + 1 : Nat) : Int)) = true := by unfold big; simp; omega
    unfold rng2F
    dsimp only
    rw [b1, if_pos rfl]
    have : (((n + 1 : Nat) : Int) - 1).toNat = n := by omega
    rw [this, ← rangeL_Is n 1]; rfl
  show asItems (un2 (fun x y => lOf (rng2F x y)) (ev T K a e) (ev T K b)) = _
  rw [ha, un2_ww hb, r, lOf_some, ofO_some, asItems_ml]
end
/-- the law's road: found = found + [..] -/
def fPairs (i : Nat) : S := (.cons (.ite (.cmp .eq (.b1 .len (.v 0)) (.k (.int 0))) (.cons (.ret (.lst (.cons (.lst .nil) .nil))) .nil) .nil) (.cons (.asg (.p (.n 1)) (.lst .nil)) (.cons (.for (.n 2) (.rng2 (.k (.int 1)) (.b1 .len (.v 0)))
  (.cons (.asg (.p (.n 1)) (.bin .add (.v 1) (.lc [3] (.n 3) (.call i (.cons restE .nil)) .nil (elE 3)))) .nil)) (.cons (.ret (.v 1)) .nil))))
/-- the program's road: found.extend([..]) -/
def fPairs2 (i : Nat) : S := (.cons (.ite (.cmp .eq (.b1 .len (.v 0)) (.k (.int 0))) (.cons (.ret (.lst (.cons (.lst .nil) .nil))) .nil) .nil) (.cons (.asg (.p (.n 1)) (.lst .nil)) (.cons (.for (.n 2) (.rng2 (.k (.int 1)) (.b1 .len (.v 0)))
  (.cons (.asg (.p (.n 3)) restE) (.cons (.ext 1 (.lc [4] (.n 4) (.call i (.cons (.v 3) .nil)) .nil (elE 4))) .nil))) (.cons (.ret (.v 1)) .nil))))
def HP (i m : Nat) : Prop := ∀ ns : List Nat, ns.length = 2 * m → K i [.v (.tup (Is ns))] = .ok true (.lst ((apF m ns).map LP)) .n
theorem pairs_zero (i : Nat) : fin false (ex T K (fPairs i) [.v (.tup (Is [])), .n, .n, .n]) = .ok true (.lst ((apF 0 []).map LP)) .n := rfl
theorem pairs2_zero (i : Nat) : fin false (ex T K (fPairs2 i) [.v (.tup (Is [])), .n, .n, .n, .n]) = .ok true (.lst ((apF 0 []).map LP)) .n := rfl
def pe (ns : List Nat) (f : List (List (Nat × Nat))) (s2 : Sl) : En := [.v (.tup (Is ns)), .o (.lst (f.map LP)), s2, .n]
def pe2 (ns : List Nat) (f : List (List (Nat × Nat))) (s2 s3 : Sl) : En := [.v (.tup (Is ns)), .o (.lst (f.map LP)), s2, s3, .n]
theorem call1 (i : Nat) (a : E) (e : En) (x : W) (ha : ev T K a e = .ok (.w x) e) : ev T K (.call i (.cons a .nil)) e = landed (K i [.v x]) e := by
  have c : ev T K (.cons a .nil) e = .ok (.l [.w x]) e := by rw [ev_cons, ha]; rfl
  rw [ev_call, c]; rfl
theorem df_big (m : Nat) (hm : m < 8) : df m < 1000000 := by
  rcases m with _ | _ | _ | _ | _ | _ | _ | _ | m
  all_goals first | decide | omega
theorem pairs_body (i m : Nat) (h : HP K i m) (hm : m < 7) (a : Nat) (ns : List Nat) (hn : ns.length = 2 * m + 1) (j : Nat) (hj : j < ns.length) (f : List (List (Nat × Nat))) (hf : f.length ≤ j * df m) :
    ex T K (.cons (.asg (.p (.n 1)) (.bin .add (.v 1) (.lc [3] (.n 3) (.call i (.cons restE .nil)) .nil (elE 3)))) .nil) (pe (a :: ns) f (.v (I (j + 1)))) = .ok .next (pe (a :: ns) (f ++ blk m a ns j) (.v (I (j + 1)))) := by
  have hd := df_big m (by omega)
  have it : asItems (ev T K (.call i (.cons restE .nil)) (pe (a :: ns) f (.v (I (j + 1))))) = .ok ((apF m (ns.take j ++ ns.drop (j + 1))).map LP) (pe (a :: ns) f (.v (I (j + 1)))) := by
    rw [call1 T K i restE (pe (a :: ns) f (.v (I (j + 1)))) _ (rest_ev T K a ns j [.n] (.o (.lst (f.map LP))) hj (by omega)), h _ (by rw [List.length_append, List.length_take, List.length_drop]; omega)]
    rfl
  have l := blk_lc T K 3 a m ns j (pe (a :: ns) f (.v (I (j + 1)))) [.n] [.n] (.o (.lst (f.map LP))) (.call i (.cons restE .nil)) hn (by omega) hj rfl it (fun w => ⟨[.v w], rfl, rfl, rfl⟩) hd
  have bl : (blk m a ns j).length = df m := by
    unfold blk; rw [List.length_map]
    exact (ap_len m _ (by rw [List.length_append, List.length_take, List.length_drop]; omega)).1
  have v1 : ev T K (.v 1) (pe (a :: ns) f (.v (I (j + 1)))) = .ok (.s 1) (pe (a :: ns) f (.v (I (j + 1)))) := rfl
  have hb : j * df m ≤ 13 * 135135 := Nat.mul_le_mul (by omega) (by
    rcases m with _ | _ | _ | _ | _ | _ | _ | m
    all_goals first | decide | omega)
  have s : ev T K (.bin .add (.v 1) (.lc [3] (.n 3) (.call i (.cons restE .nil)) .nil (elE 3))) (pe (a :: ns) f (.v (I (j + 1)))) = .ok (.f (.lst ((f ++ blk m a ns j).map LP))) (pe (a :: ns) f (.v (I (j + 1)))) := by
    rw [ev_bin, un2_pk (e1 := pe (a :: ns) f (.v (I (j + 1)))) v1 l (x := .lst (f.map LP)) (y := .lst ((blk m a ns j).map LP)) rfl rfl, add_lst _ _ (by rw [List.length_map, List.length_map, bl]; unfold lim; omega), ofO_some, List.map_append]
  have x : ex T K (.asg (.p (.n 1)) (.bin .add (.v 1) (.lc [3] (.n 3) (.call i (.cons restE .nil)) .nil (elE 3)))) (pe (a :: ns) f (.v (I (j + 1)))) = .ok .next (pe (a :: ns) (f ++ blk m a ns j) (.v (I (j + 1)))) := by
    rw [ex_asg, s]; rfl
  rw [ex_next x]; rfl
theorem pairs2_body (i m : Nat) (h : HP K i m) (hm : m < 7) (a : Nat) (ns : List Nat) (hn : ns.length = 2 * m + 1) (j : Nat) (hj : j < ns.length) (f : List (List (Nat × Nat))) (hf : f.length ≤ j * df m) (s3 : Sl) (h3 : notP s3 = true) :
    ex T K (.cons (.asg (.p (.n 3)) restE) (.cons (.ext 1 (.lc [4] (.n 4) (.call i (.cons (.v 3) .nil)) .nil (elE 4))) .nil)) (pe2 (a :: ns) f (.v (I (j + 1))) s3) = .ok .next (pe2 (a :: ns) (f ++ blk m a ns j) (.v (I (j + 1))) (.v (.tup (Is (ns.take j ++ ns.drop (j + 1)))))) := by
  have hd := df_big m (by omega)
  have x1 : ex T K (.asg (.p (.n 3)) restE) (pe2 (a :: ns) f (.v (I (j + 1))) s3) = .ok .next (pe2 (a :: ns) f (.v (I (j + 1))) (.v (.tup (Is (ns.take j ++ ns.drop (j + 1)))))) := by
    rw [ex_asg, show ev T K restE (pe2 (a :: ns) f (.v (I (j + 1))) s3) = _ from rest_ev T K a ns j [s3, .n] (.o (.lst (f.map LP))) hj (by omega), resE_ok]
    show unitF (ofU (store 3 _ _)) = _
    rw [store_some (t := s3) rfl h3]; rfl
  generalize hR : (.v (.tup (Is (ns.take j ++ ns.drop (j + 1)))) : Sl) = R at x1 ⊢
  have it : asItems (ev T K (.call i (.cons (.v 3) .nil)) (pe2 (a :: ns) f (.v (I (j + 1))) R)) = .ok ((apF m (ns.take j ++ ns.drop (j + 1))).map LP) (pe2 (a :: ns) f (.v (I (j + 1))) R) := by
    subst hR
    rw [call1 T K i (.v 3) _ _ rfl, h _ (by rw [List.length_append, List.length_take, List.length_drop]; omega)]
    rfl
  have l := blk_lc T K 4 a m ns j (pe2 (a :: ns) f (.v (I (j + 1))) R) [R, .n] [R, .n] (.o (.lst (f.map LP))) (.call i (.cons (.v 3) .nil)) hn (by omega) hj rfl it (fun w => ⟨[R, .v w], rfl, rfl, rfl⟩) hd
  have bl : (blk m a ns j).length = df m := by
    unfold blk; rw [List.length_map]
    exact (ap_len m _ (by rw [List.length_append, List.length_take, List.length_drop]; omega)).1
  have hb : j * df m ≤ 13 * 135135 := Nat.mul_le_mul (by omega) (by
    rcases m with _ | _ | _ | _ | _ | _ | _ | m
    all_goals first | decide | omega)
  have e : extW (.lst ((blk m a ns j).map LP)) (.lst (f.map LP)) = some (.lst ((f ++ blk m a ns j).map LP)) := by
    show (if (f.map LP).length + ((blk m a ns j).map LP).length ≤ lim then some (W.lst (f.map LP ++ (blk m a ns j).map LP)) else none) = _
    rw [if_pos (by rw [List.length_map, List.length_map, bl]; unfold lim; omega), List.map_append]
  have x2 : ex T K (.ext 1 (.lc [4] (.n 4) (.call i (.cons (.v 3) .nil)) .nil (elE 4))) (pe2 (a :: ns) f (.v (I (j + 1))) R) = .ok .next (pe2 (a :: ns) (f ++ blk m a ns j) (.v (I (j + 1))) R) := by
    show valE (ev T K (.lc [4] (.n 4) (.call i (.cons (.v 3) .nil)) .nil (elE 4)) (pe2 (a :: ns) f (.v (I (j + 1))) R)) (fun w e2 => nxt (chg 1 (extW w) e2)) = _
    rw [l]
    show nxt (match extW (.lst ((blk m a ns j).map LP)) (.lst (f.map LP)) with | some y => some _ | none => none) = _
    rw [e]; rfl
  rw [ex_next x1, ex_next x2]; rfl
theorem pairs_loop (i m : Nat) (h : HP K i m) (hm : m < 7) (a : Nat) (ns : List Nat) (hn : ns.length = 2 * m + 1) : ∀ (c j : Nat) (s2 : Sl), j + c = ns.length → notP s2 = true → ∃ t2, forL (bindP (.n 2)) (ex T K (.cons (.asg (.p (.n 1)) (.bin .add (.v 1) (.lc [3] (.n 3) (.call i (.cons restE .nil)) .nil (elE 3)))) .nil)) (Is (List.range' (1 + j) c)) (pe (a :: ns) ((List.range j).flatMap (blk m a ns)) s2) = .ok .next (pe (a :: ns) ((List.range ns.length).flatMap (blk m a ns)) t2)
  | 0, j, s2, hc, _ => ⟨s2, by rw [← hc]; rfl⟩
  | c + 1, j, s2, hc, h2 => by
    have b := pairs_body T K i m h hm a ns hn j (by omega) ((List.range j).flatMap (blk m a ns)) (by rw [part_len m a ns hn j (by omega)]; exact Nat.le_refl _)
    have s : (List.range j).flatMap (blk m a ns) ++ blk m a ns j = (List.range (j + 1)).flatMap (blk m a ns) := by
      rw [List.range_succ, List.flatMap_append, List.flatMap_cons, List.flatMap_nil, List.append_nil]
    rw [s] at b
    obtain ⟨t2, q⟩ := pairs_loop i m h hm a ns hn c (j + 1) (.v (I (j + 1))) (by omega) rfl
    refine ⟨t2, ?_⟩
    rw [List.range'_succ, Is_cons, Nat.add_comm 1 j]
    refine (for_next (e1 := pe (a :: ns) ((List.range j).flatMap (blk m a ns)) (.v (I (j + 1)))) (store_some (t := s2) rfl h2) b).trans ?_
    rw [Nat.add_comm (j + 1) 1]
    exact q
theorem pairs2_loop (i m : Nat) (h : HP K i m) (hm : m < 7) (a : Nat) (ns : List Nat) (hn : ns.length = 2 * m + 1) : ∀ (c j : Nat) (s2 s3 : Sl), j + c = ns.length → notP s2 = true → notP s3 = true → ∃ t2 t3, forL (bindP (.n 2)) (ex T K (.cons (.asg (.p (.n 3)) restE) (.cons (.ext 1 (.lc [4] (.n 4) (.call i (.cons (.v 3) .nil)) .nil (elE 4))) .nil))) (Is (List.range' (1 + j) c)) (pe2 (a :: ns) ((List.range j).flatMap (blk m a ns)) s2 s3) = .ok .next (pe2 (a :: ns) ((List.range ns.length).flatMap (blk m a ns)) t2 t3)
  | 0, j, s2, s3, hc, _, _ => ⟨s2, s3, by rw [← hc]; rfl⟩
  | c + 1, j, s2, s3, hc, h2, h3 => by
    have b := pairs2_body T K i m h hm a ns hn j (by omega) ((List.range j).flatMap (blk m a ns)) (by rw [part_len m a ns hn j (by omega)]; exact Nat.le_refl _) s3 h3
    have s : (List.range j).flatMap (blk m a ns) ++ blk m a ns j = (List.range (j + 1)).flatMap (blk m a ns) := by
      rw [List.range_succ, List.flatMap_append, List.flatMap_cons, List.flatMap_nil, List.append_nil]
    rw [s] at b
    obtain ⟨t2, t3, q⟩ := pairs2_loop i m h hm a ns hn c (j + 1) (.v (I (j + 1))) (.v (.tup (Is (ns.take j ++ ns.drop (j + 1))))) (by omega) rfl rfl
    refine ⟨t2, t3, ?_⟩
    rw [List.range'_succ, Is_cons, Nat.add_comm 1 j]
    refine (for_next (e1 := pe2 (a :: ns) ((List.range j).flatMap (blk m a ns)) (.v (I (j + 1))) s3) (store_some (t := s2) rfl h2) b).trans ?_
    rw [Nat.add_comm (j + 1) 1]
    exact q
theorem len_ev (x : Nat) (e : En) (l : List Nat) (h : ev T K (.v x) e = .ok (.w (.tup (Is l))) e) : ev T K (.b1 .len (.v x)) e = .ok (.w (.int (l.length : Int))) e := by
  rw [ev_b1, h, un1_w]
  show ofO (some (R1.w (W.int ((Is l).length : Int)))) e = _
  rw [Is_length]
theorem not_zero (e : En) (n : Nat) (a : E) (h : ev T K a e = .ok (.w (.int ((n + 1 : Nat) : Int))) e) : ev T K (.cmp .eq a (.k (.int 0))) e = .ok (.w (.bl false)) e := by
  have k : ev T K (.k (.int 0)) e = .ok (.w (I 0)) e := rfl
  have h : ev T K a e = .ok (.w (I (n + 1))) e := h
  rw [ev_cmp, h, un2_ww k]
  show ofO (bl (cmpW .eq (I (n + 1)) (I 0))) e = _
  rw [eq_I]; rfl
theorem pairs_step (i m : Nat) (h : HP K i m) (hm : m < 7) (ns : List Nat) (hn : ns.length = 2 * (m + 1)) : fin false (ex T K (fPairs i) [.v (.tup (Is ns)), .n, .n, .n]) = .ok true (.lst ((apF (m + 1) ns).map LP)) .n := by
  cases ns with
  | nil => simp at hn
  | cons a ns =>
    have hn' : ns.length = 2 * m + 1 := by rw [List.length_cons] at hn; omega
    have l0 := len_ev T K 0 [.v (.tup (Is (a :: ns))), .n, .n, .n] (a :: ns) rfl
    have a1 : ex T K (.ite (.cmp .eq (.b1 .len (.v 0)) (.k (.int 0))) (.cons (.ret (.lst (.cons (.lst .nil) .nil))) .nil) .nil) [.v (.tup (Is (a :: ns))), .n, .n, .n] = .ok .next [.v (.tup (Is (a :: ns))), .n, .n, .n] := by
      rw [ex_ite, not_zero T K _ ns.length _ l0]; rfl
    have a2 : ex T K (.asg (.p (.n 1)) (.lst .nil)) [.v (.tup (Is (a :: ns))), .n, .n, .n] = .ok .next (pe (a :: ns) [] .n) := rfl
    obtain ⟨t2, q⟩ := pairs_loop T K i m h hm a ns hn' ns.length 0 .n (by omega) rfl
    have a3 := for_items T K (p := .n 2) (b := (.cons (.asg (.p (.n 1)) (.bin .add (.v 1) (.lc [3] (.n 3) (.call i (.cons restE .nil)) .nil (elE 3)))) .nil)) (rng2_items T K (.k (.int 1)) (.b1 .len (.v 0)) (pe (a :: ns) [] .n) ns.length (by omega) rfl (len_ev T K 0 _ (a :: ns) rfl)) q
    unfold fPairs
    rw [ex_next a1, ex_next a2, ex_next a3]
    rfl
theorem pairs2_step (i m : Nat) (h : HP K i m) (hm : m < 7) (ns : List Nat) (hn : ns.length = 2 * (m + 1)) : fin false (ex T K (fPairs2 i) [.v (.tup (Is ns)), .n, .n, .n, .n]) = .ok true (.lst ((apF (m + 1) ns).map LP)) .n := by
  cases ns with
  | nil => simp at hn
  | cons a ns =>
    have hn' : ns.length = 2 * m + 1 := by rw [List.length_cons] at hn; omega
    have l0 := len_ev T K 0 [.v (.tup (Is (a :: ns))), .n, .n, .n, .n] (a :: ns) rfl
    have a1 : ex T K (.ite (.cmp .eq (.b1 .len (.v 0)) (.k (.int 0))) (.cons (.ret (.lst (.cons (.lst .nil) .nil))) .nil) .nil) [.v (.tup (Is (a :: ns))), .n, .n, .n, .n] = .ok .next [.v (.tup (Is (a :: ns))), .n, .n, .n, .n] := by
      rw [ex_ite, not_zero T K _ ns.length _ l0]; rfl
    have a2 : ex T K (.asg (.p (.n 1)) (.lst .nil)) [.v (.tup (Is (a :: ns))), .n, .n, .n, .n] = .ok .next (pe2 (a :: ns) [] .n .n) := rfl
    obtain ⟨t2, t3, q⟩ := pairs2_loop T K i m h hm a ns hn' ns.length 0 .n .n (by omega) rfl rfl
    have a3 := for_items T K (p := .n 2) (b := (.cons (.asg (.p (.n 3)) restE) (.cons (.ext 1 (.lc [4] (.n 4) (.call i (.cons (.v 3) .nil)) .nil (elE 4))) .nil))) (rng2_items T K (.k (.int 1)) (.b1 .len (.v 0)) (pe2 (a :: ns) [] .n .n) ns.length (by omega) rfl (len_ev T K 0 _ (a :: ns) rfl)) q
    unfold fPairs2
    rw [ex_next a1, ex_next a2, ex_next a3]
    rfl
/-- at every depth above -/
theorem pairs_run (P : Nat → Option FD) (i : Nat) (hP : P i = some ⟨1, 4, fPairs i⟩) : ∀ (m d : Nat), m < 8 → m < d → HP (run T P d) i m
  | 0, d + 1, _, _, ns, hn => by
    have : ns = [] := List.eq_nil_of_length_eq_zero (by omega)
    subst this
    show (match P i with | some d => _ | none => _) = _
    rw [hP]; rfl
  | m + 1, d + 1, hm, hd, ns, hn => by
    have := pairs_step T (run T P d) i m (pairs_run P i hP m d (by omega) (by omega)) (by omega) ns hn
    show (match P i with | some d => _ | none => _) = _
    rw [hP]; exact this
theorem pairs2_run (P : Nat → Option FD) (i : Nat) (hP : P i = some ⟨1, 5, fPairs2 i⟩) : ∀ (m d : Nat), m < 8 → m < d → HP (run T P d) i m
  | 0, d + 1, _, _, ns, hn => by
    have : ns = [] := List.eq_nil_of_length_eq_zero (by omega)
    subst this
    show (match P i with | some d => _ | none => _) = _
    rw [hP]; rfl
  | m + 1, d + 1, hm, hd, ns, hn => by
    have := pairs2_step T (run T P d) i m (pairs2_run P i hP m d (by omega) (by omega)) (by omega) ns hn
    show (match P i with | some d => _ | none => _) = _
    rw [hP]; exact this
end Pr
end Iv
end

section
set_option linter.all false
set_option autoImplicit false
set_option maxRecDepth 1000000
set_option Elab.async false
namespace K26
open Iv Iv.L26
noncomputable section
variable {ω : Type}
def fOwn (ps : List (Nat × Nat)) : List Nat → (List Nat → ω) → ω := @List.rec (Nat × Nat) (fun _ => List Nat → (List Nat → ω) → ω) (fun l k => k l) (fun q _ ih l k => setC q.2 l q.1 fun l => setC q.1 l q.2 fun l => ih l k) ps
theorem fOwn_eq : ∀ (ps : List (Nat × Nat)) (l : List Nat) (k : List Nat → ω), fOwn ps l k = k (ps.foldl ownS l)
  | [], l, k => rfl
  | q :: ps, l, k => by
    show (setC q.2 l q.1 fun l => setC q.1 l q.2 fun l => fOwn ps l k) = _
    rw [setC_eq, setC_eq, fOwn_eq ps]; rfl
def fOwns (n : Nat) (pss : List (List (Nat × Nat))) : (List (List Nat) → ω) → ω := @List.rec (List (Nat × Nat)) (fun _ => (List (List Nat) → ω) → ω) (fun k => k []) (fun q _ ih k => fOwn q (List.replicate (2 * n) 0) fun a => ih fun ps => k (a :: ps)) pss
theorem fOwns_eq (n : Nat) : ∀ (pss : List (List (Nat × Nat))) (k : List (List Nat) → ω), fOwns n pss k = k (pss.map (ownOf n))
  | [], k => rfl
  | q :: pss, k => by
    show (fOwn q (List.replicate (2 * n) 0) fun a => fOwns n pss fun ps => k (a :: ps)) = _
    rw [fOwn_eq, fOwns_eq n pss]; rfl
end
theorem runG26 (P : RF → Bool) (n f : Nat) (args : List Sl) (h : runG (ω := Bool) (CP (ω := Bool)) n f args (fun fr w s => P (.ok fr w s)) (fun q s => P (.exn q s)) (P .err) = true) : P (run T K26.P n f args) = true := by
  rw [runG_eq T K26.P CP CP_eq n] at h
  unfold okF at h
  cases hr : run T K26.P n f args with
  | err => rw [hr] at h; exact h
  | exn q s => rw [hr] at h; exact h
  | ok fr w s => rw [hr] at h; exact h

noncomputable section
def ofrB (n : Nat) (ps : List (Nat × Nat)) : Bool := fOwn ps (List.replicate (2 * n) 0) fun own => runG (ω := Bool) (CP (ω := Bool)) 37 10 [.v (.lst (ps.map PW)), .v (.int ((2 * n : Nat) : Int))] (fun fr w s => rfT false own (.ok fr w s)) (fun q s => rfT false own (.exn q s)) (rfT false own .err)
def ofrA (n : Nat) (pss : List (List (Nat × Nat))) : Bool := @List.rec (List (Nat × Nat)) (fun _ => Bool) true (fun ps _ ih => ifK (ofrB n ps) ih false) pss
end
theorem ofrA_ok (n : Nat) : ∀ pss : List (List (Nat × Nat)), ofrA n pss = true → ∀ ps ∈ pss, run T K26.P 37 10 [.v (.lst (ps.map PW)), .v (.int ((2 * n : Nat) : Int))] = .ok false (.tup (Is (L26.ownOf n ps))) .n
  | [], _, ps, hp => nomatch hp
  | q :: pss, h, ps, hp => by
    obtain ⟨h1, h2⟩ := ifK_t (show ifK (ofrB n q) (ofrA n pss) false = true from h)
    rcases List.mem_cons.1 hp with rfl | hp
    · unfold ofrB at h1
      rw [fOwn_eq] at h1
      exact rfT_ok (runG26 (rfT false (L26.ownOf n ps)) _ _ _ h1)
    · exact ofrA_ok n pss h2 ps hp
theorem pairings_run (K : Nat → List Sl → RF) (n : Nat) (hn : n < 1000) (fr2 : Bool) (w2 : W) (s2 : Sl) (h2 : K 2 [.v (.int (n : Int)), .v (.int 0), .v (.int 6)] = .ok fr2 w2 s2) (pss : List (List (Nat × Nat))) (hl : pss.length < 1000000) (h12 : K 12 [.v (.tup (Is (List.range (2 * n))))] = .ok true (.lst (pss.map fun ps => .lst (ps.map PW))) .n) (h10 : ∀ ps ∈ pss, K 10 [.v (.lst (ps.map PW)), .v (.int ((2 * n : Nat) : Int))] = .ok false (.tup (Is (L26.ownOf n ps))) .n) : fin false (ex T K f_pairings.body [.v (.int (n : Int)), .n]) = .ok false (.tup ((pss.map (L26.ownOf n)).map TI)) .n := by
  have two : ∀ s1 : Sl, ev T K (.bin .mul (.k (.int 2)) (.v 0)) [.v (.int (n : Int)), s1] = .ok (.w (.int ((2 * n : Nat) : Int))) [.v (.int (n : Int)), s1] := by
    intro s1
    have k : ev T K (.k (.int 2)) [.v (.int (n : Int)), s1] = .ok (.w (.int ((2 : Nat) : Int))) [.v (.int (n : Int)), s1] := rfl
    have v : ev T K (.v 0) [.v (.int (n : Int)), s1] = .ok (.w (.int (n : Int))) [.v (.int (n : Int)), s1] := rfl
    rw [ev_bin, k, un2_ww v, mul_int 2 n (by omega), ofO_some]
  have a1 : ex T K (.expr (.call 2 (.cons (.v 0) (.cons (.k (.int 0)) (.cons (.k (.int 6)) .nil))))) [.v (.int (n : Int)), .n] = .ok .next [.v (.int (n : Int)), .n] := by
    show resE (landed (K 2 [.v (.int (n : Int)), .v (.int 0), .v (.int 6)]) _) _ = _
    rw [h2]; rfl
  have it : asItems (ev T K (.call 12 (.cons (.trng (.bin .mul (.k (.int 2)) (.v 0))) .nil)) [.v (.int (n : Int)), .n]) = .ok (pss.map fun ps => .lst (ps.map PW)) [.v (.int (n : Int)), .n] := by
    have b : ev T K (.trng (.bin .mul (.k (.int 2)) (.v 0))) [.v (.int (n : Int)), .n] = .ok (.w (.tup (Is (List.range (2 * n))))) [.v (.int (n : Int)), .n] := by
      show un1 (fun x => (rngS x).map fun l => .w (.tup l)) (ev T K (.bin .mul (.k (.int 2)) (.v 0)) _) = _
      rw [two, un1_w, rngS_nat (2 * n) (by omega), Option.map_some, ofO_some]
    have a : ev T K (.cons (.trng (.bin .mul (.k (.int 2)) (.v 0))) .nil) [.v (.int (n : Int)), .n] = .ok (.l [.w (.tup (Is (List.range (2 * n))))]) [.v (.int (n : Int)), .n] := by
      rw [ev_cons, b]; rfl
    rw [ev_call, a]
    show asItems (landed (K 12 [.v (.tup (Is (List.range (2 * n))))]) _) = _
    rw [h12]; rfl
  have lp := Pr.lcLoop_mapT (own := [1]) (turn := lcTurn [1] (.n 1) none (lcEl (ev T K (.call 10 (.cons (.v 1) (.cons (.bin .mul (.k (.int 2)) (.v 0)) .nil)))))) (e := [.v (.int (n : Int)), .n]) (fun ps : List (Nat × Nat) => W.lst (ps.map PW)) (fun ps => TI (L26.ownOf n ps)) pss (by
    intro ps hps
    refine ⟨[.v (.int (n : Int)), .v (.lst (ps.map PW))], ?_, rfl⟩
    have a : ev T K (.cons (.v 1) (.cons (.bin .mul (.k (.int 2)) (.v 0)) .nil)) [.v (.int (n : Int)), .v (.lst (ps.map PW))] = .ok (.l [.w (.lst (ps.map PW)), .w (.int ((2 * n : Nat) : Int))]) [.v (.int (n : Int)), .v (.lst (ps.map PW))] := by
      have v : ev T K (.v 1) [.v (.int (n : Int)), .v (.lst (ps.map PW))] = .ok (.w (.lst (ps.map PW))) [.v (.int (n : Int)), .v (.lst (ps.map PW))] := rfl
      have a' : ev T K (.cons (.bin .mul (.k (.int 2)) (.v 0)) .nil) [.v (.int (n : Int)), .v (.lst (ps.map PW))] = .ok (.l [.w (.int ((2 * n : Nat) : Int))]) [.v (.int (n : Int)), .v (.lst (ps.map PW))] := by
        rw [ev_cons, two]; rfl
      rw [ev_cons, v, Pr.cons_w, a']; rfl
    show lcEl (ev T K (.call 10 (.cons (.v 1) (.cons (.bin .mul (.k (.int 2)) (.v 0)) .nil)))) [.v (.int (n : Int)), .v (.lst (ps.map PW))] = _
    have c : ev T K (.call 10 (.cons (.v 1) (.cons (.bin .mul (.k (.int 2)) (.v 0)) .nil))) [.v (.int (n : Int)), .v (.lst (ps.map PW))] = .ok (.w (TI (L26.ownOf n ps))) [.v (.int (n : Int)), .v (.lst (ps.map PW))] := by
      rw [ev_call, a]
      show landed (K 10 [.v (.lst (ps.map PW)), .v (.int ((2 * n : Nat) : Int))]) _ = _
      rw [h10 ps hps]; rfl
    exact lcEl_w c)
  have r : lcRun [1] (asItems (ev T K (.call 12 (.cons (.trng (.bin .mul (.k (.int 2)) (.v 0))) .nil)) [.v (.int (n : Int)), .n])) (lcTurn [1] (.n 1) none (lcEl (ev T K (.call 10 (.cons (.v 1) (.cons (.bin .mul (.k (.int 2)) (.v 0)) .nil)))))) = .ok (pss.map fun ps => TI (L26.ownOf n ps)) [.v (.int (n : Int)), .n] := by
    rw [it]
    unfold lcRun
    dsimp only
    rw [lp]
    dsimp only
    rw [if_pos (by rw [List.length_map]; unfold lim; omega)]
  have g : ex T K (.ret (.b1 .tuple (.lc [1] (.n 1) (.call 12 (.cons (.trng (.bin .mul (.k (.int 2)) (.v 0))) .nil)) .nil (.call 10 (.cons (.v 1) (.cons (.bin .mul (.k (.int 2)) (.v 0)) .nil)))))) [.v (.int (n : Int)), .n] = .ok (.ret false (.tup ((pss.map (L26.ownOf n)).map TI))) [.v (.int (n : Int)), .n] := by
    have q : ev T K (.lc [1] (.n 1) (.call 12 (.cons (.trng (.bin .mul (.k (.int 2)) (.v 0))) .nil)) .nil (.call 10 (.cons (.v 1) (.cons (.bin .mul (.k (.int 2)) (.v 0)) .nil)))) [.v (.int (n : Int)), .n] = .ok (.f (.lst (pss.map fun ps => TI (L26.ownOf n ps)))) [.v (.int (n : Int)), .n] := by
      rw [ev_lc]
      exact (congrArg (fun z => itE z fun ws e' => RE.ok (R1.f (.lst ws)) e') r)
    rw [ex_ret, ev_b1, q, un1_f, List.map_map]
    rfl
  show fin false (ex T K (.cons (.expr (.call 2 (.cons (.v 0) (.cons (.k (.int 0)) (.cons (.k (.int 6)) .nil))))) (.cons (.ret (.b1 .tuple (.lc [1] (.n 1) (.call 12 (.cons (.trng (.bin .mul (.k (.int 2)) (.v 0))) .nil)) .nil (.call 10 (.cons (.v 1) (.cons (.bin .mul (.k (.int 2)) (.v 0)) .nil)))))) .nil)) _) = _
  rw [ex_next a1]
  exact fin_cons_ret T K g
theorem runS {T : Tb} {P : Nat → Option FD} {n f : Nat} {d : FD} {args : List Sl} (h : P f = some d) (ha : args.length = d.np) : run T P (n + 1) f args = fin (isP args) (ex T (run T P n) d.body (args ++ List.replicate (d.ns - d.np) .n)) := by
  show (match P f with | some d => _ | none => _) = _
  rw [h]
  dsimp only
  rw [if_pos ha]
def tOk : RF → Bool
  | .ok _ _ _ => true
  | _ => false
theorem tOk_ok {r : RF} (h : tOk r = true) : ∃ fr w s, r = .ok fr w s := by
  unfold tOk at h
  split at h
  · exact ⟨_, _, _, rfl⟩
  · cases h

theorem chunk_all {α : Type} (l : List α) (Q : α → Prop) (w c : Nat) (hl : l.length = w * c) (h : ∀ i, i < c → ∀ x ∈ (l.drop (w * i)).take w, Q x) : ∀ x ∈ l, Q x := by
  intro x hx
  obtain ⟨i, hi, rfl⟩ := List.getElem_of_mem hx
  have hw : 0 < w := Nat.pos_of_ne_zero (fun e => by subst e; rw [Nat.zero_mul] at hl; omega)
  have hd := Nat.div_add_mod i w
  have hm := Nat.mod_lt i hw
  refine h (i / w) ((Nat.div_lt_iff_lt_mul hw).2 (by rw [Nat.mul_comm]; omega)) _ (List.mem_iff_getElem.2 ⟨i % w, ?_, ?_⟩)
  · rw [List.length_take, List.length_drop]
    omega
  · rw [List.getElem_take, List.getElem_drop]
    congr 1
theorem c24_any (n : Nat) (hn : n < 8) : run T K26.P 39 24 [.v (.tup (Is (List.range (2 * n))))] = .ok true (.lst ((PS n).map fun ps => .lst (ps.map PW))) .n :=
  Pr.pairs_run T K26.P 24 rfl n 39 hn (by omega) (List.range (2 * n)) List.length_range
theorem c12_any (n : Nat) (hn : n < 8) : run T K26.P 37 12 [.v (.tup (Is (List.range (2 * n))))] = .ok true (.lst ((PS n).map fun ps => .lst (ps.map PW))) .n :=
  Pr.pairs2_run T K26.P 12 rfl n 37 hn (by omega) (List.range (2 * n)) List.length_range
theorem e2_1 : runG (ω := Bool) (CP (ω := Bool)) 37 2 [.v (.int ((1 : Nat) : Int)), .v (.int 0), .v (.int 6)] (fun fr w s => tOk (.ok fr w s)) (fun q s => tOk (.exn q s)) (tOk .err) = true := by decide +kernel
theorem e10_1_0 : fPss (((PS 1).drop (1 * 0)).take 1) (ofrA 1) = true := by decide +kernel
theorem pl_1 : (PS 1).length = 1 := by decide +kernel
theorem e10_1 : ∀ i, i < 1 → ∀ ps ∈ ((PS 1).drop (1 * i)).take 1, run T K26.P 37 10 [.v (.lst (ps.map PW)), .v (.int ((2 * 1 : Nat) : Int))] = .ok false (.tup (Is (L26.ownOf 1 ps))) .n
  | 0, _ => fun ps hp => ofrA_ok 1 _ ((fPss_eq _ _).symm.trans e10_1_0) ps hp
  | i + 1, h => absurd h (by omega)
theorem c11_1 : run T K26.P 38 11 [.v (.int 1)] = .ok false (.tup (((PS 1).map (L26.ownOf 1)).map TI)) .n := by
  obtain ⟨fr2, w2, s2, h2⟩ := tOk_ok (runG26 tOk _ _ _ e2_1)
  exact (runS (n := 37) (d := f_pairings) rfl rfl).trans (pairings_run (run T P 37) 1 (by decide) fr2 w2 s2 h2 (PS 1) (by rw [pl_1]; decide) (c12_any 1 (by decide)) (chunk_all (PS 1) _ 1 1 pl_1 e10_1))
theorem c24_1 : run T K26.P 39 24 [.v (.tup (Is (List.range 2)))] = .ok true (.lst ((PS 1).map fun ps => .lst (ps.map PW))) .n := c24_any 1 (by decide)
theorem cov_1 : ((PS 1).all fun ps => covB 2 ps && innB 2 ps && ltC 2 (L26.ownOf 1 ps)) = true := by decide +kernel
end K26
end

section
set_option linter.all false
set_option autoImplicit false
set_option maxRecDepth 1000000
set_option Elab.async false
namespace K26
open Iv Iv.L26
theorem e2_2 : runG (ω := Bool) (CP (ω := Bool)) 37 2 [.v (.int ((2 : Nat) : Int)), .v (.int 0), .v (.int 6)] (fun fr w s => tOk (.ok fr w s)) (fun q s => tOk (.exn q s)) (tOk .err) = true := by decide +kernel
theorem e10_2_0 : fPss (((PS 2).drop (3 * 0)).take 3) (ofrA 2) = true := by decide +kernel
theorem pl_2 : (PS 2).length = 3 := by decide +kernel
theorem e10_2 : ∀ i, i < 1 → ∀ ps ∈ ((PS 2).drop (3 * i)).take 3, run T K26.P 37 10 [.v (.lst (ps.map PW)), .v (.int ((2 * 2 : Nat) : Int))] = .ok false (.tup (Is (L26.ownOf 2 ps))) .n
  | 0, _ => fun ps hp => ofrA_ok 2 _ ((fPss_eq _ _).symm.trans e10_2_0) ps hp
  | i + 1, h => absurd h (by omega)
theorem c11_2 : run T K26.P 38 11 [.v (.int 2)] = .ok false (.tup (((PS 2).map (L26.ownOf 2)).map TI)) .n := by
  obtain ⟨fr2, w2, s2, h2⟩ := tOk_ok (runG26 tOk _ _ _ e2_2)
  exact (runS (n := 37) (d := f_pairings) rfl rfl).trans (pairings_run (run T P 37) 2 (by decide) fr2 w2 s2 h2 (PS 2) (by rw [pl_2]; decide) (c12_any 2 (by decide)) (chunk_all (PS 2) _ 3 1 pl_2 e10_2))
theorem c24_2 : run T K26.P 39 24 [.v (.tup (Is (List.range 4)))] = .ok true (.lst ((PS 2).map fun ps => .lst (ps.map PW))) .n := c24_any 2 (by decide)
theorem cov_2 : ((PS 2).all fun ps => covB 4 ps && innB 4 ps && ltC 4 (L26.ownOf 2 ps)) = true := by decide +kernel
end K26
end

section
set_option linter.all false
set_option autoImplicit false
set_option maxRecDepth 1000000
set_option Elab.async false
namespace K26
open Iv Iv.L26
theorem e2_3 : runG (ω := Bool) (CP (ω := Bool)) 37 2 [.v (.int ((3 : Nat) : Int)), .v (.int 0), .v (.int 6)] (fun fr w s => tOk (.ok fr w s)) (fun q s => tOk (.exn q s)) (tOk .err) = true := by decide +kernel
theorem e10_3_0 : fPss (((PS 3).drop (15 * 0)).take 15) (ofrA 3) = true := by decide +kernel
theorem pl_3 : (PS 3).length = 15 := by decide +kernel
theorem e10_3 : ∀ i, i < 1 → ∀ ps ∈ ((PS 3).drop (15 * i)).take 15, run T K26.P 37 10 [.v (.lst (ps.map PW)), .v (.int ((2 * 3 : Nat) : Int))] = .ok false (.tup (Is (L26.ownOf 3 ps))) .n
  | 0, _ => fun ps hp => ofrA_ok 3 _ ((fPss_eq _ _).symm.trans e10_3_0) ps hp
  | i + 1, h => absurd h (by omega)
theorem c11_3 : run T K26.P 38 11 [.v (.int 3)] = .ok false (.tup (((PS 3).map (L26.ownOf 3)).map TI)) .n := by
  obtain ⟨fr2, w2, s2, h2⟩ := tOk_ok (runG26 tOk _ _ _ e2_3)
  exact (runS (n := 37) (d := f_pairings) rfl rfl).trans (pairings_run (run T P 37) 3 (by decide) fr2 w2 s2 h2 (PS 3) (by rw [pl_3]; decide) (c12_any 3 (by decide)) (chunk_all (PS 3) _ 15 1 pl_3 e10_3))
theorem c24_3 : run T K26.P 39 24 [.v (.tup (Is (List.range 6)))] = .ok true (.lst ((PS 3).map fun ps => .lst (ps.map PW))) .n := c24_any 3 (by decide)
theorem cov_3 : ((PS 3).all fun ps => covB 6 ps && innB 6 ps && ltC 6 (L26.ownOf 3 ps)) = true := by decide +kernel
end K26
end

section
set_option linter.all false
set_option autoImplicit false
set_option maxRecDepth 1000000
set_option Elab.async false
namespace K26
open Iv Iv.L26
theorem e2_4 : runG (ω := Bool) (CP (ω := Bool)) 37 2 [.v (.int ((4 : Nat) : Int)), .v (.int 0), .v (.int 6)] (fun fr w s => tOk (.ok fr w s)) (fun q s => tOk (.exn q s)) (tOk .err) = true := by decide +kernel
theorem e10_4_0 : fPss (((PS 4).drop (105 * 0)).take 105) (ofrA 4) = true := by decide +kernel
theorem pl_4 : (PS 4).length = 105 := by decide +kernel
theorem e10_4 : ∀ i, i < 1 → ∀ ps ∈ ((PS 4).drop (105 * i)).take 105, run T K26.P 37 10 [.v (.lst (ps.map PW)), .v (.int ((2 * 4 : Nat) : Int))] = .ok false (.tup (Is (L26.ownOf 4 ps))) .n
  | 0, _ => fun ps hp => ofrA_ok 4 _ ((fPss_eq _ _).symm.trans e10_4_0) ps hp
  | i + 1, h => absurd h (by omega)
theorem c11_4 : run T K26.P 38 11 [.v (.int 4)] = .ok false (.tup (((PS 4).map (L26.ownOf 4)).map TI)) .n := by
  obtain ⟨fr2, w2, s2, h2⟩ := tOk_ok (runG26 tOk _ _ _ e2_4)
  exact (runS (n := 37) (d := f_pairings) rfl rfl).trans (pairings_run (run T P 37) 4 (by decide) fr2 w2 s2 h2 (PS 4) (by rw [pl_4]; decide) (c12_any 4 (by decide)) (chunk_all (PS 4) _ 105 1 pl_4 e10_4))
theorem c24_4 : run T K26.P 39 24 [.v (.tup (Is (List.range 8)))] = .ok true (.lst ((PS 4).map fun ps => .lst (ps.map PW))) .n := c24_any 4 (by decide)
theorem cov_4 : ((PS 4).all fun ps => covB 8 ps && innB 8 ps && ltC 8 (L26.ownOf 4 ps)) = true := by decide +kernel
end K26
end

section
set_option linter.all false
set_option autoImplicit false
set_option maxRecDepth 1000000
set_option Elab.async false
namespace K26
open Iv Iv.L26
theorem e2_5 : runG (ω := Bool) (CP (ω := Bool)) 37 2 [.v (.int ((5 : Nat) : Int)), .v (.int 0), .v (.int 6)] (fun fr w s => tOk (.ok fr w s)) (fun q s => tOk (.exn q s)) (tOk .err) = true := by decide +kernel
theorem e10_5_0 : fPss (((PS 5).drop (105 * 0)).take 105) (ofrA 5) = true := by decide +kernel
theorem e10_5_1 : fPss (((PS 5).drop (105 * 1)).take 105) (ofrA 5) = true := by decide +kernel
theorem e10_5_2 : fPss (((PS 5).drop (105 * 2)).take 105) (ofrA 5) = true := by decide +kernel
theorem e10_5_3 : fPss (((PS 5).drop (105 * 3)).take 105) (ofrA 5) = true := by decide +kernel
theorem e10_5_4 : fPss (((PS 5).drop (105 * 4)).take 105) (ofrA 5) = true := by decide +kernel
theorem e10_5_5 : fPss (((PS 5).drop (105 * 5)).take 105) (ofrA 5) = true := by decide +kernel
theorem e10_5_6 : fPss (((PS 5).drop (105 * 6)).take 105) (ofrA 5) = true := by decide +kernel
theorem e10_5_7 : fPss (((PS 5).drop (105 * 7)).take 105) (ofrA 5) = true := by decide +kernel
theorem e10_5_8 : fPss (((PS 5).drop (105 * 8)).take 105) (ofrA 5) = true := by decide +kernel
theorem pl_5 : (PS 5).length = 945 := by decide +kernel
theorem e10_5 : ∀ i, i < 9 → ∀ ps ∈ ((PS 5).drop (105 * i)).take 105, run T K26.P 37 10 [.v (.lst (ps.map PW)), .v (.int ((2 * 5 : Nat) : Int))] = .ok false (.tup (Is (L26.ownOf 5 ps))) .n
  | 0, _ => fun ps hp => ofrA_ok 5 _ ((fPss_eq _ _).symm.trans e10_5_0) ps hp
  | 1, _ => fun ps hp => ofrA_ok 5 _ ((fPss_eq _ _).symm.trans e10_5_1) ps hp
  | 2, _ => fun ps hp => ofrA_ok 5 _ ((fPss_eq _ _).symm.trans e10_5_2) ps hp
  | 3, _ => fun ps hp => ofrA_ok 5 _ ((fPss_eq _ _).symm.trans e10_5_3) ps hp
  | 4, _ => fun ps hp => ofrA_ok 5 _ ((fPss_eq _ _).symm.trans e10_5_4) ps hp
  | 5, _ => fun ps hp => ofrA_ok 5 _ ((fPss_eq _ _).symm.trans e10_5_5) ps hp
  | 6, _ => fun ps hp => ofrA_ok 5 _ ((fPss_eq _ _).symm.trans e10_5_6) ps hp
  | 7, _ => fun ps hp => ofrA_ok 5 _ ((fPss_eq _ _).symm.trans e10_5_7) ps hp
  | 8, _ => fun ps hp => ofrA_ok 5 _ ((fPss_eq _ _).symm.trans e10_5_8) ps hp
  | i + 9, h => absurd h (by omega)
theorem c11_5 : run T K26.P 38 11 [.v (.int 5)] = .ok false (.tup (((PS 5).map (L26.ownOf 5)).map TI)) .n := by
  obtain ⟨fr2, w2, s2, h2⟩ := tOk_ok (runG26 tOk _ _ _ e2_5)
  exact (runS (n := 37) (d := f_pairings) rfl rfl).trans (pairings_run (run T P 37) 5 (by decide) fr2 w2 s2 h2 (PS 5) (by rw [pl_5]; decide) (c12_any 5 (by decide)) (chunk_all (PS 5) _ 105 9 pl_5 e10_5))
theorem c24_5 : run T K26.P 39 24 [.v (.tup (Is (List.range 10)))] = .ok true (.lst ((PS 5).map fun ps => .lst (ps.map PW))) .n := c24_any 5 (by decide)
theorem cov_5 : ((PS 5).all fun ps => covB 10 ps && innB 10 ps && ltC 10 (L26.ownOf 5 ps)) = true := by decide +kernel
end K26
end

section
set_option linter.all false
set_option autoImplicit false
set_option maxRecDepth 1000000
set_option Elab.async false
namespace K26
open Iv Iv.L26
def ls1 : S := (.asg (.p (.n 1)) (.call 17 (.cons (.v 0) .nil)))
def ls2 : S := (.asg (.p (.n 2)) (.callIo 18 1 (.cons (.k (.int 6)) .nil)))
def ls3 : S := (.asg (.p (.n 3)) (.call 4 (.cons (.bin .mul (.k (.int 2)) (.v 2)) .nil)))
def ls4 : S := (.asg (.p (.n 4)) (.ix (.v 3) (.callIo 18 1 (.cons (.b1 .len (.v 3)) .nil))))
def ls5 : S := (.par [(.p (.n 9)), (.p (.n 10))] (.consR (.lst .nil) (.consR (.k (.int 0)) .nil)))
def ls6 : S := (.for (.n 5) (.v 4) (.cons (.asg (.p (.n 9)) (.bin .add (.v 9) (.lc [19] (.n 19) (.rng1 (.v 5)) .nil (.bin .add (.v 10) (.bin .mod (.bin .add (.v 19) (.k (.int 1))) (.v 5)))))) (.cons (.asg (.p (.n 10)) (.bin .add (.v 10) (.v 5))) .nil)))
def ls7 : S := (.ite (.or (.not (.call 20 (.cons (.call 16 (.cons (.v 4) .nil)) (.cons (.b1 .tuple (.v 9)) .nil)))) (.cmp .ne (.call 9 (.cons (.call 16 (.cons (.v 4) .nil)) .nil)) (.v 4))) (.cons (.ret (.k (.bl false))) .nil) .nil)
def ls8 : S := (.par [(.p (.n 11)), (.p (.n 12))] (.consR (.bin .mul (.lst (.cons (.k (.int 0)) .nil)) (.bin .add (.bin .mul (.k (.int 2)) (.v 2)) (.k (.int 1)))) (.consR (.k (.int 0)) .nil)))
def ls9 : S := (.for (.n 6) (.call 24 (.cons (.trng (.bin .mul (.k (.int 2)) (.v 2))) .nil)) (.cons (.asg (.p (.n 13)) (.bin .mul (.lst (.cons (.k (.int 0)) .nil)) (.bin .mul (.k (.int 2)) (.v 2)))) (.cons (.for (.t2 (.n 17) (.n 18)) (.v 6) (.cons (.par [(.s 13 (.v 17)), (.s 13 (.v 18))] (.consR (.ix (.v 9) (.v 18)) (.consR (.ix (.v 9) (.v 17)) .nil))) .nil)) (.cons (.asg (.p (.n 14)) (.b1 .len (.call 22 (.cons (.b1 .tuple (.v 13)) .nil)))) (.cons (.par [(.s 11 (.v 14)), (.p (.n 12))] (.consR (.bin .add (.ix (.v 11) (.v 14)) (.k (.int 1))) (.consR (.bin .add (.v 12) (.k (.int 1))) .nil))) (.cons (.asg (.p (.n 15)) (.call 23 (.cons (.tup (.cons (.b1 .tuple (.v 9)) (.cons (.b1 .tuple (.v 13)) .nil))) (.cons (.bin .mul (.k (.int 2)) (.v 2)) .nil)))) (.cons (.ite (.or (.cmp .ne (.bin .mod (.bin .add (.bin .sub (.v 14) (.v 2)) (.b1 .len (.v 4))) (.k (.int 2))) (.k (.int 0))) (.cmp .gt (.bin .add (.bin .sub (.v 14) (.v 2)) (.b1 .len (.v 4))) (.bin .mul (.k (.int 2)) (.b1 .len (.v 15))))) (.cons (.ret (.k (.bl false))) .nil) .nil) .nil)))))))
def ls10 : S := (.asg (.p (.n 7)) (.call 14 (.cons (.v 4) .nil)))
def ls11 : S := (.ite (.or (.not (.call 20 (.cons (.v 7) (.cons (.b1 .tuple (.v 11)) .nil)))) (.or (.cmp .ne (.b1 .sum (.v 7)) (.v 12)) (.cmp .ne (.b1 .len (.v 7)) (.bin .add (.bin .mul (.k (.int 2)) (.v 2)) (.k (.int 1)))))) (.cons (.ret (.k (.bl false))) .nil) .nil)
def ls12 : S := (.ite (.cmp .eq (.b1 .len (.v 4)) (.k (.int 1))) (.cons (.asg (.p (.n 16)) (.call 13 (.cons (.v 2) .nil))) (.cons (.ite (.cmp .ne (.lc [20] (.n 20) (.rng1 (.b1 .len (.v 16))) .nil (.ix (.v 7) (.bin .sub (.bin .add (.v 2) (.k (.int 1))) (.bin .mul (.k (.int 2)) (.v 20))))) (.b1 .list (.v 16))) (.cons (.ret (.k (.bl false))) .nil) .nil) .nil)) .nil)
def ls13 : S := (.ite (.and (.cmp .eq (.v 4) (.bin .mul (.tup (.cons (.k (.int 1)) .nil)) (.bin .mul (.k (.int 2)) (.v 2)))) (.and (.cmp .gt (.v 2) (.k (.int 0))) (.cmp .ne (.ix (.v 7) (.v 2)) (.v 12)))) (.cons (.ret (.k (.bl false))) .nil) .nil)
def ls14 : S := (.asg (.p (.n 8)) (.lst (.cons (.tup (.cons (.fn 14) (.cons (.tup (.cons (.tup (.cons (.k (.int 3)) .nil)) .nil)) .nil))) (.cons (.tup (.cons (.fn 14) (.cons (.tup (.cons (.tup (.cons (.k (.int 1)) (.cons (.k (.int 3)) .nil))) .nil)) .nil))) (.cons (.tup (.cons (.fn 14) (.cons (.tup (.cons (.tup (.cons (.k (.int 14)) .nil)) .nil)) .nil))) (.cons (.tup (.cons (.fn 14) (.cons (.tup (.cons (.tup (.cons (.k (.int 0)) (.cons (.k (.int 2)) .nil))) .nil)) .nil))) (.cons (.tup (.cons (.fn 14) (.cons (.tup (.cons (.lst (.cons (.k (.int 2)) .nil)) .nil)) .nil))) (.cons (.tup (.cons (.fn 14) (.cons (.tup (.cons (.k .non) .nil)) .nil))) (.cons (.tup (.cons (.fn 14) (.cons (.tup (.cons (.tup (.cons (.k (.bl true)) (.cons (.k (.int 1)) .nil))) .nil)) .nil))) .nil)))))))))
def ls15 : S := (.asg (.p (.n 8)) (.bin .add (.v 8) (.lst (.cons (.tup (.cons (.fn 14) (.cons (.tup (.cons (.tup (.cons (.k (.str (PySem.Str.ofString "2"))) .nil)) .nil)) .nil))) .nil))))
def ls16 : S := (.ret (.cmp .eq (.lc [21, 22] (.t2 (.n 21) (.n 22)) (.v 8) .nil (.ix (.call 21 (.cons (.v 21) (.cons (.v 22) .nil))) (.k (.int 0)))) (.bin .mul (.lst (.cons (.k (.str (PySem.Str.ofString "malformed"))) .nil)) (.k (.int 8)))))
theorem ls_body : f_law.body = .cons ls1 (.cons ls2 (.cons ls3 (.cons ls4 (.cons ls5 (.cons ls6 (.cons ls7 (.cons ls8 (.cons ls9 (.cons ls10 (.cons ls11 (.cons ls12 (.cons ls13 (.cons ls14 (.cons ls15 (.cons ls16 (.nil)))))))))))))))) := rfl

abbrev K39 := run T P 39
abbrev K38 := run T P 38
theorem h22 : H22 K39 := fun one res h hl => (runS (n := 38) (d := f_law_su_rounds) rfl rfl).trans (rounds_run T K38 one res h hl)
theorem h23 : H23 K39 := fun lab orders n hn hk hj => by
  obtain ⟨ws, h1, h2⟩ := lots_run T K38 lab orders n hn hk hj
  exact ⟨ws, (runS (n := 38) (d := f_law_su_lots) rfl rfl).trans h1, h2⟩
theorem h8g (K : Nat → List Sl → RF) (one : List Nat) (rs : List (List Nat)) (q : K 7 [.v (.tup (Is one))] = .ok false (.tup (rs.map TI)) .n) : fin false (ex T K f_round_number.body [.v (.tup (Is one))]) = .ok false (I rs.length) .n := by
  have a : ex T K (.ret (.b1 .len (.call 7 (.cons (.v 0) .nil)))) [.v (.tup (Is one))] = .ok (.ret false (I rs.length)) [.v (.tup (Is one))] := by
    rw [ex_ret, ev_b1, ev_call]
    show resE (un1 _ (landed (K 7 [.v (.tup (Is one))]) _)) _ = _
    rw [q]
    have e : b1W .len (.tup (rs.map TI)) = some (.w (I rs.length)) := by
      show some (R1.w (W.int ((rs.map TI).length : Int))) = _
      rw [List.length_map]; rfl
    show resE (ofO (b1W .len (.tup (rs.map TI))) _) _ = _
    rw [e]; rfl
  exact fin_cons_ret T K a
theorem h8 : H8 K38 := fun one rs h hl => (runS (n := 37) (d := f_round_number) rfl rfl).trans (h8g (run T P 37) one rs ((runS (n := 36) (d := f_rounds) rfl rfl).trans (rounds_run T (run T P 36) one rs h hl)))
theorem h6 : H6 K38 := fun a b h hl => (runS (n := 37) (d := f_times) rfl rfl).trans (times_run T (run T P 37) a b h hl)
structure Cs where
  row : List Nat
  turn : List Nat
  lab0 : List Nat
  cs : List Nat
  x : Nat
def SP : S := .cons ls5 (.cons ls6 (.cons ls7 (.cons ls8 .nil)))
def TL : S := .cons ls11 (.cons ls12 (.cons ls13 (.cons ls14 (.cons ls15 (.cons ls16 .nil)))))
def E0 (s0 s1 : Sl) (n : Nat) (s3 : Sl) (row : List Nat) : En := [s0, s1, .v (.int (n : Int)), s3, .v (.tup (Is row)), .n, .n, .n, .n, .n, .n, .n, .n, .n, .n, .n, .n, .n, .n, .n, .n, .n, .n]
def E7 (s0 s1 s2 s3 s4 s5 s6 s7 : Sl) (turn : List Nat) (s10 s11 s12 s13 s14 s15 s17 s18 : Sl) : En := [s0, s1, s2, s3, s4, s5, s6, s7, .n, .o (.lst (Is turn)), s10, s11, s12, s13, s14, s15, .n, s17, s18, .n, .n, .n, .n]
def tRet : RE Fl → Bool
  | .ok (.ret false (.bl true)) _ => true
  | _ => false
theorem tRet_ok {r : RE Fl} (h : tRet r = true) : fin false r = .ok false (.bl true) .n := by
  unfold tRet at h
  split at h
  · rfl
  · cases h
def preOk (n : Nat) (s3 : Sl) (c : Cs) : Prop := ∀ s0 s1 : Sl, exC (ω := RE Fl) T (run T P 39) (runC T P 39) SP (E0 s0 s1 n s3 c.row) RE.ok RE.exn RE.err = RE.ok .next (GE s0 s1 (.v (.int (n : Int))) s3 (.v (.tup (Is c.row))) (.v (I c.x)) .n c.turn (.v (I (2 * n))) (.o (.lst (Is (List.replicate (2 * n + 1) 0)))) (.v (I 0)) .n .n .n .n .n .n)
noncomputable def tailB (n tot : Nat) (s3 : Sl) (c : Cs) (s0 s1 t6 t13 t14 t15 t17 t18 : Sl) : Bool := exC (ω := Bool) T (run T P 39) (runC T P 39) TL (E7 s0 s1 (.v (.int (n : Int))) s3 (.v (.tup (Is c.row))) (.v (I c.x)) t6 (.v (.tup (Is c.cs))) c.turn (.v (I (2 * n))) (.o (.lst (Is c.cs))) (.v (I tot)) t13 t14 t15 t17 t18) (fun f e1 => tRet (.ok f e1)) (fun q e1 => tRet (.exn q e1)) (tRet .err)
def tNon : RF → Bool
  | .ok false .non .n => true
  | _ => false
theorem tNon_ok {r : RF} (h : tNon r = true) : r = .ok false .non .n := by
  unfold tNon at h
  split at h
  · rfl
  · cases h
/-- the sides are taken, the order is told; the turn and sums are of the right size -/
noncomputable def sidesB (n : Nat) (c : Cs) : Bool := runG (ω := Bool) (CP (ω := Bool)) 38 15 [.v (TI c.row)] (fun fr w s => tNon (.ok fr w s)) (fun q s => tNon (.exn q s)) (tNon .err) && (runG (ω := Bool) (CP (ω := Bool)) 38 16 [.v (TI c.row)] (fun fr w s => rfT false c.turn (.ok fr w s)) (fun q s => rfT false c.turn (.exn q s)) (rfT false c.turn .err) && (Nat.beq c.turn.length (2 * n) && (ltC (2 * n) c.turn && (match b1W .sum (.tup (Is c.row)) with | some (.w (.int (.ofNat m))) => Nat.beq m (2 * n) | _ => false))))
noncomputable def sweepB (n : Nat) (c : Cs) : Bool := fPss (PS n) fun pss => sweep c.turn c.lab0 (List.replicate (2 * n) 0) (List.range (2 * n)) n (2 * n) c.row.length pss (List.replicate (2 * n + 1) 0) fun cs => eqLN cs c.cs
theorem seqE_inv {a : RE Fl} {b : En → RE Fl} {e2 : En} (h : seqE a b = .ok .next e2) : ∃ e1, a = .ok .next e1 ∧ b e1 = .ok .next e2 := by
  unfold seqE at h
  split at h
  · exact ⟨_, rfl, h⟩
  · rename_i hx
    exact absurd h (hx _)
theorem seq4 {a : RE Fl} {b c d : En → RE Fl} {e2 : En} (h : (seqE a fun e => seqE (b e) fun e => seqE (c e) fun e => seqE (d e) fun e => .ok .next e) = .ok .next e2) (x : En → RE Fl) : (seqE a fun e => seqE (b e) fun e => seqE (c e) fun e => seqE (d e) fun e => x e) = x e2 := by
  obtain ⟨e, ha, h1⟩ := seqE_inv h
  obtain ⟨e1, hb, h2⟩ := seqE_inv h1
  obtain ⟨e3, hc, h3⟩ := seqE_inv h2
  obtain ⟨e4, hd, h4⟩ := seqE_inv h3
  injection h4 with _ h4
  subst h4
  rw [ha]
  show seqE (b e) _ = _
  rw [hb]
  show seqE (c e1) _ = _
  rw [hc]
  show seqE (d e3) _ = _
  rw [hd]
  rfl
theorem case_run (n : Nat) (s3 : Sl) (c : Cs) (s0 s1 : Sl) (hn0 : 0 < n) (hn : n ≤ 10) (tot : Nat) (htot : (PS n).length = tot) (hcov : ((PS n).all fun ps => covB (2 * n) ps && innB (2 * n) ps && ltC (2 * n) (L26.ownOf n ps)) = true)
    (c24 : K39 24 [.v (.tup (Is (List.range (2 * n))))] = .ok true (.lst ((PS n).map fun ps => .lst (ps.map PW))) .n)
    (c11 : K38 11 [.v (.int (n : Int))] = .ok false (.tup (((PS n).map (L26.ownOf n)).map TI)) .n)
    (hp : preOk n s3 c) (hs : sidesB n c = true) (hw : sweepB n c = true) (ht : ∀ s0 s1 t6 t13 t14 t15 t17 t18, tailB n tot s3 c s0 s1 t6 t13 t14 t15 t17 t18 = true) :
    fin false (ex T K39 (.cons ls5 (.cons ls6 (.cons ls7 (.cons ls8 (.cons ls9 (.cons ls10 TL)))))) (E0 s0 s1 n s3 c.row)) = .ok false (.bl true) .n := by
  have hp := (ex_run T P 39 SP (E0 s0 s1 n s3 c.row)).trans (hp s0 s1)
  obtain ⟨q1, q⟩ := (Bool.and_eq_true _ _).mp hs
  obtain ⟨q2, q⟩ := (Bool.and_eq_true _ _).mp q
  obtain ⟨q3, q⟩ := (Bool.and_eq_true _ _).mp q
  obtain ⟨q4, q5⟩ := (Bool.and_eq_true _ _).mp q
  have c15 : K38 15 [.v (.tup (Is c.row))] = .ok false .non .n := tNon_ok (runG26 tNon _ _ _ q1)
  have c16 : K38 16 [.v (.tup (Is c.row))] = .ok false (.tup (Is c.turn)) .n := rfT_ok (runG26 (rfT false c.turn) _ _ _ q2)
  have hl := Nat.eq_of_beq_eq_true q3
  have hsum : b1W .sum (.tup (Is c.row)) = some (.w (.int ((2 * n : Nat) : Int))) := by
    split at q5
    · rename_i m h
      rw [h, Nat.eq_of_beq_eq_true q5]; rfl
    · cases q5
  have hlt := ltC_ok _ _ q4
  unfold sweepB at hw
  rw [fPss_eq] at hw
  obtain ⟨gs, g1, g2, g3⟩ := sweep_ok hn0 hn hl hlt _ (PS n) _ hw
  have g3 := eqLN_ok _ _ g3
  have hg : gs.length = tot := by rw [← htot, ← g1, List.length_map]
  have hcs : (List.replicate (2 * n + 1) 0 : List Nat).length = 2 * n + 1 := List.length_replicate ..
  -- the loop
  obtain ⟨t6, t13, t14, t15, t17, t18, r9, -, -, -, -, -, -⟩ := lawL_run T K39 s0 s1 s3 (.v (I c.x)) (.v (I (2 * n))) .n c.turn n h22 h23 c.row (by omega) hl gs (List.replicate (2 * n + 1) 0) 0 .n .n .n .n .n .n g2 hcs rfl rfl rfl rfl rfl rfl
  have e9 : gs.map (fun g => W.lst (g.1.map PW)) = (PS n).map fun ps => W.lst (ps.map PW) := by rw [← g1, List.map_map]; rfl
  rw [e9] at r9
  have a9 : ex T K39 ls9 (GE s0 s1 (.v (.int (n : Int))) s3 (.v (.tup (Is c.row))) (.v (I c.x)) .n c.turn (.v (I (2 * n))) (.o (.lst (Is (List.replicate (2 * n + 1) 0)))) (.v (I 0)) .n .n .n .n .n .n) = _ := for_items T K39 (p := .n 6) (b := lawB) (by
    generalize he : GE s0 s1 (.v (.int (n : Int))) s3 (.v (.tup (Is c.row))) (.v (I c.x)) .n c.turn (.v (I (2 * n))) (.o (.lst (Is (List.replicate (2 * n + 1) 0)))) (.v (I 0)) .n .n .n .n .n .n = en
    have tw : ev T K39 (.bin .mul (.k (.int 2)) (.v 2)) en = .ok (.w (.int ((2 * n : Nat) : Int))) en := two_n T K39 n en (by rw [← he]; rfl)
    have b : ev T K39 (.trng (.bin .mul (.k (.int 2)) (.v 2))) en = .ok (.w (.tup (Is (List.range (2 * n))))) en := by
      show un1 (fun x => (rngS x).map fun l => .w (.tup l)) (ev T K39 (.bin .mul (.k (.int 2)) (.v 2)) en) = _
      rw [tw, un1_w, rngS_nat (2 * n) (by omega), Option.map_some, ofO_some]
    have a : ev T K39 (.cons (.trng (.bin .mul (.k (.int 2)) (.v 2))) .nil) en = .ok (.l [.w (.tup (Is (List.range (2 * n))))]) en := by
      rw [ev_cons, b]; rfl
    rw [ev_call, a]
    show asItems (landed (K39 24 [.v (.tup (Is (List.range (2 * n))))]) _) = _
    rw [c24]; rfl) r9
  have hpss : ∀ g ∈ gs, covB (2 * n) g.1 = true ∧ innB (2 * n) g.1 = true ∧ ltC (2 * n) (L26.ownOf n g.1) = true := fun g hg => by
    have m : g.1 ∈ PS n := by rw [← g1]; exact List.mem_map.2 ⟨g, hg, rfl⟩
    have := List.all_eq_true.1 hcov _ m
    obtain ⟨a, b⟩ := (Bool.and_eq_true _ _).mp this
    obtain ⟨a, c⟩ := (Bool.and_eq_true _ _).mp a
    exact ⟨a, c, b⟩
  -- told
  have e11 : ((PS n).map (L26.ownOf n)).map TI = (gs.map fun g => (L26.ownOf n g.1, g.2)).map fun g => TI g.1 := by rw [← g1, List.map_map, List.map_map, List.map_map]; rfl
  rw [e11] at c11
  have c14 : K39 14 [.v (.tup (Is c.row))] = .ok false (.tup (Is c.cs)) .n := by
    have r := glue_run T K38 h6 h8 c.row c.turn n (by omega) (gs.map fun g => (L26.ownOf n g.1, g.2)) false .non .n c15 c16 c11 hsum (by
      intro g' hg'
      obtain ⟨g, hg, rfl⟩ := List.mem_map.1 hg'
      obtain ⟨p1, p2, p3⟩ := hpss g hg
      have G := g2 g hg
      have ol : (L26.ownOf n g.1).length = 2 * n := by unfold L26.ownOf; rw [own_len]; simp
      refine ⟨fun x hx => ?_, by rw [ol]; omega, ?_, G.small⟩
      · obtain ⟨i, hi, rfl⟩ := List.getElem_of_mem hx
        have := ltC_ok _ _ p3 i hi
        rw [List.getD_eq_getElem?_getD, List.getElem?_eq_getElem hi] at this
        rw [hl]; exact this
      · have := G.rd
        rw [led_times c.turn n g.1 (innB_ok p2) (covB_ok p1)] at this
        exact this)
    have e : (gs.map fun g => (L26.ownOf n g.1, g.2)).foldl (fun cs g => cs.set g.2 (cs.getD g.2 0 + 1)) (List.replicate (2 * n + 1) 0) = c.cs := by
      rw [List.foldl_map]; exact g3
    rw [e] at r
    exact r
  have fe : gs.foldl (fun cs g => cs.set g.2 (cs.getD g.2 0 + 1)) (List.replicate (2 * n + 1) 0) = c.cs := g3
  rw [fe, hg, Nat.zero_add] at a9
  have a10 : ex T K39 ls10 (GE s0 s1 (.v (.int (n : Int))) s3 (.v (.tup (Is c.row))) (.v (I c.x)) t6 c.turn (.v (I (2 * n))) (.o (.lst (Is c.cs))) (.v (I tot)) t13 t14 t15 t17 t18 .n) = .ok .next (E7 s0 s1 (.v (.int (n : Int))) s3 (.v (.tup (Is c.row))) (.v (I c.x)) t6 (.v (.tup (Is c.cs))) c.turn (.v (I (2 * n))) (.o (.lst (Is c.cs))) (.v (I tot)) t13 t14 t15 t17 t18) := by
    unfold ls10
    rw [ex_asg, ev_call]
    have a : ev T K39 (.cons (.v 4) .nil) (GE s0 s1 (.v (.int (n : Int))) s3 (.v (.tup (Is c.row))) (.v (I c.x)) t6 c.turn (.v (I (2 * n))) (.o (.lst (Is c.cs))) (.v (I tot)) t13 t14 t15 t17 t18 .n) = .ok (.l [.w (.tup (Is c.row))]) (GE s0 s1 (.v (.int (n : Int))) s3 (.v (.tup (Is c.row))) (.v (I c.x)) t6 c.turn (.v (I (2 * n))) (.o (.lst (Is c.cs))) (.v (I tot)) t13 t14 t15 t17 t18 .n) := rfl
    rw [a]
    show resE (landed (K39 14 [.v (.tup (Is c.row))]) _) _ = _
    rw [c14]; rfl
  have tl : fin false (ex T K39 TL (E7 s0 s1 (.v (.int (n : Int))) s3 (.v (.tup (Is c.row))) (.v (I c.x)) t6 (.v (.tup (Is c.cs))) c.turn (.v (I (2 * n))) (.o (.lst (Is c.cs))) (.v (I tot)) t13 t14 t15 t17 t18)) = .ok false (.bl true) .n :=
    tRet_ok ((ex_test T P 39 TL _ tRet).trans (ht s0 s1 t6 t13 t14 t15 t17 t18))
  have sp : ∀ X : S, ex T K39 (.cons ls5 (.cons ls6 (.cons ls7 (.cons ls8 X)))) (E0 s0 s1 n s3 c.row) = ex T K39 X (GE s0 s1 (.v (.int (n : Int))) s3 (.v (.tup (Is c.row))) (.v (I c.x)) .n c.turn (.v (I (2 * n))) (.o (.lst (Is (List.replicate (2 * n + 1) 0)))) (.v (I 0)) .n .n .n .n .n .n) := by
    intro X
    have hp : seqE (ex T K39 ls5 (E0 s0 s1 n s3 c.row)) (fun e => seqE (ex T K39 ls6 e) fun e => seqE (ex T K39 ls7 e) fun e => seqE (ex T K39 ls8 e) fun e => .ok .next e) = _ := hp
    show seqE (ex T K39 ls5 (E0 s0 s1 n s3 c.row)) (fun e => seqE (ex T K39 ls6 e) fun e => seqE (ex T K39 ls7 e) fun e => seqE (ex T K39 ls8 e) fun e => ex T K39 X e) = _
    exact seq4 hp (ex T K39 X)
  rw [sp, ex_next a9, ex_next a10]
  exact tl
end K26
end

section
set_option linter.all false
set_option autoImplicit false
set_option maxRecDepth 1000000
set_option Elab.async false
namespace K26
open Iv Iv.L26
def rows_1 : List (List Nat) := [[2], [1, 1]]
theorem e4_1 : runG (ω := Bool) (CP (ω := Bool)) 39 4 [.v (.int 2)] (fun fr w s => rfTs false rows_1 (.ok fr w s)) (fun q s => rfTs false rows_1 (.exn q s)) (rfTs false rows_1 .err) = true := by decide +kernel
theorem c4_1 : run T K26.P 39 4 [.v (.int 2)] = .ok false (.tup (rows_1.map TI)) .n := rfTs_ok (runG26 (rfTs false rows_1) _ _ _ e4_1)
abbrev s3_1 : Sl := .v (.tup (rows_1.map TI))
def z1_0 : Cs := ⟨[2], [1, 0], [0, 0], [0, 0, 1], 2⟩
theorem p1_0 : preOk 1 s3_1 z1_0 := fun s0 s1 => by kernel_rfl
theorem t1_0 : ∀ s0 s1 t6 t13 t14 t15 t17 t18 : Sl, tailB 1 1 s3_1 z1_0 s0 s1 t6 t13 t14 t15 t17 t18 = true := fun s0 s1 t6 t13 t14 t15 t17 t18 => by kernel_rfl
theorem d1_0 : sidesB 1 z1_0 = true := by decide +kernel
theorem w1_0 : sweepB 1 z1_0 = true := by decide +kernel
def z1_1 : Cs := ⟨[1, 1], [0, 1], [0, 1], [0, 1, 0], 1⟩
theorem p1_1 : preOk 1 s3_1 z1_1 := fun s0 s1 => by kernel_rfl
theorem t1_1 : ∀ s0 s1 t6 t13 t14 t15 t17 t18 : Sl, tailB 1 1 s3_1 z1_1 s0 s1 t6 t13 t14 t15 t17 t18 = true := fun s0 s1 t6 t13 t14 t15 t17 t18 => by kernel_rfl
theorem d1_1 : sidesB 1 z1_1 = true := by decide +kernel
theorem w1_1 : sweepB 1 z1_1 = true := by decide +kernel
theorem len_1 : (PS 1).length = 1 := by decide +kernel
theorem all_1 (s0 s1 : Sl) : ∀ v : Nat, v < rows_1.length → fin false (ex T K39 (.cons ls5 (.cons ls6 (.cons ls7 (.cons ls8 (.cons ls9 (.cons ls10 TL)))))) (E0 s0 s1 1 s3_1 (rows_1.getD v []))) = .ok false (.bl true) .n
  | 0, _ => case_run 1 s3_1 z1_0 s0 s1 (by decide) (by decide) 1 len_1 cov_1 c24_1 c11_1 p1_0 d1_0 w1_0 t1_0
  | 1, _ => case_run 1 s3_1 z1_1 s0 s1 (by decide) (by decide) 1 len_1 cov_1 c24_1 c11_1 p1_1 d1_1 w1_1 t1_1
  | v + 2, h => absurd h (by show ¬ (v + 2 < 2); omega)
end K26
end

section
set_option linter.all false
set_option autoImplicit false
set_option maxRecDepth 1000000
set_option Elab.async false
namespace K26
open Iv Iv.L26
def rows_2 : List (List Nat) := [[4], [3, 1], [2, 2], [2, 1, 1], [1, 1, 1, 1]]
theorem e4_2 : runG (ω := Bool) (CP (ω := Bool)) 39 4 [.v (.int 4)] (fun fr w s => rfTs false rows_2 (.ok fr w s)) (fun q s => rfTs false rows_2 (.exn q s)) (rfTs false rows_2 .err) = true := by decide +kernel
theorem c4_2 : run T K26.P 39 4 [.v (.int 4)] = .ok false (.tup (rows_2.map TI)) .n := rfTs_ok (runG26 (rfTs false rows_2) _ _ _ e4_2)
abbrev s3_2 : Sl := .v (.tup (rows_2.map TI))
def z2_0 : Cs := ⟨[4], [1, 2, 3, 0], [0, 0, 0, 0], [0, 1, 0, 2, 0], 4⟩
theorem p2_0 : preOk 2 s3_2 z2_0 := fun s0 s1 => by kernel_rfl
theorem t2_0 : ∀ s0 s1 t6 t13 t14 t15 t17 t18 : Sl, tailB 2 3 s3_2 z2_0 s0 s1 t6 t13 t14 t15 t17 t18 = true := fun s0 s1 t6 t13 t14 t15 t17 t18 => by kernel_rfl
theorem d2_0 : sidesB 2 z2_0 = true := by decide +kernel
theorem w2_0 : sweepB 2 z2_0 = true := by decide +kernel
def z2_1 : Cs := ⟨[3, 1], [1, 2, 0, 3], [0, 0, 0, 3], [0, 0, 3, 0, 0], 1⟩
theorem p2_1 : preOk 2 s3_2 z2_1 := fun s0 s1 => by kernel_rfl
theorem t2_1 : ∀ s0 s1 t6 t13 t14 t15 t17 t18 : Sl, tailB 2 3 s3_2 z2_1 s0 s1 t6 t13 t14 t15 t17 t18 = true := fun s0 s1 t6 t13 t14 t15 t17 t18 => by kernel_rfl
theorem d2_1 : sidesB 2 z2_1 = true := by decide +kernel
theorem w2_1 : sweepB 2 z2_1 = true := by decide +kernel
def z2_2 : Cs := ⟨[2, 2], [1, 0, 3, 2], [0, 0, 2, 2], [0, 0, 2, 0, 1], 2⟩
theorem p2_2 : preOk 2 s3_2 z2_2 := fun s0 s1 => by kernel_rfl
theorem t2_2 : ∀ s0 s1 t6 t13 t14 t15 t17 t18 : Sl, tailB 2 3 s3_2 z2_2 s0 s1 t6 t13 t14 t15 t17 t18 = true := fun s0 s1 t6 t13 t14 t15 t17 t18 => by kernel_rfl
theorem d2_2 : sidesB 2 z2_2 = true := by decide +kernel
theorem w2_2 : sweepB 2 z2_2 = true := by decide +kernel
def z2_3 : Cs := ⟨[2, 1, 1], [1, 0, 2, 3], [0, 0, 2, 3], [0, 2, 0, 1, 0], 1⟩
theorem p2_3 : preOk 2 s3_2 z2_3 := fun s0 s1 => by kernel_rfl
theorem t2_3 : ∀ s0 s1 t6 t13 t14 t15 t17 t18 : Sl, tailB 2 3 s3_2 z2_3 s0 s1 t6 t13 t14 t15 t17 t18 = true := fun s0 s1 t6 t13 t14 t15 t17 t18 => by kernel_rfl
theorem d2_3 : sidesB 2 z2_3 = true := by decide +kernel
theorem w2_3 : sweepB 2 z2_3 = true := by decide +kernel
def z2_4 : Cs := ⟨[1, 1, 1, 1], [0, 1, 2, 3], [0, 1, 2, 3], [0, 0, 3, 0, 0], 1⟩
theorem p2_4 : preOk 2 s3_2 z2_4 := fun s0 s1 => by kernel_rfl
theorem t2_4 : ∀ s0 s1 t6 t13 t14 t15 t17 t18 : Sl, tailB 2 3 s3_2 z2_4 s0 s1 t6 t13 t14 t15 t17 t18 = true := fun s0 s1 t6 t13 t14 t15 t17 t18 => by kernel_rfl
theorem d2_4 : sidesB 2 z2_4 = true := by decide +kernel
theorem w2_4 : sweepB 2 z2_4 = true := by decide +kernel
theorem len_2 : (PS 2).length = 3 := by decide +kernel
theorem all_2 (s0 s1 : Sl) : ∀ v : Nat, v < rows_2.length → fin false (ex T K39 (.cons ls5 (.cons ls6 (.cons ls7 (.cons ls8 (.cons ls9 (.cons ls10 TL)))))) (E0 s0 s1 2 s3_2 (rows_2.getD v []))) = .ok false (.bl true) .n
  | 0, _ => case_run 2 s3_2 z2_0 s0 s1 (by decide) (by decide) 3 len_2 cov_2 c24_2 c11_2 p2_0 d2_0 w2_0 t2_0
  | 1, _ => case_run 2 s3_2 z2_1 s0 s1 (by decide) (by decide) 3 len_2 cov_2 c24_2 c11_2 p2_1 d2_1 w2_1 t2_1
  | 2, _ => case_run 2 s3_2 z2_2 s0 s1 (by decide) (by decide) 3 len_2 cov_2 c24_2 c11_2 p2_2 d2_2 w2_2 t2_2
  | 3, _ => case_run 2 s3_2 z2_3 s0 s1 (by decide) (by decide) 3 len_2 cov_2 c24_2 c11_2 p2_3 d2_3 w2_3 t2_3
  | 4, _ => case_run 2 s3_2 z2_4 s0 s1 (by decide) (by decide) 3 len_2 cov_2 c24_2 c11_2 p2_4 d2_4 w2_4 t2_4
  | v + 5, h => absurd h (by show ¬ (v + 5 < 5); omega)
end K26
end

section
set_option linter.all false
set_option autoImplicit false
set_option maxRecDepth 1000000
set_option Elab.async false
namespace K26
open Iv Iv.L26
def rows_3 : List (List Nat) := [[6], [5, 1], [4, 2], [4, 1, 1], [3, 3], [3, 2, 1], [3, 1, 1, 1], [2, 2, 2], [2, 2, 1, 1], [2, 1, 1, 1, 1], [1, 1, 1, 1, 1, 1]]
theorem e4_3 : runG (ω := Bool) (CP (ω := Bool)) 39 4 [.v (.int 6)] (fun fr w s => rfTs false rows_3 (.ok fr w s)) (fun q s => rfTs false rows_3 (.exn q s)) (rfTs false rows_3 .err) = true := by decide +kernel
theorem c4_3 : run T K26.P 39 4 [.v (.int 6)] = .ok false (.tup (rows_3.map TI)) .n := rfTs_ok (runG26 (rfTs false rows_3) _ _ _ e4_3)
abbrev s3_3 : Sl := .v (.tup (rows_3.map TI))
def z3_0 : Cs := ⟨[6], [1, 2, 3, 4, 5, 0], [0, 0, 0, 0, 0, 0], [0, 0, 10, 0, 5, 0, 0], 6⟩
theorem p3_0 : preOk 3 s3_3 z3_0 := fun s0 s1 => by kernel_rfl
theorem t3_0 : ∀ s0 s1 t6 t13 t14 t15 t17 t18 : Sl, tailB 3 15 s3_3 z3_0 s0 s1 t6 t13 t14 t15 t17 t18 = true := fun s0 s1 t6 t13 t14 t15 t17 t18 => by kernel_rfl
theorem d3_0 : sidesB 3 z3_0 = true := by decide +kernel
theorem w3_0 : sweepB 3 z3_0 = true := by decide +kernel
def z3_1 : Cs := ⟨[5, 1], [1, 2, 3, 4, 0, 5], [0, 0, 0, 0, 0, 5], [0, 5, 0, 10, 0, 0, 0], 1⟩
theorem p3_1 : preOk 3 s3_3 z3_1 := fun s0 s1 => by kernel_rfl
theorem t3_1 : ∀ s0 s1 t6 t13 t14 t15 t17 t18 : Sl, tailB 3 15 s3_3 z3_1 s0 s1 t6 t13 t14 t15 t17 t18 = true := fun s0 s1 t6 t13 t14 t15 t17 t18 => by kernel_rfl
theorem d3_1 : sidesB 3 z3_1 = true := by decide +kernel
theorem w3_1 : sweepB 3 z3_1 = true := by decide +kernel
def z3_2 : Cs := ⟨[4, 2], [1, 2, 3, 0, 5, 4], [0, 0, 0, 0, 4, 4], [0, 4, 0, 9, 0, 2, 0], 2⟩
theorem p3_2 : preOk 3 s3_3 z3_2 := fun s0 s1 => by kernel_rfl
theorem t3_2 : ∀ s0 s1 t6 t13 t14 t15 t17 t18 : Sl, tailB 3 15 s3_3 z3_2 s0 s1 t6 t13 t14 t15 t17 t18 = true := fun s0 s1 t6 t13 t14 t15 t17 t18 => by kernel_rfl
theorem d3_2 : sidesB 3 z3_2 = true := by decide +kernel
theorem w3_2 : sweepB 3 z3_2 = true := by decide +kernel
def z3_3 : Cs := ⟨[4, 1, 1], [1, 2, 3, 0, 4, 5], [0, 0, 0, 0, 4, 5], [0, 0, 13, 0, 2, 0, 0], 1⟩
theorem p3_3 : preOk 3 s3_3 z3_3 := fun s0 s1 => by kernel_rfl
theorem t3_3 : ∀ s0 s1 t6 t13 t14 t15 t17 t18 : Sl, tailB 3 15 s3_3 z3_3 s0 s1 t6 t13 t14 t15 t17 t18 = true := fun s0 s1 t6 t13 t14 t15 t17 t18 => by kernel_rfl
theorem d3_3 : sidesB 3 z3_3 = true := by decide +kernel
theorem w3_3 : sweepB 3 z3_3 = true := by decide +kernel
def z3_4 : Cs := ⟨[3, 3], [1, 2, 0, 4, 5, 3], [0, 0, 0, 3, 3, 3], [0, 3, 0, 12, 0, 0, 0], 3⟩
theorem p3_4 : preOk 3 s3_3 z3_4 := fun s0 s1 => by kernel_rfl
theorem t3_4 : ∀ s0 s1 t6 t13 t14 t15 t17 t18 : Sl, tailB 3 15 s3_3 z3_4 s0 s1 t6 t13 t14 t15 t17 t18 = true := fun s0 s1 t6 t13 t14 t15 t17 t18 => by kernel_rfl
theorem d3_4 : sidesB 3 z3_4 = true := by decide +kernel
theorem w3_4 : sweepB 3 z3_4 = true := by decide +kernel
def z3_5 : Cs := ⟨[3, 2, 1], [1, 2, 0, 4, 3, 5], [0, 0, 0, 3, 3, 5], [0, 0, 12, 0, 3, 0, 0], 1⟩
theorem p3_5 : preOk 3 s3_3 z3_5 := fun s0 s1 => by kernel_rfl
theorem t3_5 : ∀ s0 s1 t6 t13 t14 t15 t17 t18 : Sl, tailB 3 15 s3_3 z3_5 s0 s1 t6 t13 t14 t15 t17 t18 = true := fun s0 s1 t6 t13 t14 t15 t17 t18 => by kernel_rfl
theorem d3_5 : sidesB 3 z3_5 = true := by decide +kernel
theorem w3_5 : sweepB 3 z3_5 = true := by decide +kernel
def z3_6 : Cs := ⟨[3, 1, 1, 1], [1, 2, 0, 3, 4, 5], [0, 0, 0, 3, 4, 5], [0, 6, 0, 9, 0, 0, 0], 1⟩
theorem p3_6 : preOk 3 s3_3 z3_6 := fun s0 s1 => by kernel_rfl
theorem t3_6 : ∀ s0 s1 t6 t13 t14 t15 t17 t18 : Sl, tailB 3 15 s3_3 z3_6 s0 s1 t6 t13 t14 t15 t17 t18 = true := fun s0 s1 t6 t13 t14 t15 t17 t18 => by kernel_rfl
theorem d3_6 : sidesB 3 z3_6 = true := by decide +kernel
theorem w3_6 : sweepB 3 z3_6 = true := by decide +kernel
def z3_7 : Cs := ⟨[2, 2, 2], [1, 0, 3, 2, 5, 4], [0, 0, 2, 2, 4, 4], [0, 0, 8, 0, 6, 0, 1], 2⟩
theorem p3_7 : preOk 3 s3_3 z3_7 := fun s0 s1 => by kernel_rfl
theorem t3_7 : ∀ s0 s1 t6 t13 t14 t15 t17 t18 : Sl, tailB 3 15 s3_3 z3_7 s0 s1 t6 t13 t14 t15 t17 t18 = true := fun s0 s1 t6 t13 t14 t15 t17 t18 => by kernel_rfl
theorem d3_7 : sidesB 3 z3_7 = true := by decide +kernel
theorem w3_7 : sweepB 3 z3_7 = true := by decide +kernel
def z3_8 : Cs := ⟨[2, 2, 1, 1], [1, 0, 3, 2, 4, 5], [0, 0, 2, 2, 4, 5], [0, 8, 0, 6, 0, 1, 0], 1⟩
theorem p3_8 : preOk 3 s3_3 z3_8 := fun s0 s1 => by kernel_rfl
theorem t3_8 : ∀ s0 s1 t6 t13 t14 t15 t17 t18 : Sl, tailB 3 15 s3_3 z3_8 s0 s1 t6 t13 t14 t15 t17 t18 = true := fun s0 s1 t6 t13 t14 t15 t17 t18 => by kernel_rfl
theorem d3_8 : sidesB 3 z3_8 = true := by decide +kernel
theorem w3_8 : sweepB 3 z3_8 = true := by decide +kernel
def z3_9 : Cs := ⟨[2, 1, 1, 1, 1], [1, 0, 2, 3, 4, 5], [0, 0, 2, 3, 4, 5], [0, 0, 12, 0, 3, 0, 0], 1⟩
theorem p3_9 : preOk 3 s3_3 z3_9 := fun s0 s1 => by kernel_rfl
theorem t3_9 : ∀ s0 s1 t6 t13 t14 t15 t17 t18 : Sl, tailB 3 15 s3_3 z3_9 s0 s1 t6 t13 t14 t15 t17 t18 = true := fun s0 s1 t6 t13 t14 t15 t17 t18 => by kernel_rfl
theorem d3_9 : sidesB 3 z3_9 = true := by decide +kernel
theorem w3_9 : sweepB 3 z3_9 = true := by decide +kernel
def z3_10 : Cs := ⟨[1, 1, 1, 1, 1, 1], [0, 1, 2, 3, 4, 5], [0, 1, 2, 3, 4, 5], [0, 0, 0, 15, 0, 0, 0], 1⟩
theorem p3_10 : preOk 3 s3_3 z3_10 := fun s0 s1 => by kernel_rfl
theorem t3_10 : ∀ s0 s1 t6 t13 t14 t15 t17 t18 : Sl, tailB 3 15 s3_3 z3_10 s0 s1 t6 t13 t14 t15 t17 t18 = true := fun s0 s1 t6 t13 t14 t15 t17 t18 => by kernel_rfl
theorem d3_10 : sidesB 3 z3_10 = true := by decide +kernel
theorem w3_10 : sweepB 3 z3_10 = true := by decide +kernel
theorem len_3 : (PS 3).length = 15 := by decide +kernel
theorem all_3 (s0 s1 : Sl) : ∀ v : Nat, v < rows_3.length → fin false (ex T K39 (.cons ls5 (.cons ls6 (.cons ls7 (.cons ls8 (.cons ls9 (.cons ls10 TL)))))) (E0 s0 s1 3 s3_3 (rows_3.getD v []))) = .ok false (.bl true) .n
  | 0, _ => case_run 3 s3_3 z3_0 s0 s1 (by decide) (by decide) 15 len_3 cov_3 c24_3 c11_3 p3_0 d3_0 w3_0 t3_0
  | 1, _ => case_run 3 s3_3 z3_1 s0 s1 (by decide) (by decide) 15 len_3 cov_3 c24_3 c11_3 p3_1 d3_1 w3_1 t3_1
  | 2, _ => case_run 3 s3_3 z3_2 s0 s1 (by decide) (by decide) 15 len_3 cov_3 c24_3 c11_3 p3_2 d3_2 w3_2 t3_2
  | 3, _ => case_run 3 s3_3 z3_3 s0 s1 (by decide) (by decide) 15 len_3 cov_3 c24_3 c11_3 p3_3 d3_3 w3_3 t3_3
  | 4, _ => case_run 3 s3_3 z3_4 s0 s1 (by decide) (by decide) 15 len_3 cov_3 c24_3 c11_3 p3_4 d3_4 w3_4 t3_4
  | 5, _ => case_run 3 s3_3 z3_5 s0 s1 (by decide) (by decide) 15 len_3 cov_3 c24_3 c11_3 p3_5 d3_5 w3_5 t3_5
  | 6, _ => case_run 3 s3_3 z3_6 s0 s1 (by decide) (by decide) 15 len_3 cov_3 c24_3 c11_3 p3_6 d3_6 w3_6 t3_6
  | 7, _ => case_run 3 s3_3 z3_7 s0 s1 (by decide) (by decide) 15 len_3 cov_3 c24_3 c11_3 p3_7 d3_7 w3_7 t3_7
  | 8, _ => case_run 3 s3_3 z3_8 s0 s1 (by decide) (by decide) 15 len_3 cov_3 c24_3 c11_3 p3_8 d3_8 w3_8 t3_8
  | 9, _ => case_run 3 s3_3 z3_9 s0 s1 (by decide) (by decide) 15 len_3 cov_3 c24_3 c11_3 p3_9 d3_9 w3_9 t3_9
  | 10, _ => case_run 3 s3_3 z3_10 s0 s1 (by decide) (by decide) 15 len_3 cov_3 c24_3 c11_3 p3_10 d3_10 w3_10 t3_10
  | v + 11, h => absurd h (by show ¬ (v + 11 < 11); omega)
end K26
end

section
set_option linter.all false
set_option autoImplicit false
set_option maxRecDepth 1000000
set_option Elab.async false
namespace K26
open Iv Iv.L26
def rows_4 : List (List Nat) := [[8], [7, 1], [6, 2], [6, 1, 1], [5, 3], [5, 2, 1], [5, 1, 1, 1], [4, 4], [4, 3, 1], [4, 2, 2], [4, 2, 1, 1], [4, 1, 1, 1, 1], [3, 3, 2], [3, 3, 1, 1], [3, 2, 2, 1], [3, 2, 1, 1, 1], [3, 1, 1, 1, 1, 1], [2, 2, 2, 2], [2, 2, 2, 1, 1], [2, 2, 1, 1, 1, 1], [2, 1, 1, 1, 1, 1, 1], [1, 1, 1, 1, 1, 1, 1, 1]]
theorem e4_4 : runG (ω := Bool) (CP (ω := Bool)) 39 4 [.v (.int 8)] (fun fr w s => rfTs false rows_4 (.ok fr w s)) (fun q s => rfTs false rows_4 (.exn q s)) (rfTs false rows_4 .err) = true := by decide +kernel
theorem c4_4 : run T K26.P 39 4 [.v (.int 8)] = .ok false (.tup (rows_4.map TI)) .n := rfTs_ok (runG26 (rfTs false rows_4) _ _ _ e4_4)
abbrev s3_4 : Sl := .v (.tup (rows_4.map TI))
def z4_0 : Cs := ⟨[8], [1, 2, 3, 4, 5, 6, 7, 0], [0, 0, 0, 0, 0, 0, 0, 0], [0, 21, 0, 70, 0, 14, 0, 0, 0], 8⟩
theorem p4_0 : preOk 4 s3_4 z4_0 := fun s0 s1 => by kernel_rfl
theorem t4_0 : ∀ s0 s1 t6 t13 t14 t15 t17 t18 : Sl, tailB 4 105 s3_4 z4_0 s0 s1 t6 t13 t14 t15 t17 t18 = true := fun s0 s1 t6 t13 t14 t15 t17 t18 => by kernel_rfl
theorem d4_0 : sidesB 4 z4_0 = true := by decide +kernel
theorem w4_0 : sweepB 4 z4_0 = true := by decide +kernel
def z4_1 : Cs := ⟨[7, 1], [1, 2, 3, 4, 5, 6, 0, 7], [0, 0, 0, 0, 0, 0, 0, 7], [0, 0, 70, 0, 35, 0, 0, 0, 0], 1⟩
theorem p4_1 : preOk 4 s3_4 z4_1 := fun s0 s1 => by kernel_rfl
theorem t4_1 : ∀ s0 s1 t6 t13 t14 t15 t17 t18 : Sl, tailB 4 105 s3_4 z4_1 s0 s1 t6 t13 t14 t15 t17 t18 = true := fun s0 s1 t6 t13 t14 t15 t17 t18 => by kernel_rfl
theorem d4_1 : sidesB 4 z4_1 = true := by decide +kernel
theorem w4_1 : sweepB 4 z4_1 = true := by decide +kernel
def z4_2 : Cs := ⟨[6, 2], [1, 2, 3, 4, 5, 0, 7, 6], [0, 0, 0, 0, 0, 0, 6, 6], [0, 0, 60, 0, 40, 0, 5, 0, 0], 2⟩
theorem p4_2 : preOk 4 s3_4 z4_2 := fun s0 s1 => by kernel_rfl
theorem t4_2 : ∀ s0 s1 t6 t13 t14 t15 t17 t18 : Sl, tailB 4 105 s3_4 z4_2 s0 s1 t6 t13 t14 t15 t17 t18 = true := fun s0 s1 t6 t13 t14 t15 t17 t18 => by kernel_rfl
theorem d4_2 : sidesB 4 z4_2 = true := by decide +kernel
theorem w4_2 : sweepB 4 z4_2 = true := by decide +kernel
def z4_3 : Cs := ⟨[6, 1, 1], [1, 2, 3, 4, 5, 0, 6, 7], [0, 0, 0, 0, 0, 0, 6, 7], [0, 30, 0, 70, 0, 5, 0, 0, 0], 1⟩
theorem p4_3 : preOk 4 s3_4 z4_3 := fun s0 s1 => by kernel_rfl
theorem t4_3 : ∀ s0 s1 t6 t13 t14 t15 t17 t18 : Sl, tailB 4 105 s3_4 z4_3 s0 s1 t6 t13 t14 t15 t17 t18 = true := fun s0 s1 t6 t13 t14 t15 t17 t18 => by kernel_rfl
theorem d4_3 : sidesB 4 z4_3 = true := by decide +kernel
theorem w4_3 : sweepB 4 z4_3 = true := by decide +kernel
def z4_4 : Cs := ⟨[5, 3], [1, 2, 3, 4, 0, 6, 7, 5], [0, 0, 0, 0, 0, 5, 5, 5], [0, 0, 60, 0, 45, 0, 0, 0, 0], 3⟩
theorem p4_4 : preOk 4 s3_4 z4_4 := fun s0 s1 => by kernel_rfl
theorem t4_4 : ∀ s0 s1 t6 t13 t14 t15 t17 t18 : Sl, tailB 4 105 s3_4 z4_4 s0 s1 t6 t13 t14 t15 t17 t18 = true := fun s0 s1 t6 t13 t14 t15 t17 t18 => by kernel_rfl
theorem d4_4 : sidesB 4 z4_4 = true := by decide +kernel
theorem w4_4 : sweepB 4 z4_4 = true := by decide +kernel
def z4_5 : Cs := ⟨[5, 2, 1], [1, 2, 3, 4, 0, 6, 5, 7], [0, 0, 0, 0, 0, 5, 5, 7], [0, 30, 0, 65, 0, 10, 0, 0, 0], 1⟩
theorem p4_5 : preOk 4 s3_4 z4_5 := fun s0 s1 => by kernel_rfl
theorem t4_5 : ∀ s0 s1 t6 t13 t14 t15 t17 t18 : Sl, tailB 4 105 s3_4 z4_5 s0 s1 t6 t13 t14 t15 t17 t18 = true := fun s0 s1 t6 t13 t14 t15 t17 t18 => by kernel_rfl
theorem d4_5 : sidesB 4 z4_5 = true := by decide +kernel
theorem w4_5 : sweepB 4 z4_5 = true := by decide +kernel
def z4_6 : Cs := ⟨[5, 1, 1, 1], [1, 2, 3, 4, 0, 5, 6, 7], [0, 0, 0, 0, 0, 5, 6, 7], [0, 0, 75, 0, 30, 0, 0, 0, 0], 1⟩
theorem p4_6 : preOk 4 s3_4 z4_6 := fun s0 s1 => by kernel_rfl
theorem t4_6 : ∀ s0 s1 t6 t13 t14 t15 t17 t18 : Sl, tailB 4 105 s3_4 z4_6 s0 s1 t6 t13 t14 t15 t17 t18 = true := fun s0 s1 t6 t13 t14 t15 t17 t18 => by kernel_rfl
theorem d4_6 : sidesB 4 z4_6 = true := by decide +kernel
theorem w4_6 : sweepB 4 z4_6 = true := by decide +kernel
def z4_7 : Cs := ⟨[4, 4], [1, 2, 3, 0, 5, 6, 7, 4], [0, 0, 0, 0, 4, 4, 4, 4], [0, 0, 61, 0, 40, 0, 4, 0, 0], 4⟩
theorem p4_7 : preOk 4 s3_4 z4_7 := fun s0 s1 => by kernel_rfl
theorem t4_7 : ∀ s0 s1 t6 t13 t14 t15 t17 t18 : Sl, tailB 4 105 s3_4 z4_7 s0 s1 t6 t13 t14 t15 t17 t18 = true := fun s0 s1 t6 t13 t14 t15 t17 t18 => by kernel_rfl
theorem d4_7 : sidesB 4 z4_7 = true := by decide +kernel
theorem w4_7 : sweepB 4 z4_7 = true := by decide +kernel
def z4_8 : Cs := ⟨[4, 3, 1], [1, 2, 3, 0, 5, 6, 4, 7], [0, 0, 0, 0, 4, 4, 4, 7], [0, 24, 0, 75, 0, 6, 0, 0, 0], 1⟩
theorem p4_8 : preOk 4 s3_4 z4_8 := fun s0 s1 => by kernel_rfl
theorem t4_8 : ∀ s0 s1 t6 t13 t14 t15 t17 t18 : Sl, tailB 4 105 s3_4 z4_8 s0 s1 t6 t13 t14 t15 t17 t18 = true := fun s0 s1 t6 t13 t14 t15 t17 t18 => by kernel_rfl
theorem d4_8 : sidesB 4 z4_8 = true := by decide +kernel
theorem w4_8 : sweepB 4 z4_8 = true := by decide +kernel
def z4_9 : Cs := ⟨[4, 2, 2], [1, 2, 3, 0, 5, 4, 7, 6], [0, 0, 0, 0, 4, 4, 6, 6], [0, 24, 0, 58, 0, 21, 0, 2, 0], 2⟩
theorem p4_9 : preOk 4 s3_4 z4_9 := fun s0 s1 => by kernel_rfl
theorem t4_9 : ∀ s0 s1 t6 t13 t14 t15 t17 t18 : Sl, tailB 4 105 s3_4 z4_9 s0 s1 t6 t13 t14 t15 t17 t18 = true := fun s0 s1 t6 t13 t14 t15 t17 t18 => by kernel_rfl
theorem d4_9 : sidesB 4 z4_9 = true := by decide +kernel
theorem w4_9 : sweepB 4 z4_9 = true := by decide +kernel
def z4_10 : Cs := ⟨[4, 2, 1, 1], [1, 2, 3, 0, 5, 4, 6, 7], [0, 0, 0, 0, 4, 4, 6, 7], [0, 0, 78, 0, 25, 0, 2, 0, 0], 1⟩
theorem p4_10 : preOk 4 s3_4 z4_10 := fun s0 s1 => by kernel_rfl
theorem t4_10 : ∀ s0 s1 t6 t13 t14 t15 t17 t18 : Sl, tailB 4 105 s3_4 z4_10 s0 s1 t6 t13 t14 t15 t17 t18 = true := fun s0 s1 t6 t13 t14 t15 t17 t18 => by kernel_rfl
theorem d4_10 : sidesB 4 z4_10 = true := by decide +kernel
theorem w4_10 : sweepB 4 z4_10 = true := by decide +kernel
def z4_11 : Cs := ⟨[4, 1, 1, 1, 1], [1, 2, 3, 0, 4, 5, 6, 7], [0, 0, 0, 0, 4, 5, 6, 7], [0, 24, 0, 75, 0, 6, 0, 0, 0], 1⟩
theorem p4_11 : preOk 4 s3_4 z4_11 := fun s0 s1 => by kernel_rfl
theorem t4_11 : ∀ s0 s1 t6 t13 t14 t15 t17 t18 : Sl, tailB 4 105 s3_4 z4_11 s0 s1 t6 t13 t14 t15 t17 t18 = true := fun s0 s1 t6 t13 t14 t15 t17 t18 => by kernel_rfl
theorem d4_11 : sidesB 4 z4_11 = true := by decide +kernel
theorem w4_11 : sweepB 4 z4_11 = true := by decide +kernel
def z4_12 : Cs := ⟨[3, 3, 2], [1, 2, 0, 4, 5, 3, 7, 6], [0, 0, 0, 3, 3, 3, 6, 6], [0, 18, 0, 75, 0, 12, 0, 0, 0], 2⟩
theorem p4_12 : preOk 4 s3_4 z4_12 := fun s0 s1 => by kernel_rfl
theorem t4_12 : ∀ s0 s1 t6 t13 t14 t15 t17 t18 : Sl, tailB 4 105 s3_4 z4_12 s0 s1 t6 t13 t14 t15 t17 t18 = true := fun s0 s1 t6 t13 t14 t15 t17 t18 => by kernel_rfl
theorem d4_12 : sidesB 4 z4_12 = true := by decide +kernel
theorem w4_12 : sweepB 4 z4_12 = true := by decide +kernel
def z4_13 : Cs := ⟨[3, 3, 1, 1], [1, 2, 0, 4, 5, 3, 6, 7], [0, 0, 0, 3, 3, 3, 6, 7], [0, 0, 75, 0, 30, 0, 0, 0, 0], 1⟩
theorem p4_13 : preOk 4 s3_4 z4_13 := fun s0 s1 => by kernel_rfl
theorem t4_13 : ∀ s0 s1 t6 t13 t14 t15 t17 t18 : Sl, tailB 4 105 s3_4 z4_13 s0 s1 t6 t13 t14 t15 t17 t18 = true := fun s0 s1 t6 t13 t14 t15 t17 t18 => by kernel_rfl
theorem d4_13 : sidesB 4 z4_13 = true := by decide +kernel
theorem w4_13 : sweepB 4 z4_13 = true := by decide +kernel
def z4_14 : Cs := ⟨[3, 2, 2, 1], [1, 2, 0, 4, 3, 6, 5, 7], [0, 0, 0, 3, 3, 5, 5, 7], [0, 0, 72, 0, 30, 0, 3, 0, 0], 1⟩
theorem p4_14 : preOk 4 s3_4 z4_14 := fun s0 s1 => by kernel_rfl
theorem t4_14 : ∀ s0 s1 t6 t13 t14 t15 t17 t18 : Sl, tailB 4 105 s3_4 z4_14 s0 s1 t6 t13 t14 t15 t17 t18 = true := fun s0 s1 t6 t13 t14 t15 t17 t18 => by kernel_rfl
theorem d4_14 : sidesB 4 z4_14 = true := by decide +kernel
theorem w4_14 : sweepB 4 z4_14 = true := by decide +kernel
def z4_15 : Cs := ⟨[3, 2, 1, 1, 1], [1, 2, 0, 4, 3, 5, 6, 7], [0, 0, 0, 3, 3, 5, 6, 7], [0, 36, 0, 60, 0, 9, 0, 0, 0], 1⟩
theorem p4_15 : preOk 4 s3_4 z4_15 := fun s0 s1 => by kernel_rfl
theorem t4_15 : ∀ s0 s1 t6 t13 t14 t15 t17 t18 : Sl, tailB 4 105 s3_4 z4_15 s0 s1 t6 t13 t14 t15 t17 t18 = true := fun s0 s1 t6 t13 t14 t15 t17 t18 => by kernel_rfl
theorem d4_15 : sidesB 4 z4_15 = true := by decide +kernel
theorem w4_15 : sweepB 4 z4_15 = true := by decide +kernel
def z4_16 : Cs := ⟨[3, 1, 1, 1, 1, 1], [1, 2, 0, 3, 4, 5, 6, 7], [0, 0, 0, 3, 4, 5, 6, 7], [0, 0, 60, 0, 45, 0, 0, 0, 0], 1⟩
theorem p4_16 : preOk 4 s3_4 z4_16 := fun s0 s1 => by kernel_rfl
theorem t4_16 : ∀ s0 s1 t6 t13 t14 t15 t17 t18 : Sl, tailB 4 105 s3_4 z4_16 s0 s1 t6 t13 t14 t15 t17 t18 = true := fun s0 s1 t6 t13 t14 t15 t17 t18 => by kernel_rfl
theorem d4_16 : sidesB 4 z4_16 = true := by decide +kernel
theorem w4_16 : sweepB 4 z4_16 = true := by decide +kernel
def z4_17 : Cs := ⟨[2, 2, 2, 2], [1, 0, 3, 2, 5, 4, 7, 6], [0, 0, 2, 2, 4, 4, 6, 6], [0, 0, 48, 0, 44, 0, 12, 0, 1], 2⟩
theorem p4_17 : preOk 4 s3_4 z4_17 := fun s0 s1 => by kernel_rfl
theorem t4_17 : ∀ s0 s1 t6 t13 t14 t15 t17 t18 : Sl, tailB 4 105 s3_4 z4_17 s0 s1 t6 t13 t14 t15 t17 t18 = true := fun s0 s1 t6 t13 t14 t15 t17 t18 => by kernel_rfl
theorem d4_17 : sidesB 4 z4_17 = true := by decide +kernel
theorem w4_17 : sweepB 4 z4_17 = true := by decide +kernel
def z4_18 : Cs := ⟨[2, 2, 2, 1, 1], [1, 0, 3, 2, 5, 4, 6, 7], [0, 0, 2, 2, 4, 4, 6, 7], [0, 48, 0, 44, 0, 12, 0, 1, 0], 1⟩
theorem p4_18 : preOk 4 s3_4 z4_18 := fun s0 s1 => by kernel_rfl
theorem t4_18 : ∀ s0 s1 t6 t13 t14 t15 t17 t18 : Sl, tailB 4 105 s3_4 z4_18 s0 s1 t6 t13 t14 t15 t17 t18 = true := fun s0 s1 t6 t13 t14 t15 t17 t18 => by kernel_rfl
theorem d4_18 : sidesB 4 z4_18 = true := by decide +kernel
theorem w4_18 : sweepB 4 z4_18 = true := by decide +kernel
def z4_19 : Cs := ⟨[2, 2, 1, 1, 1, 1], [1, 0, 3, 2, 4, 5, 6, 7], [0, 0, 2, 2, 4, 5, 6, 7], [0, 0, 72, 0, 30, 0, 3, 0, 0], 1⟩
theorem p4_19 : preOk 4 s3_4 z4_19 := fun s0 s1 => by kernel_rfl
theorem t4_19 : ∀ s0 s1 t6 t13 t14 t15 t17 t18 : Sl, tailB 4 105 s3_4 z4_19 s0 s1 t6 t13 t14 t15 t17 t18 = true := fun s0 s1 t6 t13 t14 t15 t17 t18 => by kernel_rfl
theorem d4_19 : sidesB 4 z4_19 = true := by decide +kernel
theorem w4_19 : sweepB 4 z4_19 = true := by decide +kernel
def z4_20 : Cs := ⟨[2, 1, 1, 1, 1, 1, 1], [1, 0, 2, 3, 4, 5, 6, 7], [0, 0, 2, 3, 4, 5, 6, 7], [0, 0, 0, 90, 0, 15, 0, 0, 0], 1⟩
theorem p4_20 : preOk 4 s3_4 z4_20 := fun s0 s1 => by kernel_rfl
theorem t4_20 : ∀ s0 s1 t6 t13 t14 t15 t17 t18 : Sl, tailB 4 105 s3_4 z4_20 s0 s1 t6 t13 t14 t15 t17 t18 = true := fun s0 s1 t6 t13 t14 t15 t17 t18 => by kernel_rfl
theorem d4_20 : sidesB 4 z4_20 = true := by decide +kernel
theorem w4_20 : sweepB 4 z4_20 = true := by decide +kernel
def z4_21 : Cs := ⟨[1, 1, 1, 1, 1, 1, 1, 1], [0, 1, 2, 3, 4, 5, 6, 7], [0, 1, 2, 3, 4, 5, 6, 7], [0, 0, 0, 0, 105, 0, 0, 0, 0], 1⟩
theorem p4_21 : preOk 4 s3_4 z4_21 := fun s0 s1 => by kernel_rfl
theorem t4_21 : ∀ s0 s1 t6 t13 t14 t15 t17 t18 : Sl, tailB 4 105 s3_4 z4_21 s0 s1 t6 t13 t14 t15 t17 t18 = true := fun s0 s1 t6 t13 t14 t15 t17 t18 => by kernel_rfl
theorem d4_21 : sidesB 4 z4_21 = true := by decide +kernel
theorem w4_21 : sweepB 4 z4_21 = true := by decide +kernel
theorem len_4 : (PS 4).length = 105 := by decide +kernel
theorem all_4 (s0 s1 : Sl) : ∀ v : Nat, v < rows_4.length → fin false (ex T K39 (.cons ls5 (.cons ls6 (.cons ls7 (.cons ls8 (.cons ls9 (.cons ls10 TL)))))) (E0 s0 s1 4 s3_4 (rows_4.getD v []))) = .ok false (.bl true) .n
  | 0, _ => case_run 4 s3_4 z4_0 s0 s1 (by decide) (by decide) 105 len_4 cov_4 c24_4 c11_4 p4_0 d4_0 w4_0 t4_0
  | 1, _ => case_run 4 s3_4 z4_1 s0 s1 (by decide) (by decide) 105 len_4 cov_4 c24_4 c11_4 p4_1 d4_1 w4_1 t4_1
  | 2, _ => case_run 4 s3_4 z4_2 s0 s1 (by decide) (by decide) 105 len_4 cov_4 c24_4 c11_4 p4_2 d4_2 w4_2 t4_2
  | 3, _ => case_run 4 s3_4 z4_3 s0 s1 (by decide) (by decide) 105 len_4 cov_4 c24_4 c11_4 p4_3 d4_3 w4_3 t4_3
  | 4, _ => case_run 4 s3_4 z4_4 s0 s1 (by decide) (by decide) 105 len_4 cov_4 c24_4 c11_4 p4_4 d4_4 w4_4 t4_4
  | 5, _ => case_run 4 s3_4 z4_5 s0 s1 (by decide) (by decide) 105 len_4 cov_4 c24_4 c11_4 p4_5 d4_5 w4_5 t4_5
  | 6, _ => case_run 4 s3_4 z4_6 s0 s1 (by decide) (by decide) 105 len_4 cov_4 c24_4 c11_4 p4_6 d4_6 w4_6 t4_6
  | 7, _ => case_run 4 s3_4 z4_7 s0 s1 (by decide) (by decide) 105 len_4 cov_4 c24_4 c11_4 p4_7 d4_7 w4_7 t4_7
  | 8, _ => case_run 4 s3_4 z4_8 s0 s1 (by decide) (by decide) 105 len_4 cov_4 c24_4 c11_4 p4_8 d4_8 w4_8 t4_8
  | 9, _ => case_run 4 s3_4 z4_9 s0 s1 (by decide) (by decide) 105 len_4 cov_4 c24_4 c11_4 p4_9 d4_9 w4_9 t4_9
  | 10, _ => case_run 4 s3_4 z4_10 s0 s1 (by decide) (by decide) 105 len_4 cov_4 c24_4 c11_4 p4_10 d4_10 w4_10 t4_10
  | 11, _ => case_run 4 s3_4 z4_11 s0 s1 (by decide) (by decide) 105 len_4 cov_4 c24_4 c11_4 p4_11 d4_11 w4_11 t4_11
  | 12, _ => case_run 4 s3_4 z4_12 s0 s1 (by decide) (by decide) 105 len_4 cov_4 c24_4 c11_4 p4_12 d4_12 w4_12 t4_12
  | 13, _ => case_run 4 s3_4 z4_13 s0 s1 (by decide) (by decide) 105 len_4 cov_4 c24_4 c11_4 p4_13 d4_13 w4_13 t4_13
  | 14, _ => case_run 4 s3_4 z4_14 s0 s1 (by decide) (by decide) 105 len_4 cov_4 c24_4 c11_4 p4_14 d4_14 w4_14 t4_14
  | 15, _ => case_run 4 s3_4 z4_15 s0 s1 (by decide) (by decide) 105 len_4 cov_4 c24_4 c11_4 p4_15 d4_15 w4_15 t4_15
  | 16, _ => case_run 4 s3_4 z4_16 s0 s1 (by decide) (by decide) 105 len_4 cov_4 c24_4 c11_4 p4_16 d4_16 w4_16 t4_16
  | 17, _ => case_run 4 s3_4 z4_17 s0 s1 (by decide) (by decide) 105 len_4 cov_4 c24_4 c11_4 p4_17 d4_17 w4_17 t4_17
  | 18, _ => case_run 4 s3_4 z4_18 s0 s1 (by decide) (by decide) 105 len_4 cov_4 c24_4 c11_4 p4_18 d4_18 w4_18 t4_18
  | 19, _ => case_run 4 s3_4 z4_19 s0 s1 (by decide) (by decide) 105 len_4 cov_4 c24_4 c11_4 p4_19 d4_19 w4_19 t4_19
  | 20, _ => case_run 4 s3_4 z4_20 s0 s1 (by decide) (by decide) 105 len_4 cov_4 c24_4 c11_4 p4_20 d4_20 w4_20 t4_20
  | 21, _ => case_run 4 s3_4 z4_21 s0 s1 (by decide) (by decide) 105 len_4 cov_4 c24_4 c11_4 p4_21 d4_21 w4_21 t4_21
  | v + 22, h => absurd h (by show ¬ (v + 22 < 22); omega)
end K26
end

section
set_option linter.all false
set_option autoImplicit false
set_option maxRecDepth 1000000
set_option Elab.async false
namespace K26
open Iv Iv.L26
def rows_5 : List (List Nat) := [[10], [9, 1], [8, 2], [8, 1, 1], [7, 3], [7, 2, 1], [7, 1, 1, 1], [6, 4], [6, 3, 1], [6, 2, 2], [6, 2, 1, 1], [6, 1, 1, 1, 1], [5, 5], [5, 4, 1], [5, 3, 2], [5, 3, 1, 1], [5, 2, 2, 1], [5, 2, 1, 1, 1], [5, 1, 1, 1, 1, 1], [4, 4, 2], [4, 4, 1, 1], [4, 3, 3], [4, 3, 2, 1], [4, 3, 1, 1, 1], [4, 2, 2, 2], [4, 2, 2, 1, 1], [4, 2, 1, 1, 1, 1], [4, 1, 1, 1, 1, 1, 1], [3, 3, 3, 1], [3, 3, 2, 2], [3, 3, 2, 1, 1], [3, 3, 1, 1, 1, 1], [3, 2, 2, 2, 1], [3, 2, 2, 1, 1, 1], [3, 2, 1, 1, 1, 1, 1], [3, 1, 1, 1, 1, 1, 1, 1], [2, 2, 2, 2, 2], [2, 2, 2, 2, 1, 1], [2, 2, 2, 1, 1, 1, 1], [2, 2, 1, 1, 1, 1, 1, 1], [2, 1, 1, 1, 1, 1, 1, 1, 1], [1, 1, 1, 1, 1, 1, 1, 1, 1, 1]]
theorem e4_5 : runG (ω := Bool) (CP (ω := Bool)) 39 4 [.v (.int 10)] (fun fr w s => rfTs false rows_5 (.ok fr w s)) (fun q s => rfTs false rows_5 (.exn q s)) (rfTs false rows_5 .err) = true := by decide +kernel
theorem c4_5 : run T K26.P 39 4 [.v (.int 10)] = .ok false (.tup (rows_5.map TI)) .n := rfTs_ok (runG26 (rfTs false rows_5) _ _ _ e4_5)
abbrev s3_5 : Sl := .v (.tup (rows_5.map TI))
def z5_0 : Cs := ⟨[10], [1, 2, 3, 4, 5, 6, 7, 8, 9, 0], [0, 0, 0, 0, 0, 0, 0, 0, 0, 0], [0, 0, 483, 0, 420, 0, 42, 0, 0, 0, 0], 10⟩
theorem p5_0 : preOk 5 s3_5 z5_0 := fun s0 s1 => by kernel_rfl
theorem t5_0 : ∀ s0 s1 t6 t13 t14 t15 t17 t18 : Sl, tailB 5 945 s3_5 z5_0 s0 s1 t6 t13 t14 t15 t17 t18 = true := fun s0 s1 t6 t13 t14 t15 t17 t18 => by kernel_rfl
theorem d5_0 : sidesB 5 z5_0 = true := by decide +kernel
theorem w5_0 : sweepB 5 z5_0 = true := by decide +kernel
def z5_1 : Cs := ⟨[9, 1], [1, 2, 3, 4, 5, 6, 7, 8, 0, 9], [0, 0, 0, 0, 0, 0, 0, 0, 0, 9], [0, 189, 0, 630, 0, 126, 0, 0, 0, 0, 0], 1⟩
theorem p5_1 : preOk 5 s3_5 z5_1 := fun s0 s1 => by kernel_rfl
theorem t5_1 : ∀ s0 s1 t6 t13 t14 t15 t17 t18 : Sl, tailB 5 945 s3_5 z5_1 s0 s1 t6 t13 t14 t15 t17 t18 = true := fun s0 s1 t6 t13 t14 t15 t17 t18 => by kernel_rfl
theorem d5_1 : sidesB 5 z5_1 = true := by decide +kernel
theorem w5_1 : sweepB 5 z5_1 = true := by decide +kernel
def z5_2 : Cs := ⟨[8, 2], [1, 2, 3, 4, 5, 6, 7, 0, 9, 8], [0, 0, 0, 0, 0, 0, 0, 0, 8, 8], [0, 168, 0, 581, 0, 182, 0, 14, 0, 0, 0], 2⟩
theorem p5_2 : preOk 5 s3_5 z5_2 := fun s0 s1 => by kernel_rfl
theorem t5_2 : ∀ s0 s1 t6 t13 t14 t15 t17 t18 : Sl, tailB 5 945 s3_5 z5_2 s0 s1 t6 t13 t14 t15 t17 t18 = true := fun s0 s1 t6 t13 t14 t15 t17 t18 => by kernel_rfl
theorem d5_2 : sidesB 5 z5_2 = true := by decide +kernel
theorem w5_2 : sweepB 5 z5_2 = true := by decide +kernel
def z5_3 : Cs := ⟨[8, 1, 1], [1, 2, 3, 4, 5, 6, 7, 0, 8, 9], [0, 0, 0, 0, 0, 0, 0, 0, 8, 9], [0, 0, 581, 0, 350, 0, 14, 0, 0, 0, 0], 1⟩
theorem p5_3 : preOk 5 s3_5 z5_3 := fun s0 s1 => by kernel_rfl
theorem t5_3 : ∀ s0 s1 t6 t13 t14 t15 t17 t18 : Sl, tailB 5 945 s3_5 z5_3 s0 s1 t6 t13 t14 t15 t17 t18 = true := fun s0 s1 t6 t13 t14 t15 t17 t18 => by kernel_rfl
theorem d5_3 : sidesB 5 z5_3 = true := by decide +kernel
theorem w5_3 : sweepB 5 z5_3 = true := by decide +kernel
def z5_4 : Cs := ⟨[7, 3], [1, 2, 3, 4, 5, 6, 0, 8, 9, 7], [0, 0, 0, 0, 0, 0, 0, 7, 7, 7], [0, 147, 0, 630, 0, 168, 0, 0, 0, 0, 0], 3⟩
theorem p5_4 : preOk 5 s3_5 z5_4 := fun s0 s1 => by kernel_rfl
theorem t5_4 : ∀ s0 s1 t6 t13 t14 t15 t17 t18 : Sl, tailB 5 945 s3_5 z5_4 s0 s1 t6 t13 t14 t15 t17 t18 = true := fun s0 s1 t6 t13 t14 t15 t17 t18 => by kernel_rfl
theorem d5_4 : sidesB 5 z5_4 = true := by decide +kernel
theorem w5_4 : sweepB 5 z5_4 = true := by decide +kernel
def z5_5 : Cs := ⟨[7, 2, 1], [1, 2, 3, 4, 5, 6, 0, 8, 7, 9], [0, 0, 0, 0, 0, 0, 0, 7, 7, 9], [0, 0, 560, 0, 350, 0, 35, 0, 0, 0, 0], 1⟩
theorem p5_5 : preOk 5 s3_5 z5_5 := fun s0 s1 => by kernel_rfl
theorem t5_5 : ∀ s0 s1 t6 t13 t14 t15 t17 t18 : Sl, tailB 5 945 s3_5 z5_5 s0 s1 t6 t13 t14 t15 t17 t18 = true := fun s0 s1 t6 t13 t14 t15 t17 t18 => by kernel_rfl
theorem d5_5 : sidesB 5 z5_5 = true := by decide +kernel
theorem w5_5 : sweepB 5 z5_5 = true := by decide +kernel
def z5_6 : Cs := ⟨[7, 1, 1, 1], [1, 2, 3, 4, 5, 6, 0, 7, 8, 9], [0, 0, 0, 0, 0, 0, 0, 7, 8, 9], [0, 210, 0, 630, 0, 105, 0, 0, 0, 0, 0], 1⟩
theorem p5_6 : preOk 5 s3_5 z5_6 := fun s0 s1 => by kernel_rfl
theorem t5_6 : ∀ s0 s1 t6 t13 t14 t15 t17 t18 : Sl, tailB 5 945 s3_5 z5_6 s0 s1 t6 t13 t14 t15 t17 t18 = true := fun s0 s1 t6 t13 t14 t15 t17 t18 => by kernel_rfl
theorem d5_6 : sidesB 5 z5_6 = true := by decide +kernel
theorem w5_6 : sweepB 5 z5_6 = true := by decide +kernel
def z5_7 : Cs := ⟨[6, 4], [1, 2, 3, 4, 5, 0, 7, 8, 9, 6], [0, 0, 0, 0, 0, 0, 6, 6, 6, 6], [0, 156, 0, 610, 0, 169, 0, 10, 0, 0, 0], 4⟩
theorem p5_7 : preOk 5 s3_5 z5_7 := fun s0 s1 => by kernel_rfl
theorem t5_7 : ∀ s0 s1 t6 t13 t14 t15 t17 t18 : Sl, tailB 5 945 s3_5 z5_7 s0 s1 t6 t13 t14 t15 t17 t18 = true := fun s0 s1 t6 t13 t14 t15 t17 t18 => by kernel_rfl
theorem d5_7 : sidesB 5 z5_7 = true := by decide +kernel
theorem w5_7 : sweepB 5 z5_7 = true := by decide +kernel
def z5_8 : Cs := ⟨[6, 3, 1], [1, 2, 3, 4, 5, 0, 7, 8, 6, 9], [0, 0, 0, 0, 0, 0, 6, 6, 6, 9], [0, 0, 540, 0, 390, 0, 15, 0, 0, 0, 0], 1⟩
theorem p5_8 : preOk 5 s3_5 z5_8 := fun s0 s1 => by kernel_rfl
theorem t5_8 : ∀ s0 s1 t6 t13 t14 t15 t17 t18 : Sl, tailB 5 945 s3_5 z5_8 s0 s1 t6 t13 t14 t15 t17 t18 = true := fun s0 s1 t6 t13 t14 t15 t17 t18 => by kernel_rfl
theorem d5_8 : sidesB 5 z5_8 = true := by decide +kernel
theorem w5_8 : sweepB 5 z5_8 = true := by decide +kernel
def z5_9 : Cs := ⟨[6, 2, 2], [1, 2, 3, 4, 5, 0, 7, 6, 9, 8], [0, 0, 0, 0, 0, 0, 6, 6, 8, 8], [0, 0, 480, 0, 380, 0, 80, 0, 5, 0, 0], 2⟩
theorem p5_9 : preOk 5 s3_5 z5_9 := fun s0 s1 => by kernel_rfl
theorem t5_9 : ∀ s0 s1 t6 t13 t14 t15 t17 t18 : Sl, tailB 5 945 s3_5 z5_9 s0 s1 t6 t13 t14 t15 t17 t18 = true := fun s0 s1 t6 t13 t14 t15 t17 t18 => by kernel_rfl
theorem d5_9 : sidesB 5 z5_9 = true := by decide +kernel
theorem w5_9 : sweepB 5 z5_9 = true := by decide +kernel
def z5_10 : Cs := ⟨[6, 2, 1, 1], [1, 2, 3, 4, 5, 0, 7, 6, 8, 9], [0, 0, 0, 0, 0, 0, 6, 6, 8, 9], [0, 240, 0, 590, 0, 110, 0, 5, 0, 0, 0], 1⟩
theorem p5_10 : preOk 5 s3_5 z5_10 := fun s0 s1 => by kernel_rfl
theorem t5_10 : ∀ s0 s1 t6 t13 t14 t15 t17 t18 : Sl, tailB 5 945 s3_5 z5_10 s0 s1 t6 t13 t14 t15 t17 t18 = true := fun s0 s1 t6 t13 t14 t15 t17 t18 => by kernel_rfl
theorem d5_10 : sidesB 5 z5_10 = true := by decide +kernel
theorem w5_10 : sweepB 5 z5_10 = true := by decide +kernel
def z5_11 : Cs := ⟨[6, 1, 1, 1, 1], [1, 2, 3, 4, 5, 0, 6, 7, 8, 9], [0, 0, 0, 0, 0, 0, 6, 7, 8, 9], [0, 0, 540, 0, 390, 0, 15, 0, 0, 0, 0], 1⟩
theorem p5_11 : preOk 5 s3_5 z5_11 := fun s0 s1 => by kernel_rfl
theorem t5_11 : ∀ s0 s1 t6 t13 t14 t15 t17 t18 : Sl, tailB 5 945 s3_5 z5_11 s0 s1 t6 t13 t14 t15 t17 t18 = true := fun s0 s1 t6 t13 t14 t15 t17 t18 => by kernel_rfl
theorem d5_11 : sidesB 5 z5_11 = true := by decide +kernel
theorem w5_11 : sweepB 5 z5_11 = true := by decide +kernel
def z5_12 : Cs := ⟨[5, 5], [1, 2, 3, 4, 0, 6, 7, 8, 9, 5], [0, 0, 0, 0, 0, 5, 5, 5, 5, 5], [0, 165, 0, 600, 0, 180, 0, 0, 0, 0, 0], 5⟩
theorem p5_12 : preOk 5 s3_5 z5_12 := fun s0 s1 => by kernel_rfl
theorem t5_12 : ∀ s0 s1 t6 t13 t14 t15 t17 t18 : Sl, tailB 5 945 s3_5 z5_12 s0 s1 t6 t13 t14 t15 t17 t18 = true := fun s0 s1 t6 t13 t14 t15 t17 t18 => by kernel_rfl
theorem d5_12 : sidesB 5 z5_12 = true := by decide +kernel
theorem w5_12 : sweepB 5 z5_12 = true := by decide +kernel
def z5_13 : Cs := ⟨[5, 4, 1], [1, 2, 3, 4, 0, 6, 7, 8, 5, 9], [0, 0, 0, 0, 0, 5, 5, 5, 5, 9], [0, 0, 545, 0, 380, 0, 20, 0, 0, 0, 0], 1⟩
theorem p5_13 : preOk 5 s3_5 z5_13 := fun s0 s1 => by kernel_rfl
theorem t5_13 : ∀ s0 s1 t6 t13 t14 t15 t17 t18 : Sl, tailB 5 945 s3_5 z5_13 s0 s1 t6 t13 t14 t15 t17 t18 = true := fun s0 s1 t6 t13 t14 t15 t17 t18 => by kernel_rfl
theorem d5_13 : sidesB 5 z5_13 = true := by decide +kernel
theorem w5_13 : sweepB 5 z5_13 = true := by decide +kernel
def z5_14 : Cs := ⟨[5, 3, 2], [1, 2, 3, 4, 0, 6, 7, 5, 9, 8], [0, 0, 0, 0, 0, 5, 5, 5, 8, 8], [0, 0, 480, 0, 420, 0, 45, 0, 0, 0, 0], 2⟩
theorem p5_14 : preOk 5 s3_5 z5_14 := fun s0 s1 => by kernel_rfl
theorem t5_14 : ∀ s0 s1 t6 t13 t14 t15 t17 t18 : Sl, tailB 5 945 s3_5 z5_14 s0 s1 t6 t13 t14 t15 t17 t18 = true := fun s0 s1 t6 t13 t14 t15 t17 t18 => by kernel_rfl
theorem d5_14 : sidesB 5 z5_14 = true := by decide +kernel
theorem w5_14 : sweepB 5 z5_14 = true := by decide +kernel
def z5_15 : Cs := ⟨[5, 3, 1, 1], [1, 2, 3, 4, 0, 6, 7, 5, 8, 9], [0, 0, 0, 0, 0, 5, 5, 5, 8, 9], [0, 210, 0, 630, 0, 105, 0, 0, 0, 0, 0], 1⟩
theorem p5_15 : preOk 5 s3_5 z5_15 := fun s0 s1 => by kernel_rfl
theorem t5_15 : ∀ s0 s1 t6 t13 t14 t15 t17 t18 : Sl, tailB 5 945 s3_5 z5_15 s0 s1 t6 t13 t14 t15 t17 t18 = true := fun s0 s1 t6 t13 t14 t15 t17 t18 => by kernel_rfl
theorem d5_15 : sidesB 5 z5_15 = true := by decide +kernel
theorem w5_15 : sweepB 5 z5_15 = true := by decide +kernel
def z5_16 : Cs := ⟨[5, 2, 2, 1], [1, 2, 3, 4, 0, 6, 5, 8, 7, 9], [0, 0, 0, 0, 0, 5, 5, 7, 7, 9], [0, 240, 0, 550, 0, 145, 0, 10, 0, 0, 0], 1⟩
theorem p5_16 : preOk 5 s3_5 z5_16 := fun s0 s1 => by kernel_rfl
theorem t5_16 : ∀ s0 s1 t6 t13 t14 t15 t17 t18 : Sl, tailB 5 945 s3_5 z5_16 s0 s1 t6 t13 t14 t15 t17 t18 = true := fun s0 s1 t6 t13 t14 t15 t17 t18 => by kernel_rfl
theorem d5_16 : sidesB 5 z5_16 = true := by decide +kernel
theorem w5_16 : sweepB 5 z5_16 = true := by decide +kernel
def z5_17 : Cs := ⟨[5, 2, 1, 1, 1], [1, 2, 3, 4, 0, 6, 5, 7, 8, 9], [0, 0, 0, 0, 0, 5, 5, 7, 8, 9], [0, 0, 600, 0, 315, 0, 30, 0, 0, 0, 0], 1⟩
theorem p5_17 : preOk 5 s3_5 z5_17 := fun s0 s1 => by kernel_rfl
theorem t5_17 : ∀ s0 s1 t6 t13 t14 t15 t17 t18 : Sl, tailB 5 945 s3_5 z5_17 s0 s1 t6 t13 t14 t15 t17 t18 = true := fun s0 s1 t6 t13 t14 t15 t17 t18 => by kernel_rfl
theorem d5_17 : sidesB 5 z5_17 = true := by decide +kernel
theorem w5_17 : sweepB 5 z5_17 = true := by decide +kernel
def z5_18 : Cs := ⟨[5, 1, 1, 1, 1, 1], [1, 2, 3, 4, 0, 5, 6, 7, 8, 9], [0, 0, 0, 0, 0, 5, 6, 7, 8, 9], [0, 120, 0, 675, 0, 150, 0, 0, 0, 0, 0], 1⟩
theorem p5_18 : preOk 5 s3_5 z5_18 := fun s0 s1 => by kernel_rfl
theorem t5_18 : ∀ s0 s1 t6 t13 t14 t15 t17 t18 : Sl, tailB 5 945 s3_5 z5_18 s0 s1 t6 t13 t14 t15 t17 t18 = true := fun s0 s1 t6 t13 t14 t15 t17 t18 => by kernel_rfl
theorem d5_18 : sidesB 5 z5_18 = true := by decide +kernel
theorem w5_18 : sweepB 5 z5_18 = true := by decide +kernel
def z5_19 : Cs := ⟨[4, 4, 2], [1, 2, 3, 0, 5, 6, 7, 4, 9, 8], [0, 0, 0, 0, 4, 4, 4, 4, 8, 8], [0, 0, 488, 0, 381, 0, 72, 0, 4, 0, 0], 2⟩
theorem p5_19 : preOk 5 s3_5 z5_19 := fun s0 s1 => by kernel_rfl
theorem t5_19 : ∀ s0 s1 t6 t13 t14 t15 t17 t18 : Sl, tailB 5 945 s3_5 z5_19 s0 s1 t6 t13 t14 t15 t17 t18 = true := fun s0 s1 t6 t13 t14 t15 t17 t18 => by kernel_rfl
theorem d5_19 : sidesB 5 z5_19 = true := by decide +kernel
theorem w5_19 : sweepB 5 z5_19 = true := by decide +kernel
def z5_20 : Cs := ⟨[4, 4, 1, 1], [1, 2, 3, 0, 5, 6, 7, 4, 8, 9], [0, 0, 0, 0, 4, 4, 4, 4, 8, 9], [0, 192, 0, 661, 0, 88, 0, 4, 0, 0, 0], 1⟩
theorem p5_20 : preOk 5 s3_5 z5_20 := fun s0 s1 => by kernel_rfl
theorem t5_20 : ∀ s0 s1 t6 t13 t14 t15 t17 t18 : Sl, tailB 5 945 s3_5 z5_20 s0 s1 t6 t13 t14 t15 t17 t18 = true := fun s0 s1 t6 t13 t14 t15 t17 t18 => by kernel_rfl
theorem d5_20 : sidesB 5 z5_20 = true := by decide +kernel
theorem w5_20 : sweepB 5 z5_20 = true := by decide +kernel
def z5_21 : Cs := ⟨[4, 3, 3], [1, 2, 3, 0, 5, 6, 4, 8, 9, 7], [0, 0, 0, 0, 4, 4, 4, 7, 7, 7], [0, 0, 471, 0, 450, 0, 24, 0, 0, 0, 0], 3⟩
theorem p5_21 : preOk 5 s3_5 z5_21 := fun s0 s1 => by kernel_rfl
theorem t5_21 : ∀ s0 s1 t6 t13 t14 t15 t17 t18 : Sl, tailB 5 945 s3_5 z5_21 s0 s1 t6 t13 t14 t15 t17 t18 = true := fun s0 s1 t6 t13 t14 t15 t17 t18 => by kernel_rfl
theorem d5_21 : sidesB 5 z5_21 = true := by decide +kernel
theorem w5_21 : sweepB 5 z5_21 = true := by decide +kernel
def z5_22 : Cs := ⟨[4, 3, 2, 1], [1, 2, 3, 0, 5, 6, 4, 8, 7, 9], [0, 0, 0, 0, 4, 4, 4, 7, 7, 9], [0, 192, 0, 624, 0, 123, 0, 6, 0, 0, 0], 1⟩
theorem p5_22 : preOk 5 s3_5 z5_22 := fun s0 s1 => by kernel_rfl
theorem t5_22 : ∀ s0 s1 t6 t13 t14 t15 t17 t18 : Sl, tailB 5 945 s3_5 z5_22 s0 s1 t6 t13 t14 t15 t17 t18 = true := fun s0 s1 t6 t13 t14 t15 t17 t18 => by kernel_rfl
theorem d5_22 : sidesB 5 z5_22 = true := by decide +kernel
theorem w5_22 : sweepB 5 z5_22 = true := by decide +kernel
def z5_23 : Cs := ⟨[4, 3, 1, 1, 1], [1, 2, 3, 0, 5, 6, 4, 7, 8, 9], [0, 0, 0, 0, 4, 4, 4, 7, 8, 9], [0, 0, 582, 0, 345, 0, 18, 0, 0, 0, 0], 1⟩
theorem p5_23 : preOk 5 s3_5 z5_23 := fun s0 s1 => by kernel_rfl
theorem t5_23 : ∀ s0 s1 t6 t13 t14 t15 t17 t18 : Sl, tailB 5 945 s3_5 z5_23 s0 s1 t6 t13 t14 t15 t17 t18 = true := fun s0 s1 t6 t13 t14 t15 t17 t18 => by kernel_rfl
theorem d5_23 : sidesB 5 z5_23 = true := by decide +kernel
theorem w5_23 : sweepB 5 z5_23 = true := by decide +kernel
def z5_24 : Cs := ⟨[4, 2, 2, 2], [1, 2, 3, 0, 5, 4, 7, 6, 9, 8], [0, 0, 0, 0, 4, 4, 6, 6, 8, 8], [0, 192, 0, 488, 0, 226, 0, 37, 0, 2, 0], 2⟩
theorem p5_24 : preOk 5 s3_5 z5_24 := fun s0 s1 => by kernel_rfl
theorem t5_24 : ∀ s0 s1 t6 t13 t14 t15 t17 t18 : Sl, tailB 5 945 s3_5 z5_24 s0 s1 t6 t13 t14 t15 t17 t18 = true := fun s0 s1 t6 t13 t14 t15 t17 t18 => by kernel_rfl
theorem d5_24 : sidesB 5 z5_24 = true := by decide +kernel
theorem w5_24 : sweepB 5 z5_24 = true := by decide +kernel
def z5_25 : Cs := ⟨[4, 2, 2, 1, 1], [1, 2, 3, 0, 5, 4, 7, 6, 8, 9], [0, 0, 0, 0, 4, 4, 6, 6, 8, 9], [0, 0, 624, 0, 278, 0, 41, 0, 2, 0, 0], 1⟩
theorem p5_25 : preOk 5 s3_5 z5_25 := fun s0 s1 => by kernel_rfl
theorem t5_25 : ∀ s0 s1 t6 t13 t14 t15 t17 t18 : Sl, tailB 5 945 s3_5 z5_25 s0 s1 t6 t13 t14 t15 t17 t18 = true := fun s0 s1 t6 t13 t14 t15 t17 t18 => by kernel_rfl
theorem d5_25 : sidesB 5 z5_25 = true := by decide +kernel
theorem w5_25 : sweepB 5 z5_25 = true := by decide +kernel
def z5_26 : Cs := ⟨[4, 2, 1, 1, 1, 1], [1, 2, 3, 0, 5, 4, 6, 7, 8, 9], [0, 0, 0, 0, 4, 4, 6, 7, 8, 9], [0, 192, 0, 624, 0, 123, 0, 6, 0, 0, 0], 1⟩
theorem p5_26 : preOk 5 s3_5 z5_26 := fun s0 s1 => by kernel_rfl
theorem t5_26 : ∀ s0 s1 t6 t13 t14 t15 t17 t18 : Sl, tailB 5 945 s3_5 z5_26 s0 s1 t6 t13 t14 t15 t17 t18 = true := fun s0 s1 t6 t13 t14 t15 t17 t18 => by kernel_rfl
theorem d5_26 : sidesB 5 z5_26 = true := by decide +kernel
theorem w5_26 : sweepB 5 z5_26 = true := by decide +kernel
def z5_27 : Cs := ⟨[4, 1, 1, 1, 1, 1, 1], [1, 2, 3, 0, 4, 5, 6, 7, 8, 9], [0, 0, 0, 0, 4, 5, 6, 7, 8, 9], [0, 0, 360, 0, 555, 0, 30, 0, 0, 0, 0], 1⟩
theorem p5_27 : preOk 5 s3_5 z5_27 := fun s0 s1 => by kernel_rfl
theorem t5_27 : ∀ s0 s1 t6 t13 t14 t15 t17 t18 : Sl, tailB 5 945 s3_5 z5_27 s0 s1 t6 t13 t14 t15 t17 t18 = true := fun s0 s1 t6 t13 t14 t15 t17 t18 => by kernel_rfl
theorem d5_27 : sidesB 5 z5_27 = true := by decide +kernel
theorem w5_27 : sweepB 5 z5_27 = true := by decide +kernel
def z5_28 : Cs := ⟨[3, 3, 3, 1], [1, 2, 0, 4, 5, 3, 7, 8, 6, 9], [0, 0, 0, 3, 3, 3, 6, 6, 6, 9], [0, 162, 0, 675, 0, 108, 0, 0, 0, 0, 0], 1⟩
theorem p5_28 : preOk 5 s3_5 z5_28 := fun s0 s1 => by kernel_rfl
theorem t5_28 : ∀ s0 s1 t6 t13 t14 t15 t17 t18 : Sl, tailB 5 945 s3_5 z5_28 s0 s1 t6 t13 t14 t15 t17 t18 = true := fun s0 s1 t6 t13 t14 t15 t17 t18 => by kernel_rfl
theorem d5_28 : sidesB 5 z5_28 = true := by decide +kernel
theorem w5_28 : sweepB 5 z5_28 = true := by decide +kernel
def z5_29 : Cs := ⟨[3, 3, 2, 2], [1, 2, 0, 4, 5, 3, 7, 6, 9, 8], [0, 0, 0, 3, 3, 3, 6, 6, 8, 8], [0, 144, 0, 618, 0, 171, 0, 12, 0, 0, 0], 2⟩
theorem p5_29 : preOk 5 s3_5 z5_29 := fun s0 s1 => by kernel_rfl
theorem t5_29 : ∀ s0 s1 t6 t13 t14 t15 t17 t18 : Sl, tailB 5 945 s3_5 z5_29 s0 s1 t6 t13 t14 t15 t17 t18 = true := fun s0 s1 t6 t13 t14 t15 t17 t18 => by kernel_rfl
theorem d5_29 : sidesB 5 z5_29 = true := by decide +kernel
theorem w5_29 : sweepB 5 z5_29 = true := by decide +kernel
def z5_30 : Cs := ⟨[3, 3, 2, 1, 1], [1, 2, 0, 4, 5, 3, 7, 6, 8, 9], [0, 0, 0, 3, 3, 3, 6, 6, 8, 9], [0, 0, 600, 0, 315, 0, 30, 0, 0, 0, 0], 1⟩
theorem p5_30 : preOk 5 s3_5 z5_30 := fun s0 s1 => by kernel_rfl
theorem t5_30 : ∀ s0 s1 t6 t13 t14 t15 t17 t18 : Sl, tailB 5 945 s3_5 z5_30 s0 s1 t6 t13 t14 t15 t17 t18 = true := fun s0 s1 t6 t13 t14 t15 t17 t18 => by kernel_rfl
theorem d5_30 : sidesB 5 z5_30 = true := by decide +kernel
theorem w5_30 : sweepB 5 z5_30 = true := by decide +kernel
def z5_31 : Cs := ⟨[3, 3, 1, 1, 1, 1], [1, 2, 0, 4, 5, 3, 6, 7, 8, 9], [0, 0, 0, 3, 3, 3, 6, 7, 8, 9], [0, 216, 0, 585, 0, 144, 0, 0, 0, 0, 0], 1⟩
theorem p5_31 : preOk 5 s3_5 z5_31 := fun s0 s1 => by kernel_rfl
theorem t5_31 : ∀ s0 s1 t6 t13 t14 t15 t17 t18 : Sl, tailB 5 945 s3_5 z5_31 s0 s1 t6 t13 t14 t15 t17 t18 = true := fun s0 s1 t6 t13 t14 t15 t17 t18 => by kernel_rfl
theorem d5_31 : sidesB 5 z5_31 = true := by decide +kernel
theorem w5_31 : sweepB 5 z5_31 = true := by decide +kernel
def z5_32 : Cs := ⟨[3, 2, 2, 2, 1], [1, 2, 0, 4, 3, 6, 5, 8, 7, 9], [0, 0, 0, 3, 3, 5, 5, 7, 7, 9], [0, 0, 576, 0, 312, 0, 54, 0, 3, 0, 0], 1⟩
theorem p5_32 : preOk 5 s3_5 z5_32 := fun s0 s1 => by kernel_rfl
theorem t5_32 : ∀ s0 s1 t6 t13 t14 t15 t17 t18 : Sl, tailB 5 945 s3_5 z5_32 s0 s1 t6 t13 t14 t15 t17 t18 = true := fun s0 s1 t6 t13 t14 t15 t17 t18 => by kernel_rfl
theorem d5_32 : sidesB 5 z5_32 = true := by decide +kernel
theorem w5_32 : sweepB 5 z5_32 = true := by decide +kernel
def z5_33 : Cs := ⟨[3, 2, 2, 1, 1, 1], [1, 2, 0, 4, 3, 6, 5, 7, 8, 9], [0, 0, 0, 3, 3, 5, 5, 7, 8, 9], [0, 288, 0, 516, 0, 132, 0, 9, 0, 0, 0], 1⟩
theorem p5_33 : preOk 5 s3_5 z5_33 := fun s0 s1 => by kernel_rfl
theorem t5_33 : ∀ s0 s1 t6 t13 t14 t15 t17 t18 : Sl, tailB 5 945 s3_5 z5_33 s0 s1 t6 t13 t14 t15 t17 t18 = true := fun s0 s1 t6 t13 t14 t15 t17 t18 => by kernel_rfl
theorem d5_33 : sidesB 5 z5_33 = true := by decide +kernel
theorem w5_33 : sweepB 5 z5_33 = true := by decide +kernel
def z5_34 : Cs := ⟨[3, 2, 1, 1, 1, 1, 1], [1, 2, 0, 4, 3, 5, 6, 7, 8, 9], [0, 0, 0, 3, 3, 5, 6, 7, 8, 9], [0, 0, 480, 0, 420, 0, 45, 0, 0, 0, 0], 1⟩
theorem p5_34 : preOk 5 s3_5 z5_34 := fun s0 s1 => by kernel_rfl
theorem t5_34 : ∀ s0 s1 t6 t13 t14 t15 t17 t18 : Sl, tailB 5 945 s3_5 z5_34 s0 s1 t6 t13 t14 t15 t17 t18 = true := fun s0 s1 t6 t13 t14 t15 t17 t18 => by kernel_rfl
theorem d5_34 : sidesB 5 z5_34 = true := by decide +kernel
theorem w5_34 : sweepB 5 z5_34 = true := by decide +kernel
def z5_35 : Cs := ⟨[3, 1, 1, 1, 1, 1, 1, 1], [1, 2, 0, 3, 4, 5, 6, 7, 8, 9], [0, 0, 0, 3, 4, 5, 6, 7, 8, 9], [0, 0, 0, 630, 0, 315, 0, 0, 0, 0, 0], 1⟩
theorem p5_35 : preOk 5 s3_5 z5_35 := fun s0 s1 => by kernel_rfl
theorem t5_35 : ∀ s0 s1 t6 t13 t14 t15 t17 t18 : Sl, tailB 5 945 s3_5 z5_35 s0 s1 t6 t13 t14 t15 t17 t18 = true := fun s0 s1 t6 t13 t14 t15 t17 t18 => by kernel_rfl
theorem d5_35 : sidesB 5 z5_35 = true := by decide +kernel
theorem w5_35 : sweepB 5 z5_35 = true := by decide +kernel
def z5_36 : Cs := ⟨[2, 2, 2, 2, 2], [1, 0, 3, 2, 5, 4, 7, 6, 9, 8], [0, 0, 2, 2, 4, 4, 6, 6, 8, 8], [0, 0, 384, 0, 400, 0, 140, 0, 20, 0, 1], 2⟩
theorem p5_36 : preOk 5 s3_5 z5_36 := fun s0 s1 => by kernel_rfl
theorem t5_36 : ∀ s0 s1 t6 t13 t14 t15 t17 t18 : Sl, tailB 5 945 s3_5 z5_36 s0 s1 t6 t13 t14 t15 t17 t18 = true := fun s0 s1 t6 t13 t14 t15 t17 t18 => by kernel_rfl
theorem d5_36 : sidesB 5 z5_36 = true := by decide +kernel
theorem w5_36 : sweepB 5 z5_36 = true := by decide +kernel
def z5_37 : Cs := ⟨[2, 2, 2, 2, 1, 1], [1, 0, 3, 2, 5, 4, 7, 6, 8, 9], [0, 0, 2, 2, 4, 4, 6, 6, 8, 9], [0, 384, 0, 400, 0, 140, 0, 20, 0, 1, 0], 1⟩
theorem p5_37 : preOk 5 s3_5 z5_37 := fun s0 s1 => by kernel_rfl
theorem t5_37 : ∀ s0 s1 t6 t13 t14 t15 t17 t18 : Sl, tailB 5 945 s3_5 z5_37 s0 s1 t6 t13 t14 t15 t17 t18 = true := fun s0 s1 t6 t13 t14 t15 t17 t18 => by kernel_rfl
theorem d5_37 : sidesB 5 z5_37 = true := by decide +kernel
theorem w5_37 : sweepB 5 z5_37 = true := by decide +kernel
def z5_38 : Cs := ⟨[2, 2, 2, 1, 1, 1, 1], [1, 0, 3, 2, 5, 4, 6, 7, 8, 9], [0, 0, 2, 2, 4, 4, 6, 7, 8, 9], [0, 0, 576, 0, 312, 0, 54, 0, 3, 0, 0], 1⟩
theorem p5_38 : preOk 5 s3_5 z5_38 := fun s0 s1 => by kernel_rfl
theorem t5_38 : ∀ s0 s1 t6 t13 t14 t15 t17 t18 : Sl, tailB 5 945 s3_5 z5_38 s0 s1 t6 t13 t14 t15 t17 t18 = true := fun s0 s1 t6 t13 t14 t15 t17 t18 => by kernel_rfl
theorem d5_38 : sidesB 5 z5_38 = true := by decide +kernel
theorem w5_38 : sweepB 5 z5_38 = true := by decide +kernel
def z5_39 : Cs := ⟨[2, 2, 1, 1, 1, 1, 1, 1], [1, 0, 3, 2, 4, 5, 6, 7, 8, 9], [0, 0, 2, 2, 4, 5, 6, 7, 8, 9], [0, 0, 0, 720, 0, 210, 0, 15, 0, 0, 0], 1⟩
theorem p5_39 : preOk 5 s3_5 z5_39 := fun s0 s1 => by kernel_rfl
theorem t5_39 : ∀ s0 s1 t6 t13 t14 t15 t17 t18 : Sl, tailB 5 945 s3_5 z5_39 s0 s1 t6 t13 t14 t15 t17 t18 = true := fun s0 s1 t6 t13 t14 t15 t17 t18 => by kernel_rfl
theorem d5_39 : sidesB 5 z5_39 = true := by decide +kernel
theorem w5_39 : sweepB 5 z5_39 = true := by decide +kernel
def z5_40 : Cs := ⟨[2, 1, 1, 1, 1, 1, 1, 1, 1], [1, 0, 2, 3, 4, 5, 6, 7, 8, 9], [0, 0, 2, 3, 4, 5, 6, 7, 8, 9], [0, 0, 0, 0, 840, 0, 105, 0, 0, 0, 0], 1⟩
theorem p5_40 : preOk 5 s3_5 z5_40 := fun s0 s1 => by kernel_rfl
theorem t5_40 : ∀ s0 s1 t6 t13 t14 t15 t17 t18 : Sl, tailB 5 945 s3_5 z5_40 s0 s1 t6 t13 t14 t15 t17 t18 = true := fun s0 s1 t6 t13 t14 t15 t17 t18 => by kernel_rfl
theorem d5_40 : sidesB 5 z5_40 = true := by decide +kernel
theorem w5_40 : sweepB 5 z5_40 = true := by decide +kernel
def z5_41 : Cs := ⟨[1, 1, 1, 1, 1, 1, 1, 1, 1, 1], [0, 1, 2, 3, 4, 5, 6, 7, 8, 9], [0, 1, 2, 3, 4, 5, 6, 7, 8, 9], [0, 0, 0, 0, 0, 945, 0, 0, 0, 0, 0], 1⟩
theorem p5_41 : preOk 5 s3_5 z5_41 := fun s0 s1 => by kernel_rfl
theorem t5_41 : ∀ s0 s1 t6 t13 t14 t15 t17 t18 : Sl, tailB 5 945 s3_5 z5_41 s0 s1 t6 t13 t14 t15 t17 t18 = true := fun s0 s1 t6 t13 t14 t15 t17 t18 => by kernel_rfl
theorem d5_41 : sidesB 5 z5_41 = true := by decide +kernel
theorem w5_41 : sweepB 5 z5_41 = true := by decide +kernel
theorem len_5 : (PS 5).length = 945 := by decide +kernel
theorem all_5 (s0 s1 : Sl) : ∀ v : Nat, v < rows_5.length → fin false (ex T K39 (.cons ls5 (.cons ls6 (.cons ls7 (.cons ls8 (.cons ls9 (.cons ls10 TL)))))) (E0 s0 s1 5 s3_5 (rows_5.getD v []))) = .ok false (.bl true) .n
  | 0, _ => case_run 5 s3_5 z5_0 s0 s1 (by decide) (by decide) 945 len_5 cov_5 c24_5 c11_5 p5_0 d5_0 w5_0 t5_0
  | 1, _ => case_run 5 s3_5 z5_1 s0 s1 (by decide) (by decide) 945 len_5 cov_5 c24_5 c11_5 p5_1 d5_1 w5_1 t5_1
  | 2, _ => case_run 5 s3_5 z5_2 s0 s1 (by decide) (by decide) 945 len_5 cov_5 c24_5 c11_5 p5_2 d5_2 w5_2 t5_2
  | 3, _ => case_run 5 s3_5 z5_3 s0 s1 (by decide) (by decide) 945 len_5 cov_5 c24_5 c11_5 p5_3 d5_3 w5_3 t5_3
  | 4, _ => case_run 5 s3_5 z5_4 s0 s1 (by decide) (by decide) 945 len_5 cov_5 c24_5 c11_5 p5_4 d5_4 w5_4 t5_4
  | 5, _ => case_run 5 s3_5 z5_5 s0 s1 (by decide) (by decide) 945 len_5 cov_5 c24_5 c11_5 p5_5 d5_5 w5_5 t5_5
  | 6, _ => case_run 5 s3_5 z5_6 s0 s1 (by decide) (by decide) 945 len_5 cov_5 c24_5 c11_5 p5_6 d5_6 w5_6 t5_6
  | 7, _ => case_run 5 s3_5 z5_7 s0 s1 (by decide) (by decide) 945 len_5 cov_5 c24_5 c11_5 p5_7 d5_7 w5_7 t5_7
  | 8, _ => case_run 5 s3_5 z5_8 s0 s1 (by decide) (by decide) 945 len_5 cov_5 c24_5 c11_5 p5_8 d5_8 w5_8 t5_8
  | 9, _ => case_run 5 s3_5 z5_9 s0 s1 (by decide) (by decide) 945 len_5 cov_5 c24_5 c11_5 p5_9 d5_9 w5_9 t5_9
  | 10, _ => case_run 5 s3_5 z5_10 s0 s1 (by decide) (by decide) 945 len_5 cov_5 c24_5 c11_5 p5_10 d5_10 w5_10 t5_10
  | 11, _ => case_run 5 s3_5 z5_11 s0 s1 (by decide) (by decide) 945 len_5 cov_5 c24_5 c11_5 p5_11 d5_11 w5_11 t5_11
  | 12, _ => case_run 5 s3_5 z5_12 s0 s1 (by decide) (by decide) 945 len_5 cov_5 c24_5 c11_5 p5_12 d5_12 w5_12 t5_12
  | 13, _ => case_run 5 s3_5 z5_13 s0 s1 (by decide) (by decide) 945 len_5 cov_5 c24_5 c11_5 p5_13 d5_13 w5_13 t5_13
  | 14, _ => case_run 5 s3_5 z5_14 s0 s1 (by decide) (by decide) 945 len_5 cov_5 c24_5 c11_5 p5_14 d5_14 w5_14 t5_14
  | 15, _ => case_run 5 s3_5 z5_15 s0 s1 (by decide) (by decide) 945 len_5 cov_5 c24_5 c11_5 p5_15 d5_15 w5_15 t5_15
  | 16, _ => case_run 5 s3_5 z5_16 s0 s1 (by decide) (by decide) 945 len_5 cov_5 c24_5 c11_5 p5_16 d5_16 w5_16 t5_16
  | 17, _ => case_run 5 s3_5 z5_17 s0 s1 (by decide) (by decide) 945 len_5 cov_5 c24_5 c11_5 p5_17 d5_17 w5_17 t5_17
  | 18, _ => case_run 5 s3_5 z5_18 s0 s1 (by decide) (by decide) 945 len_5 cov_5 c24_5 c11_5 p5_18 d5_18 w5_18 t5_18
  | 19, _ => case_run 5 s3_5 z5_19 s0 s1 (by decide) (by decide) 945 len_5 cov_5 c24_5 c11_5 p5_19 d5_19 w5_19 t5_19
  | 20, _ => case_run 5 s3_5 z5_20 s0 s1 (by decide) (by decide) 945 len_5 cov_5 c24_5 c11_5 p5_20 d5_20 w5_20 t5_20
  | 21, _ => case_run 5 s3_5 z5_21 s0 s1 (by decide) (by decide) 945 len_5 cov_5 c24_5 c11_5 p5_21 d5_21 w5_21 t5_21
  | 22, _ => case_run 5 s3_5 z5_22 s0 s1 (by decide) (by decide) 945 len_5 cov_5 c24_5 c11_5 p5_22 d5_22 w5_22 t5_22
  | 23, _ => case_run 5 s3_5 z5_23 s0 s1 (by decide) (by decide) 945 len_5 cov_5 c24_5 c11_5 p5_23 d5_23 w5_23 t5_23
  | 24, _ => case_run 5 s3_5 z5_24 s0 s1 (by decide) (by decide) 945 len_5 cov_5 c24_5 c11_5 p5_24 d5_24 w5_24 t5_24
  | 25, _ => case_run 5 s3_5 z5_25 s0 s1 (by decide) (by decide) 945 len_5 cov_5 c24_5 c11_5 p5_25 d5_25 w5_25 t5_25
  | 26, _ => case_run 5 s3_5 z5_26 s0 s1 (by decide) (by decide) 945 len_5 cov_5 c24_5 c11_5 p5_26 d5_26 w5_26 t5_26
  | 27, _ => case_run 5 s3_5 z5_27 s0 s1 (by decide) (by decide) 945 len_5 cov_5 c24_5 c11_5 p5_27 d5_27 w5_27 t5_27
  | 28, _ => case_run 5 s3_5 z5_28 s0 s1 (by decide) (by decide) 945 len_5 cov_5 c24_5 c11_5 p5_28 d5_28 w5_28 t5_28
  | 29, _ => case_run 5 s3_5 z5_29 s0 s1 (by decide) (by decide) 945 len_5 cov_5 c24_5 c11_5 p5_29 d5_29 w5_29 t5_29
  | 30, _ => case_run 5 s3_5 z5_30 s0 s1 (by decide) (by decide) 945 len_5 cov_5 c24_5 c11_5 p5_30 d5_30 w5_30 t5_30
  | 31, _ => case_run 5 s3_5 z5_31 s0 s1 (by decide) (by decide) 945 len_5 cov_5 c24_5 c11_5 p5_31 d5_31 w5_31 t5_31
  | 32, _ => case_run 5 s3_5 z5_32 s0 s1 (by decide) (by decide) 945 len_5 cov_5 c24_5 c11_5 p5_32 d5_32 w5_32 t5_32
  | 33, _ => case_run 5 s3_5 z5_33 s0 s1 (by decide) (by decide) 945 len_5 cov_5 c24_5 c11_5 p5_33 d5_33 w5_33 t5_33
  | 34, _ => case_run 5 s3_5 z5_34 s0 s1 (by decide) (by decide) 945 len_5 cov_5 c24_5 c11_5 p5_34 d5_34 w5_34 t5_34
  | 35, _ => case_run 5 s3_5 z5_35 s0 s1 (by decide) (by decide) 945 len_5 cov_5 c24_5 c11_5 p5_35 d5_35 w5_35 t5_35
  | 36, _ => case_run 5 s3_5 z5_36 s0 s1 (by decide) (by decide) 945 len_5 cov_5 c24_5 c11_5 p5_36 d5_36 w5_36 t5_36
  | 37, _ => case_run 5 s3_5 z5_37 s0 s1 (by decide) (by decide) 945 len_5 cov_5 c24_5 c11_5 p5_37 d5_37 w5_37 t5_37
  | 38, _ => case_run 5 s3_5 z5_38 s0 s1 (by decide) (by decide) 945 len_5 cov_5 c24_5 c11_5 p5_38 d5_38 w5_38 t5_38
  | 39, _ => case_run 5 s3_5 z5_39 s0 s1 (by decide) (by decide) 945 len_5 cov_5 c24_5 c11_5 p5_39 d5_39 w5_39 t5_39
  | 40, _ => case_run 5 s3_5 z5_40 s0 s1 (by decide) (by decide) 945 len_5 cov_5 c24_5 c11_5 p5_40 d5_40 w5_40 t5_40
  | 41, _ => case_run 5 s3_5 z5_41 s0 s1 (by decide) (by decide) 945 len_5 cov_5 c24_5 c11_5 p5_41 d5_41 w5_41 t5_41
  | v + 42, h => absurd h (by show ¬ (v + 42 < 42); omega)
end K26
end

section
set_option linter.all false
set_option autoImplicit false
set_option maxRecDepth 1000000
set_option Elab.async false
namespace K26
open Iv Iv.L26
def E1 (w : W) (s1 s2 s3 s4 : Sl) : En := [.v w, s1, s2, s3, s4, .n, .n, .n, .n, .n, .n, .n, .n, .n, .n, .n, .n, .n, .n, .n, .n, .n, .n]
section
variable (K : Nat → List Sl → RF)
theorem g1 (w z : W) (h : K 17 [.v w] = .ok true z .n) : ex T K ls1 (E1 w .n .n .n .n) = .ok .next (E1 w (.o z) .n .n .n) := by
  unfold ls1
  rw [ex_asg, ev_call]
  show resE (landed (K 17 [.v w]) _) _ = _
  rw [h]; rfl
theorem g2 (w z z' : W) (v : Nat) (h : K 18 [.p z, .v (I 6)] = .ok false (I v) (.p z')) : ex T K ls2 (E1 w (.o z) .n .n .n) = .ok .next (E1 w (.o z') (.v (I v)) .n .n) := by
  show resE (landedIo (K 18 [.p z, .v (I 6)]) 1 (E1 w (.o z) .n .n .n)) _ = _
  rw [h]; rfl
theorem g3 (w : W) (s1 : Sl) (n : Nat) (rows : List (List Nat)) (h : K 4 [.v (.int ((2 * n : Nat) : Int))] = .ok false (.tup (rows.map TI)) .n) : ex T K ls3 (E1 w s1 (.v (I n)) .n .n) = .ok .next (E1 w s1 (.v (I n)) (.v (.tup (rows.map TI))) .n) := by
  have a : ev T K (.cons (.bin .mul (.k (.int 2)) (.v 2)) .nil) (E1 w s1 (.v (I n)) .n .n) = .ok (.l [.w (.int ((2 * n : Nat) : Int))]) (E1 w s1 (.v (I n)) .n .n) := by
    rw [ev_cons, two_n T K n _ rfl]; rfl
  unfold ls3
  rw [ex_asg, ev_call, a]
  show resE (landed (K 4 [.v (.int ((2 * n : Nat) : Int))]) _) _ = _
  rw [h]; rfl
theorem g4 (w z z' : W) (n v : Nat) (rows : List (List Nat)) (h : K 18 [.p z, .v (I rows.length)] = .ok false (I v) (.p z')) (hv : v < rows.length) : ex T K ls4 (E1 w (.o z) (.v (I n)) (.v (.tup (rows.map TI))) .n) = .ok .next (E0 (.v w) (.o z') n (.v (.tup (rows.map TI))) (rows.getD v [])) := by
  generalize he : (fun z s4 => E1 w (.o z) (.v (I n)) (.v (.tup (rows.map TI))) s4) = en
  have he' : ∀ z s4, E1 w (.o z) (.v (I n)) (.v (.tup (rows.map TI))) s4 = en z s4 := fun z s4 => by rw [← he]
  rw [he']
  have e0 : b1W .len (.tup (rows.map TI)) = some (.w (I rows.length)) := by
    show some (R1.w (W.int ((rows.map TI).length : Int))) = _
    rw [List.length_map]; rfl
  have a0 : ev T K (.v 3) (en z .n) = .ok (.w (.tup (rows.map TI))) (en z .n) := by subst he; rfl
  have a1 : ev T K (.b1 .len (.v 3)) (en z .n) = .ok (.w (I rows.length)) (en z .n) := by
    rw [ev_b1, a0, un1_w, e0, ofO_some]
  have a2 : ev T K (.cons (.b1 .len (.v 3)) .nil) (en z .n) = .ok (.l [.w (I rows.length)]) (en z .n) := by
    rw [ev_cons, a1]; rfl
  have a3 : ev T K (.callIo 18 1 (.cons (.b1 .len (.v 3)) .nil)) (en z .n) = .ok (.w (I v)) (en z' .n) := by
    have m : ev T K (.callIo 18 1 (.cons (.b1 .len (.v 3)) .nil)) (en z .n) = argsE (ev T K (.cons (.b1 .len (.v 3)) .nil) (en z .n)) (ioE K 18 1) := by
      show hasE 1 (en z .n) _ = _
      generalize argsE (ev T K (.cons (.b1 .len (.v 3)) .nil) (en z .n)) (ioE K 18 1) = r
      subst he; rfl
    rw [m, a2]
    have m2 : argsE (.ok (.l [.w (I rows.length)]) (en z .n)) (ioE K 18 1) = landedIo (K 18 [.p z, .v (I rows.length)]) 1 (en z .n) := by subst he; rfl
    rw [m2, h]
    subst he; rfl
  have a4 : ev T K (.ix (.v 3) (.callIo 18 1 (.cons (.b1 .len (.v 3)) .nil))) (en z .n) = .ok (.w (TI (rows.getD v []))) (en z' .n) := by
    show un2 _ (ev T K (.v 3) (en z .n)) (ev T K (.callIo 18 1 (.cons (.b1 .len (.v 3)) .nil))) = _
    rw [a0, un2_ww a3]
    have : ixW (.tup (rows.map TI)) (I v) = some (TI (rows.getD v [])) := by
      show atL (rows.map TI) (v : Int) = _
      rw [atL_nat' _ (by rw [List.length_map]; exact hv), List.getElem?_map, List.getD_eq_getElem?_getD, List.getElem?_eq_getElem hv]; rfl
    rw [this]; rfl
  unfold ls4
  rw [ex_asg, a4, resE_ok]
  subst he
  rfl
end
theorem zero_rest (s0 s1 : Sl) : exC (ω := Bool) T (run T P 39) (runC T P 39) (.cons ls5 (.cons ls6 (.cons ls7 (.cons ls8 (.cons ls9 (.cons ls10 TL)))))) (E0 s0 s1 0 (.v (.tup ([[]].map TI))) []) (fun f e1 => tRet (.ok f e1)) (fun q e1 => tRet (.exn q e1)) (tRet .err) = true := by kernel_rfl
theorem e4_0 : runG (ω := Bool) (CP (ω := Bool)) 39 4 [.v (.int 0)] (fun fr w s => rfTs false [[]] (.ok fr w s)) (fun q s => rfTs false [[]] (.exn q s)) (rfTs false [[]] .err) = true := by decide +kernel
theorem c4_0 : run T K26.P 39 4 [.v (.int 0)] = .ok false (.tup ([[]].map TI)) .n := rfTs_ok (runG26 (rfTs false [[]]) _ _ _ e4_0)
def REST : S := .cons ls5 (.cons ls6 (.cons ls7 (.cons ls8 (.cons ls9 (.cons ls10 TL)))))
def rowsOf : Nat → List (List Nat)
  | 0 => [[]] | 1 => rows_1 | 2 => rows_2 | 3 => rows_3 | 4 => rows_4 | _ => rows_5
theorem rows_pos : ∀ n, n < 6 → 0 < (rowsOf n).length ∧ (rowsOf n).length < 1000
  | 0, _ => by decide
  | 1, _ => by decide
  | 2, _ => by decide
  | 3, _ => by decide
  | 4, _ => by decide
  | 5, _ => by decide
  | n + 6, h => absurd h (by omega)
theorem c4_all : ∀ n, n < 6 → K39 4 [.v (.int ((2 * n : Nat) : Int))] = .ok false (.tup ((rowsOf n).map TI)) .n
  | 0, _ => c4_0
  | 1, _ => c4_1
  | 2, _ => c4_2
  | 3, _ => c4_3
  | 4, _ => c4_4
  | 5, _ => c4_5
  | n + 6, h => absurd h (by omega)
theorem rest_all (s0 s1 : Sl) : ∀ n, n < 6 → ∀ v, v < (rowsOf n).length → fin false (ex T K39 REST (E0 s0 s1 n (.v (.tup ((rowsOf n).map TI))) ((rowsOf n).getD v []))) = .ok false (.bl true) .n
  | 0, _, 0, _ => tRet_ok ((ex_test T P 39 REST _ tRet).trans (zero_rest s0 s1))
  | 0, _, v + 1, h => absurd h (by show ¬ (v + 1 < 1); omega)
  | 1, _, v, h => all_1 s0 s1 v h
  | 2, _, v, h => all_2 s0 s1 v h
  | 3, _, v, h => all_3 s0 s1 v h
  | 4, _, v, h => all_4 s0 s1 v h
  | 5, _, v, h => all_5 s0 s1 v h
  | n + 6, h, _, _ => absurd h (by omega)
theorem take_all (a b : Int) (m : Nat) (ha : 0 ≤ a) (hb : 0 ≤ b) (hm : 0 < m) (hm2 : m < 1000000) : ∃ (v : Nat) (a' b' : Int), v < m ∧ 0 ≤ a' ∧ 0 ≤ b' ∧ K39 18 [.p (Dr.St a b), .v (I m)] = .ok false (I v) (.p (Dr.St a' b')) := by
  obtain ⟨v, a', b', h1, h2, h3, h4⟩ := Dr.take_run T K38 a b m ha hb hm hm2
  exact ⟨v, a', b', h1, h2, h3, (runS (n := 38) (d := f_law_take) rfl rfl).trans h4⟩
theorem run_all (ns : List Int) (hl : ns.length ≤ 63) : ∃ s0, run T P 40 25 [.v (.scr (ns.map .int))] = .ok false (.bl true) s0 := by
  obtain ⟨a, b, ha, hb, hs⟩ := Dr.state_run T K38 ns hl
  have h17 : K39 17 [.v (.scr (ns.map .int))] = .ok true (Dr.St a b) .n := (runS (n := 38) (d := f_law_state) rfl rfl).trans hs
  obtain ⟨n, a1, b1, hn, ha1, hb1, ht⟩ := take_all a b 6 ha hb (by omega) (by omega)
  have rp := rows_pos n hn
  obtain ⟨v, a2, b2, hv, ha2, hb2, ht2⟩ := take_all a1 b1 (rowsOf n).length ha1 hb1 rp.1 (by omega)
  refine ⟨.n, (runS (n := 39) (d := f_law) rfl rfl).trans ?_⟩
  have x1 := g1 K39 (.scr (ns.map .int)) (Dr.St a b) h17
  have x2 := g2 K39 (.scr (ns.map .int)) (Dr.St a b) (Dr.St a1 b1) n ht
  have x3 := g3 K39 (.scr (ns.map .int)) (.o (Dr.St a1 b1)) n (rowsOf n) (c4_all n hn)
  have x4 := g4 K39 (.scr (ns.map .int)) (Dr.St a1 b1) (Dr.St a2 b2) n v (rowsOf n) ht2 hv
  have r := rest_all (.v (.scr (ns.map .int))) (.o (Dr.St a2 b2)) n hn v hv
  rw [ls_body]
  show fin false (ex T K39 (.cons ls1 (.cons ls2 (.cons ls3 (.cons ls4 REST)))) (E1 (.scr (ns.map .int)) .n .n .n .n)) = _
  rw [ex_next x1, ex_next x2, ex_next x3, ex_next x4]
  exact r
end K26
end

set_option maxRecDepth 100000 in
set_option maxHeartbeats 0 in
theorem PySem.Challenge.cw_surfaceroads_k26_whole_many_polygons_glu_holds : PySem.Challenge.rw_surfaceroads_k26_whole_many_polygons_glu.Holds :=
  K26.holds_of K26.run_all
