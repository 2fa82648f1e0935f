import PyProof.Rows.All
import Wide.All
import OpenK.AllK
import Wide.FinOn
import HandS.ForMost
import HandS.ForExc
import HandS.ExcCtx
import HandS.Defaults
import HandS.ExcValue
import KE.KExcStr
import HandS.More
import HandS.TupAny
import HandS.Wide
import HandS.Deep
import PyProof.NeKinds
import PyProof.P3Eq
import HandS.TupLe
import HandS.SetIn
import HandS.Text
import HandS.StrMore
import HandS.Dict
import KE.KIntText
import KE.IntTextLaws
import PyProof.Rows.StrOr
import HandS.IsInst
import HandS.RaiseMore
import HandS.WordsDict
import HandS.SortInts
import PyProof.StrLawsRepr
import PyProof.ReprRoads
import HandS.Codes
import HandS.Iter
import HandS.CallSlots
import HandS.HeadEnd
import HandS.Head0
import HandS.Head1
import HandS.Head2
import HandS.HeadHook1
import HandS.HeadHook2
import HandS.HeadHook3
import PySem.Challenge.RW_nearlyalike_k53_whole_plain_data
section

end
section
set_option linter.all false
/-! NlCore: a small core language: values as trees, a store for what changes, an evaluator. Plain Lean, no library. -/
namespace Nl

/-- values: lst, dct, obj stand for objects that nobody changes any more; ref is a place of the store; scr is the script; kon a dict of the module's text -/
inductive Val where
  | non | bl (b : Bool) | int (i : Int) | str (s : List Nat)
  | tup (xs : List Val) | lst (xs : List Val) | dct (ks vs : List Val) | obj (c : Nat) (fs : List Nat) (vs : List Val)
  | ref (a : Nat) | fn (f : Nat)
  | scr (xs : List Int) | kon (ks vs : List Val)
  deriving Inhabited

inductive Ob where
  | lst (xs : List Val) | dct (ks vs : List Val) | ins (c : Nat) (fs : List Nat) (vs : List Val) | gone
  deriving Inhabited

abbrev Store := List Ob
abbrev Env := List (Option Val)

inductive Res (α : Type) where
  | ok (a : α) (st : Store) | exc (c : Nat) (m : List Nat) (st : Store) | stuck

inductive RS where
  | next (env : Env) (st : Store) | ret (v : Val) (st : Store) | brk (env : Env) (st : Store) | cnt (env : Env) (st : Store)
  | exc (c : Nat) (m : List Nat) (env : Env) (st : Store) | stuck

@[inline] def Res.bind {α β : Type} (r : Res α) (f : α → Store → Res β) : Res β :=
  match r with
  | .ok a st => f a st
  | .exc c m st => .exc c m st
  | .stuck => .stuck
@[simp] theorem Res.bind_ok {α β : Type} (a : α) (st : Store) (f : α → Store → Res β) : (Res.ok a st).bind f = f a st := rfl
@[simp] theorem Res.bind_exc {α β : Type} (c m) (st : Store) (f : α → Store → Res β) : (Res.exc c m st : Res α).bind f = .exc c m st := rfl
@[simp] theorem Res.bind_stuck {α β : Type} (f : α → Store → Res β) : (Res.stuck : Res α).bind f = .stuck := rfl
/-- an expression's result handed on to a statement -/
@[inline] def Res.into {α : Type} (r : Res α) (env : Env) (f : α → Store → RS) : RS :=
  match r with
  | .ok a st => f a st
  | .exc c m st => .exc c m env st
  | .stuck => .stuck
@[simp] theorem Res.into_ok {α : Type} (a : α) (st : Store) (env : Env) (f : α → Store → RS) : (Res.ok a st).into env f = f a st := rfl
@[simp] theorem Res.into_exc {α : Type} (c m) (st : Store) (env : Env) (f : α → Store → RS) : (Res.exc c m st : Res α).into env f = .exc c m env st := rfl
@[simp] theorem Res.into_stuck {α : Type} (env : Env) (f : α → Store → RS) : (Res.stuck : Res α).into env f = .stuck := rfl
/-- a statement's result handed on to the rest of its block -/
@[inline] def RS.then (r : RS) (f : Env → Store → RS) : RS :=
  match r with
  | .next env st => f env st
  | o => o
@[simp] theorem RS.then_next (env st) (f : Env → Store → RS) : (RS.next env st).then f = f env st := rfl
@[simp] theorem RS.then_ret (v st) (f : Env → Store → RS) : (RS.ret v st).then f = .ret v st := rfl
@[simp] theorem RS.then_brk (env st) (f : Env → Store → RS) : (RS.brk env st).then f = .brk env st := rfl
@[simp] theorem RS.then_cnt (env st) (f : Env → Store → RS) : (RS.cnt env st).then f = .cnt env st := rfl
@[simp] theorem RS.then_exc (c m env st) (f : Env → Store → RS) : (RS.exc c m env st).then f = .exc c m env st := rfl
@[simp] theorem RS.then_stuck (f : Env → Store → RS) : RS.stuck.then f = .stuck := rfl
@[inline] def Res.opt {α : Type} (o : Option α) (st : Store) : Res α :=
  match o with
  | some a => .ok a st
  | none => .stuck
@[simp] theorem Res.opt_some {α : Type} (a : α) (st : Store) : Res.opt (some a) st = .ok a st := rfl
@[simp] theorem Res.opt_none {α : Type} (st : Store) : (Res.opt none st : Res α) = .stuck := rfl

/-! ### values -/
def line : Nat := 16777216
/-- a list in the store, read as it stands -/
def rd (st : Store) : Val → Val
  | .ref a => match st[a]? with
    | some (.lst xs) => .lst xs
    | some (.dct ks vs) => .dct ks vs
    | _ => .ref a
  | v => v
mutual
/-- no place of the store within -/
def Val.closed : Val → Bool
  | .ref _ => false
  | .tup xs => closedAll xs
  | .lst xs => closedAll xs
  | .dct ks vs => closedAll ks && closedAll vs
  | .obj _ _ vs => closedAll vs
  | .kon _ vs => closedAll vs
  | .non | .bl _ | .int _ | .str _ | .fn _ | .scr _ => true
def closedAll : List Val → Bool
  | [] => true
  | x :: xs => x.closed && closedAll xs
end
mutual
/-- plain data: None, truths, intL, texts, tuples, lists -/
def Val.data : Val → Bool
  | .tup xs => dataAll xs
  | .lst xs => dataAll xs
  | .non | .bl _ | .int _ | .str _ => true
  | .dct _ _ | .obj _ _ _ | .ref _ | .fn _ | .scr _ | .kon _ _ => false
def dataAll : List Val → Bool
  | [] => true
  | x :: xs => x.data && dataAll xs
end
mutual
/-- == of plain data -/
def eqD : Val → Val → Bool
  | .non, .non => true
  | .bl a, .bl b => a == b
  | .bl a, .int j => (if a then 1 else 0) == j
  | .int i, .bl b => i == (if b then 1 else 0)
  | .int i, .int j => i == j
  | .str x, .str y => x == y
  | .lst xs, .lst ys => eqDs xs ys
  | .tup xs, .tup ys => eqDs xs ys
  | _, _ => false
def eqDs : List Val → List Val → Bool
  | [], [] => true
  | x :: xs, y :: ys => eqD x y && eqDs xs ys
  | _, _ => false
end
mutual
def depthV : Val → Nat
  | .lst xs => depthVs xs + 1
  | .tup xs => depthVs xs + 1
  | _ => 0
def depthVs : List Val → Nat
  | [] => 0
  | x :: xs => max (depthV x) (depthVs xs)
end

/-- lists of which one is empty -/
def eqE : Val → Val → Option Bool
  | .lst (_ :: _), .lst [] => some false
  | .lst [], .lst (_ :: _) => some false
  | _, _ => none
/-- == -/
def eqV (x y : Val) : Option Bool := if (x.data && y.data) && (decide (depthV x ≤ 100) || decide (depthV y ≤ 100)) then some (eqD x y) else eqE x y

/-! ### texts -/
def digsF : Nat → Nat → List Nat
  | 0, n => [48 + n % 10]
  | f + 1, n => if n < 10 then [48 + n] else digsF f (n / 10) ++ [48 + n % 10]
def digs (n : Nat) : List Nat := digsF n n
def intStr : Int → List Nat
  | .ofNat n => digs n
  | .negSucc n => 45 :: digs (n + 1)
def isDig (c : Nat) : Bool := decide (48 ≤ c ∧ c ≤ 57)
def natOf (s : List Nat) : Nat := s.foldl (fun a c => a * 10 + (c - 48)) 0
/-- int(text), of digits behind a sign or none -/
def intOf : List Nat → Option Int
  | 45 :: s => if s ≠ [] ∧ s.all isDig ∧ s.length ≤ 4200 then some (-(natOf s : Int)) else none
  | s => if s ≠ [] ∧ s.all isDig ∧ s.length ≤ 4200 then some (natOf s : Int) else none
def joinS (sep : List Nat) : List (List Nat) → List Nat
  | [] => []
  | [x] => x
  | x :: r => x ++ sep ++ joinS sep r
/-- split by one sign -/
def splitC (c : Nat) : List Nat → List (List Nat)
  | [] => [[]]
  | d :: r => if d = c then [] :: splitC c r else match splitC c r with
    | x :: rs => (d :: x) :: rs
    | [] => [[d]]
/-- partition by one sign -/
def partC (c : Nat) : List Nat → List Nat × List Nat × List Nat
  | [] => ([], [], [])
  | d :: r => if d = c then ([], [c], r) else let (a, b, e) := partC c r; (d :: a, b, e)
/-- strip of one sign -/
def stripC (c : Nat) (s : List Nat) : List Nat := ((s.dropWhile (· == c)).reverse.dropWhile (· == c)).reverse
def ltS : List Nat → List Nat → Bool
  | [], [] => false
  | [], _ :: _ => true
  | _ :: _, [] => false
  | a :: x, b :: y => if a < b then true else if b < a then false else ltS x y
def strL : List Val → Option (List (List Nat))
  | [] => some []
  | .str s :: r => (strL r).map (s :: ·)
  | _ :: _ => none
def intL : List Val → Option (List Int)
  | [] => some []
  | .int i :: r => (intL r).map (i :: ·)
  | _ :: _ => none
def bools : List Val → Option (List Bool)
  | [] => some []
  | .bl b :: r => (bools r).map (b :: ·)
  | _ :: _ => none

/-! ### places -/
/-- a place counted from 0, or from behind -/
def ixOf (n : Nat) (i : Int) : Option Nat :=
  if 0 ≤ i then (if i < n then some i.toNat else none) else if -(n : Int) ≤ i then some (i + n).toNat else none
/-- a bound of a slice -/
def clampI (n : Nat) (i : Int) : Nat := if 0 ≤ i then min i.toNat n else (i + n).toNat
def sliceL {α : Type} (xs : List α) (lo hi : Option Int) : List α :=
  let a := match lo with | none => 0 | some i => clampI xs.length i
  let b := match hi with | none => xs.length | some i => clampI xs.length i
  (xs.take b).drop a
def optI : Val → Option (Option Int)
  | .non => some none
  | .int i => some (some i)
  | _ => none
/-- what is walked -/
def items : Val → Option (List Val)
  | .tup xs => some xs
  | .lst xs => some xs
  | .str s => some (s.map fun c => .str [c])
  | .dct ks _ => some ks
  | _ => none

/-! ### operations -/
inductive Bop where | add | sub | mul | fdiv | mod | pow
inductive Cop where | eq | ne | lt | le | gt | ge | isin | nin | is | isn
def mulOk (i j : Int) : Bool := decide ((-(2 ^ 64) < i ∧ i < 2 ^ 64) ∨ (-(2 ^ 64) < j ∧ j < 2 ^ 64)) || decide (i.natAbs.log2 + j.natAbs.log2 < 1000000)
def divOk (j : Int) : Bool := decide (j ≠ 0 ∧ j.natAbs.log2 < 9000)
def powOk (i j : Int) : Bool := decide (0 ≤ j ∧ j ≤ 1000000 ∧ i.natAbs < 2 ^ 64)
/-- so many times -/
def repL {α : Type} (xs : List α) (k : Int) : List α := (List.replicate k.toNat xs).flatten
def binV (o : Bop) (x y : Val) : Option Val :=
  match o, x, y with
  | .add, .int i, .int j => some (.int (i + j))
  | .add, .str s, .str t => if s.length + t.length ≤ line then some (.str (s ++ t)) else none
  | .add, .lst s, .lst t => if s.length + t.length ≤ line then some (.lst (s ++ t)) else none
  | .add, .tup s, .tup t => if s.length + t.length ≤ line then some (.tup (s ++ t)) else none
  | .sub, .int i, .int j => some (.int (i - j))
  | .mul, .int i, .int j => if mulOk i j then some (.int (i * j)) else none
  | .mul, .str s, .int k => if 0 ≤ k ∧ s.length * k.toNat ≤ line ∧ k < 2 ^ 62 then some (.str (repL s k)) else none
  | .mul, .lst s, .int k => if 0 ≤ k ∧ s.length * k.toNat ≤ line ∧ k < 2 ^ 62 then some (.lst (repL s k)) else none
  | .fdiv, .int i, .int j => if divOk j then some (.int (i.fdiv j)) else none
  | .mod, .int i, .int j => if j ≠ 0 then some (.int (i.fmod j)) else none
  | .pow, .int i, .int j => if powOk i j then some (.int (i ^ j.toNat)) else none
  | _, _, _ => none
def isV : Val → Val → Option Bool
  | .bl a, .bl b => some (a == b)
  | .non, .non => some true
  | .bl _, .non | .int _, .non | .str _, .non | .tup _, .non | .lst _, .non | .dct _ _, .non | .obj _ _ _, .non | .ref _, .non | .fn _, .non => some false
  | _, _ => none
/-- the place of a key -/
def keyIx (k : Val) : List Val → Option Nat
  | [] => none
  | x :: r => if eqD x k then some 0 else (keyIx k r).map (· + 1)
def inV (x : Val) : Val → Option Bool
  | .str t => match x with
    | .str [c] => some (decide (c ∈ t))
    | _ => none
  | .tup ys => if (x.data && dataAll ys) && decide (depthV x ≤ 100) then some (ys.any fun y => eqD y x) else none
  | .lst ys => if (x.data && dataAll ys) && decide (depthV x ≤ 100) then some (ys.any fun y => eqD y x) else none
  | .dct ks _ => if keyV x && ks.all keyV then some (ks.any fun y => eqD y x) else none
  | .kon ks vs => match x with
    | .str z => some (keyIx (.str z) ks).isSome
    | _ => none
  | _ => none
where keyV : Val → Bool
  | .int _ | .str _ => true
  | _ => false
def cmpV (o : Cop) (x y : Val) : Option Bool :=
  match o with
  | .eq => eqV x y
  | .ne => (eqV x y).map (!·)
  | .is => isV x y
  | .isn => (isV x y).map (!·)
  | .isin => inV x y
  | .nin => (inV x y).map (!·)
  | .lt => match x, y with | .int i, .int j => some (decide (i < j)) | .str s, .str t => some (ltS s t) | _, _ => none
  | .le => match x, y with | .int i, .int j => some (decide (i ≤ j)) | .str s, .str t => some (!ltS t s) | _, _ => none
  | .gt => match x, y with | .int i, .int j => some (decide (j < i)) | .str s, .str t => some (ltS t s) | _, _ => none
  | .ge => match x, y with | .int i, .int j => some (decide (j ≤ i)) | .str s, .str t => some (!ltS s t) | _, _ => none
def idxV (x i : Val) : Option Val :=
  match x, i with
  | .tup xs, .int i => (ixOf xs.length i).bind fun k => xs[k]?
  | .lst xs, .int i => (ixOf xs.length i).bind fun k => xs[k]?
  | .str s, .int i => if s.length ≤ line then (ixOf s.length i).bind fun k => (s[k]?).map fun c => .str [c] else none
  | .dct ks vs, k => if inV.keyV k && ks.all inV.keyV then (keyIx k ks).bind fun j => vs[j]? else none
  | .kon ks vs, .str z => (keyIx (.str z) ks).bind fun j => vs[j]?
  | _, _ => none
def slcV (x lo hi : Val) : Option Val :=
  (optI lo).bind fun l => (optI hi).bind fun h => match x with
    | .tup xs => some (.tup (sliceL xs l h))
    | .lst xs => some (.lst (sliceL xs l h))
    | .str s => if s.length ≤ line then some (.str (sliceL s l h)) else none
    | .scr ns => some (.lst ((sliceL ns l h).map .int))
    | _ => none

/-! ### what is built in -/
inductive Ty where | int | bool | str | tuple | list | dict | cls (c : Nat)
inductive Bi where
  | len | abs | int | str | tuple | list | all | any | min2 | max2 | maxL | sum | sorted | lenset | sortset | repr | range | enum | zip | isI (t : Ty) | rev
inductive Bm where
  | append | extend | pop | popAt | index | count | join | split | strip | part | get | keys
def isTy : Ty → Val → Option Bool
  | .int, .int _ | .int, .bl _ | .bool, .bl _ | .str, .str _ | .tuple, .tup _ | .list, .lst _ | .dict, .dct _ _ => some true
  | .cls c, .obj d _ _ => if c = d then some true else none
  | _, .obj _ _ _ => none
  | _, .fn _ => none
  | _, .ref _ => none
  | _, .scr _ => none
  | _, .kon _ _ => none
  | _, _ => some false
def insI (i : Int) : List Int → List Int
  | [] => [i]
  | j :: r => if i ≤ j then i :: j :: r else j :: insI i r
def sortI : List Int → List Int
  | [] => []
  | i :: r => insI i (sortI r)
def insS (i : List Nat) : List (List Nat) → List (List Nat)
  | [] => [i]
  | j :: r => if ltS j i then j :: insS i r else i :: j :: r
def sortS : List (List Nat) → List (List Nat)
  | [] => []
  | i :: r => insS i (sortS r)
def sortV (xs : List Val) : Option (List Val) :=
  match intL xs with
  | some ns => some ((sortI ns).map .int)
  | none => (strL xs).bind fun ss => if ss.length < 64 then some ((sortS ss).map .str) else none
/-- the unlike ones -/
def uniqV : List Val → List Val
  | [] => []
  | x :: r => let u := uniqV r; if u.any (fun y => eqD y x) then u else x :: u
def flatV : Val → Bool
  | .int _ | .str _ => true
  | _ => false
def sumI : List Int → Int
  | [] => 0
  | i :: r => i + sumI r
def maxI : Int → List Int → Int
  | m, [] => m
  | m, i :: r => maxI (if i > m then i else m) r
/-! ### repr: its text is a parameter; here a bound of its length, and where it is told -/
mutual
def repB : Val → Nat
  | .non => 4
  | .bl _ => 5
  | .int i => i.natAbs.log2 + 3
  | .str s => 10 * s.length + 2
  | .lst xs => 2 + repBs xs
  | .tup xs => 3 + repBs xs
  | .dct _ _ | .obj _ _ _ | .ref _ | .fn _ | .scr _ | .kon _ _ => 0
def repBs : List Val → Nat
  | [] => 0
  | x :: xs => repB x + 2 + repBs xs
end
mutual
def repOk : Val → Bool
  | .non | .bl _ => true
  | .str s => s.all fun c => decide (c < 4294967296)
  | .int i => decide (i.natAbs.log2 < 1920)
  | .lst xs => repOks xs
  | .tup xs => repOks xs
  | .dct _ _ | .obj _ _ _ | .ref _ | .fn _ | .scr _ | .kon _ _ => false
def repOks : List Val → Bool
  | [] => true
  | x :: xs => repOk x && repOks xs
end
/-! ### the program's table -/
inductive Ex where
  | var (i : Nat) | cst (v : Val) | glo (g : Nat)
  | bin (o : Bop) (a b : Ex) | neg (a : Ex)
  | cmp (o : Cop) (a b : Ex) | chn (o p : Cop) (a b c : Ex)
  | and (a b : Ex) | or (a b : Ex) | not (a : Ex) | ife (c a b : Ex)
  | tup (xs : List Ex) | lst (xs : List Ex) | dct (kvs : List Ex)
  | idx (a i : Ex) | slc (a lo hi : Ex) | fld (a : Ex) (f : Nat)
  | call (f : Nat) (xs : List Ex) | calv (f : Ex) (xs : List Ex) | mk (c : Nat) (xs : List Ex) | met (m : Nat) (o : Ex) (xs : List Ex)
  | bi (b : Bi) (xs : List Ex) | bm (b : Bm) (o : Ex) (xs : List Ex)
  | cp1 (e : Ex) (t : List Nat) (one : Bool) (it : Ex) (c : Ex)
  | cp2 (e : Ex) (t : List Nat) (one : Bool) (it : Ex) (t2 : List Nat) (one2 : Bool) (it2 : Ex)
  | cp3 (e : Ex) (t : List Nat) (one : Bool) (it : Ex) (t2 : List Nat) (one2 : Bool) (it2 : Ex) (t3 : List Nat) (one3 : Bool) (it3 : Ex)
  | new (a : Ex) | frz (a : Ex)
/-- where a value is put -/
inductive Lv where
  | nm (i : Nat) | fld (o : Ex) (f : Nat) | sub (o i : Ex)
/-- what an except suite does -/
inductive Hx where
  | cst (v : Val) | msg | cat (a b : Hx) | tail (k : Nat) | sint (e : Ex)
inductive Hd where
  | ret (h : Hx) | rai (c : Nat) (h : Hx)
inductive Sm where
  | asg (l : Lv) (e : Ex) | gen (ls : List Lv) (e : Ex) | aug (l : Lv) (o : Bop) (e : Ex)
  | ex (e : Ex) | ret (e : Ex) | retN | ifs (c : Ex) (a b : List Sm) | whl (c : Ex) (b : List Sm)
  | for_ (t : List Nat) (one : Bool) (it : Ex) (b : List Sm) | brk | cnt | pas
  | rai (c : Nat) (e : Ex) | try_ (b : List Sm) (c : Nat) (h : Hd)
structure Df where
  pars : Nat
  locs : Nat
  dfl : List Val
  opn : Bool
  body : List Sm
structure Tab where
  defs : List Df
  mth : List (Nat × Nat × Nat)
  ini : List (Nat × Nat)
  glo : List Val
  sub : List (Nat × Nat)
  exs : List Nat
  rep : Val → List Nat
def look2 (c m : Nat) : List (Nat × Nat × Nat) → Option Nat
  | [] => none
  | (a, b, f) :: r => if a = c ∧ b = m then some f else look2 c m r
def look1 (c : Nat) : List (Nat × Nat) → Option Nat
  | [] => none
  | (a, f) :: r => if a = c then some f else look1 c r

/-! ### what is built in, by values -/
def rangeN (lo step : Int) : Nat → List Val
  | 0 => []
  | n + 1 => .int lo :: rangeN (lo + step) step n
def enumN (k : Int) : List Val → List Val
  | [] => []
  | x :: r => .tup [.int k, x] :: enumN (k + 1) r
def zipN : List Val → List Val → List Val
  | x :: r, y :: s => .tup [x, y] :: zipN r s
  | _, _ => []
def rangeV : List Val → Option (List Val)
  | [.int n] => if -(2 ^ 62) ≤ n ∧ n < 2 ^ 62 then some (rangeN 0 1 n.toNat) else none
  | [.int a, .int b] => if -(2 ^ 62) ≤ a ∧ a < 2 ^ 62 ∧ -(2 ^ 62) ≤ b ∧ b < 2 ^ 62 then some (rangeN a 1 (b - a).toNat) else none
  | [.int a, .int b, .int c] => if -(2 ^ 61) ≤ a ∧ a < 2 ^ 61 ∧ -(2 ^ 61) ≤ b ∧ b < 2 ^ 61 then
      (if c = -1 then some (rangeN a (-1) (a - b).toNat) else if 0 < c ∧ c < 1000 then some (rangeN a c ((b - a + (c - 1)) / c).toNat) else none) else none
  | _ => none
def biLen : List Val → Option Val
  | [.str s] => if s.length ≤ line then some (.int s.length) else none
  | [.tup ys] => some (.int ys.length)
  | [.lst ys] => some (.int ys.length)
  | [.dct ks _] => some (.int ks.length)
  | _ => none
def biAbs : List Val → Option Val
  | [.int i] => some (.int (if i < 0 then -i else i))
  | _ => none
def biInt : List Val → Option Val
  | [.int i] => some (.int i)
  | [.bl k] => some (.int (if k then 1 else 0))
  | [.str s] => (intOf s).map .int
  | _ => none
def biStr : List Val → Option Val
  | [.int i] => if i.natAbs.log2 < 14000 then some (.str (intStr i)) else none
  | [.str s] => some (.str s)
  | [.bl k] => some (.str (if k then [84, 114, 117, 101] else [70, 97, 108, 115, 101]))
  | _ => none
def biTuple : List Val → Option Val
  | [.tup ys] => some (.tup ys)
  | [.lst ys] => some (.tup ys)
  | _ => none
def biList : List Val → Option Val
  | [.tup ys] => some (.lst ys)
  | [.lst ys] => some (.lst ys)
  | [.dct ks _] => if ks.all inV.keyV then some (.lst ks) else none
  | _ => none
def biAll : List Val → Option Val
  | [.lst ys] => (bools ys).map fun bs => .bl (bs.all id)
  | _ => none
def biAny : List Val → Option Val
  | [.lst ys] => (bools ys).map fun bs => .bl (bs.any id)
  | _ => none
def biMin2 : List Val → Option Val
  | [.int i, .int j] => some (.int (if j < i then j else i))
  | _ => none
def biMax2 : List Val → Option Val
  | [.int i, .int j] => some (.int (if j > i then j else i))
  | _ => none
def biMaxL : List Val → Option Val
  | [.lst ys] => (intL ys).bind fun ns => match ns with | [] => none | n :: r => some (.int (maxI n r))
  | [.tup ys] => (intL ys).bind fun ns => match ns with | [] => none | n :: r => some (.int (maxI n r))
  | _ => none
def biSum : List Val → Option Val
  | [.lst ys] => (intL ys).map fun ns => .int (sumI ns)
  | _ => none
def biSorted : List Val → Option Val
  | [.lst ys] => (sortV ys).map .lst
  | [.dct ks _] => if ks.length < 64 then (sortV ks).map .lst else none
  | _ => none
def biLenset : List Val → Option Val
  | [x] => (items x).bind fun ys => if ys.all flatV then some (.int (uniqV ys).length) else none
  | _ => none
def biSortset : List Val → Option Val
  | [x] => (items x).bind fun ys => (sortV (uniqV ys)).map .lst
  | _ => none
def biRepr (T : Tab) : List Val → Option Val
  | [x] => if repOk x && decide (repB x + 64 ≤ line) && decide (depthV x ≤ 600) then some (.str (T.rep x)) else none
  | _ => none
def biRange : List Val → Option Val
  | ys => (rangeV ys).map .lst
def biEnum : List Val → Option Val
  | [.str s] => some (.lst (enumN 0 (s.map fun c => .str [c])))
  | _ => none
def biZip : List Val → Option Val
  | [x, y] => (items x).bind fun xs => (items y).map fun ys => .lst (zipN xs ys)
  | _ => none
def biIsI (t : Ty) : List Val → Option Val
  | [x] => (isTy t x).map .bl
  | _ => none
def biRev : List Val → Option Val
  | [.tup ys] => some (.tup ys.reverse)
  | [.lst ys] => some (.lst ys.reverse)
  | [.str s] => some (.str s.reverse)
  | _ => none
def biV (T : Tab) (b : Bi) (xs : List Val) : Option Val :=
  match b with
  | .len => biLen xs
  | .abs => biAbs xs
  | .int => biInt xs
  | .str => biStr xs
  | .tuple => biTuple xs
  | .list => biList xs
  | .all => biAll xs
  | .any => biAny xs
  | .min2 => biMin2 xs
  | .max2 => biMax2 xs
  | .maxL => biMaxL xs
  | .sum => biSum xs
  | .sorted => biSorted xs
  | .lenset => biLenset xs
  | .sortset => biSortset xs
  | .repr => biRepr T xs
  | .range => biRange xs
  | .enum => biEnum xs
  | .zip => biZip xs
  | .isI t => biIsI t xs
  | .rev => biRev xs
/-- instances of the store, as isinstance reads them -/
def rdI (st : Store) : Val → Val
  | .ref a => match st[a]? with
    | some (.lst xs) => .lst xs
    | some (.dct ks vs) => .dct ks vs
    | some (.ins c fs vs) => .obj c fs vs
    | _ => .ref a
  | v => v
def idxOfV (k : Val) : List Val → Option Nat
  | [] => none
  | x :: r => if eqD x k then some 0 else (idxOfV k r).map (· + 1)
/-! methods of what is built in: the receiver as it is, the arguments -/
def bmAppend (st : Store) : Val → List Val → Option (Val × Store)
  | .ref a, [v] => match st[a]? with
    | some (.lst ys) => if ys.length < line then some (.non, st.set a (.lst (ys ++ [v]))) else none
    | _ => none
  | _, _ => none
def bmExtend (st : Store) : Val → List Val → Option (Val × Store)
  | .ref a, [v] => match st[a]? with
    | some (.lst ys) => match rd st v with
      | .lst zs => if ys.length + zs.length ≤ line then some (.non, st.set a (.lst (ys ++ zs))) else none
      | _ => none
    | _ => none
  | _, _ => none
def bmPop (st : Store) : Val → List Val → Option (Val × Store)
  | .ref a, [] => match st[a]? with
    | some (.lst ys) => (ys[ys.length - 1]?).map fun y => (y, st.set a (.lst ys.dropLast))
    | _ => none
  | _, _ => none
def bmPopAt (st : Store) : Val → List Val → Option (Val × Store)
  | .ref a, [.int i] => match st[a]? with
    | some (.lst ys) => if ys.length ≤ line then (ixOf ys.length i).bind fun k => (ys[k]?).map fun y => (y, st.set a (.lst (ys.eraseIdx k))) else none
    | _ => none
  | _, _ => none
def bmIndex (st : Store) (o : Val) : List Val → Option (Val × Store)
  | [v] => match rd st o with
    | .lst ys => if flatV v && ys.all flatV then (idxOfV v ys).map fun k => (.int k, st) else none
    | _ => none
  | _ => none
def bmCount (st : Store) (o : Val) : List Val → Option (Val × Store)
  | [v] => match rd st o with
    | .lst ys => if flatV v && ys.all flatV then some (.int (ys.filter fun y => eqD y v).length, st) else none
    | _ => none
  | _ => none
def bmJoin (st : Store) : Val → List Val → Option (Val × Store)
  | .str s, [v] => match rd st v with
    | .lst ys => (strL ys).bind fun ts => if (ts.map List.length).sum + ts.length * s.length ≤ line then some (.str (joinS s ts), st) else none
    | .tup ys => (strL ys).bind fun ts => if (ts.map List.length).sum + ts.length * s.length ≤ line then some (.str (joinS s ts), st) else none
    | _ => none
  | _, _ => none
def bmSplit (st : Store) : Val → List Val → Option (Val × Store)
  | .str s, [.str [c]] => if s.length + 2 ≤ line ∧ c < 256 then some (.lst ((splitC c s).map .str), st) else none
  | _, _ => none
def bmStrip (st : Store) : Val → List Val → Option (Val × Store)
  | .str s, [.str [c]] => if s.length ≤ line then some (.str (stripC c s), st) else none
  | _, _ => none
def bmPart (st : Store) : Val → List Val → Option (Val × Store)
  | .str s, [.str [c]] => if s.length ≤ line then some (.tup [.str (partC c s).1, .str (partC c s).2.1, .str (partC c s).2.2], st) else none
  | _, _ => none
def bmGet (st : Store) (o : Val) : List Val → Option (Val × Store)
  | [k, d] => match rd st o with
    | .dct ks vs => if inV.keyV k && ks.all inV.keyV then some ((((keyIx k ks).bind fun j => vs[j]?).getD d), st) else none
    | _ => none
  | _ => none
def bmV (b : Bm) (o : Val) (xs : List Val) (st : Store) : Option (Val × Store) :=
  match b with
  | .append => bmAppend st o xs
  | .extend => bmExtend st o xs
  | .pop => bmPop st o xs
  | .popAt => bmPopAt st o xs
  | .index => bmIndex st o xs
  | .count => bmCount st o xs
  | .join => bmJoin st o xs
  | .split => bmSplit st o xs
  | .strip => bmStrip st o xs
  | .part => bmPart st o xs
  | .get => bmGet st o xs
  | .keys => none

/-- the receiver's kind -/
def rcvT : Bm → Val → Bool
  | .append, .lst _ | .extend, .lst _ | .pop, .lst _ | .popAt, .lst _ | .index, .lst _ | .count, .lst _ => true
  | .join, .str _ | .split, .str _ | .strip, .str _ | .part, .str _ => true
  | .get, .dct _ _ | .keys, .dct _ _ => true
  | _, _ => false
/-! ### targets of names, fields, places -/
def putNames : List Nat → List Val → Env → Option Env
  | [], [], env => some env
  | i :: is, v :: vs, env => putNames is vs (env.set i (some v))
  | _, _, _ => none
def putTg (t : List Nat) (one : Bool) (v : Val) (env : Env) : Option Env :=
  if one then putNames t [v] env else match v with
    | .tup vs => putNames t vs env
    | _ => none
def wipeE (t : List Nat) (env : Env) : Env := t.foldl (fun e i => e.set i none) env
def putF (f : Nat) (v : Val) : List Nat → List Val → List Nat × List Val
  | g :: fs, w :: vs => if g = f then (g :: fs, v :: vs) else let (a, b) := putF f v fs vs; (g :: a, w :: b)
  | _, _ => ([f], [v])
def getF (f : Nat) : List Nat → List Val → Option Val
  | g :: fs, w :: vs => if g = f then some w else getF f fs vs
  | _, _ => none
def setItV (o i v : Val) (st : Store) : Option Store :=
  match o with
  | .ref a => match st[a]?, i with
    | some (.lst ys), .int i => (ixOf ys.length i).map fun k => st.set a (.lst (ys.set k v))
    | _, _ => none
  | _ => none
def setFldV (o : Val) (f : Nat) (v : Val) (st : Store) : Option Store :=
  match o with
  | .ref a => match st[a]? with
    | some (.ins c fs vs) => let (a', b') := putF f v fs vs; if fs.length < 900 then some (st.set a (.ins c a' b')) else none
    | _ => none
  | _ => none
def fldV (st : Store) (f : Nat) : Val → Option Val
  | .obj _ fs vs => getF f fs vs
  | .ref a => match st[a]? with
    | some (.ins _ fs vs) => getF f fs vs
    | _ => none
  | _ => none
def clsV (st : Store) : Val → Option Nat
  | .obj c _ _ => some c
  | .ref a => match st[a]? with
    | some (.ins c _ _) => some c
    | _ => none
  | _ => none
/-- a place's object is given up: nobody will change it any more -/
def frzV (st : Store) : Val → Res Val
  | .ref a => match st[a]? with
    | some (.lst xs) => .ok (.lst xs) (st.set a .gone)
    | some (.dct ks vs) => .ok (.dct ks vs) (st.set a .gone)
    | some (.ins c fs vs) => .ok (.obj c fs vs) (st.set a .gone)
    | _ => .stuck
  | v => .ok v st

/-! ### loops -/
/-- the walked list stands as it stood -/
def stands (g : Option Nat) (all : List Val) (st : Store) : Prop := ∀ a, g = some a → st[a]? = some (.lst all)
open Classical in
noncomputable def forL (t : List Nat) (one : Bool) (g : Option Nat) (all : List Val) (body : Env → Store → RS) : List Val → Env → Store → RS
  | [], env, st => if stands g all st then .next env st else .stuck
  | x :: r, env, st => if stands g all st then (match putTg t one x env with
      | some env' => (match body env' st with
        | .next e s => forL t one g all body r e s
        | .cnt e s => forL t one g all body r e s
        | .brk e s => .next e s
        | o => o)
      | none => .stuck) else .stuck
/-- what raises is not followed further -/
def Res.calm {α : Type} : Res α → Res α
  | .ok a st => .ok a st
  | .exc _ _ _ => .stuck
  | .stuck => .stuck
@[simp] theorem Res.calm_ok {α : Type} (a : α) (st : Store) : (Res.ok a st).calm = .ok a st := rfl
@[simp] theorem Res.calm_stuck {α : Type} : (Res.stuck : Res α).calm = .stuck := rfl
open Classical in
noncomputable def mapL (t : List Nat) (one : Bool) (g : Option Nat) (all : List Val) (cond : Env → Store → Res Bool) (e : Env → Store → Res Val) : List Val → Env → Store → Res (List Val)
  | [], _, st => if stands g all st then .ok [] st else .stuck
  | x :: r, env, st => if stands g all st then (match putTg t one x env with
      | some env' => (cond env' st).calm.bind fun b s => if b then (e env' s).calm.bind fun v s2 => (mapL t one g all cond e r env s2).bind fun vs s3 => .ok (v :: vs) s3
        else mapL t one g all cond e r env s
      | none => .stuck) else .stuck
def whileN (c : Env → Store → Res Bool) (b : Env → Store → RS) : Nat → Env → Store → Option RS
  | 0, _, _ => none
  | n + 1, env, st => match c env st with
    | .ok false s => some (.next env s)
    | .ok true s => (match b env s with
      | .next e s2 => whileN c b n e s2
      | .cnt e s2 => whileN c b n e s2
      | .brk e s2 => some (.next e s2)
      | o => some o)
    | .exc k m s => some (.exc k m env s)
    | .stuck => some .stuck
open Classical in
noncomputable def whileD (c : Env → Store → Res Bool) (b : Env → Store → RS) (env : Env) (st : Store) : RS :=
  if h : ∃ n r, whileN c b n env st = some r then h.choose_spec.choose else .stuck
/-- an object by its place: what is walked, and where it stands -/
def walked (st : Store) : Val → Option (Option Nat × List Val)
  | .ref a => match st[a]? with
    | some (.lst xs) => some (some a, xs)
    | _ => none
  | .tup xs => some (none, xs)
  | .lst xs => some (none, xs)
  | .str s => some (none, s.map fun c => .str [c])
  | _ => none
def flatL : List Val → Option Val
  | [] => some (.lst [])
  | .lst xs :: r => match flatL r with
    | some (.lst ys) => if xs.length + ys.length ≤ line then some (.lst (xs ++ ys)) else none
    | _ => none
  | _ :: _ => none
/-- keys and values by turns -/
def altL : List Val → List Val × List Val
  | k :: v :: r => (k :: (altL r).1, v :: (altL r).2)
  | _ => ([], [])
/-- no key twice -/
def distK : List Val → Bool
  | [] => true
  | k :: r => (keyIx k r).isNone && distK r
def asBool : Val → Store → Res Bool
  | .bl b, st => .ok b st
  | _, _ => .stuck

/-! ### the evaluator -/
section
variable (T : Tab) (cl : Nat → List Val → Store → Res Val) (mk : Nat → List Val → Store → Res Val)
mutual
noncomputable def ev : Ex → Env → Store → Res Val
  | .var i, env, st => match env[i]? with
    | some (some v) => .ok v st
    | _ => .stuck
  | .cst v, _, st => .ok v st
  | .glo g, _, st => Res.opt T.glo[g]? st
  | .bin o a b, env, st => (ev a env st).bind fun x s => (ev b env s).bind fun y s => Res.opt (binV o (rd s x) (rd s y)) s
  | .neg a, env, st => (ev a env st).bind fun x s => match x with
    | .int i => .ok (.int (-i)) s
    | _ => .stuck
  | .cmp o a b, env, st => (ev a env st).bind fun x s => (ev b env s).bind fun y s => Res.opt ((cmpV o (rd s x) (rd s y)).map .bl) s
  | .chn o p a b c, env, st => (ev a env st).bind fun x s => (ev b env s).bind fun y s => match cmpV o (rd s x) (rd s y) with
    | some true => (ev c env s).bind fun z s => Res.opt ((cmpV p (rd s y) (rd s z)).map .bl) s
    | some false => .ok (.bl false) s
    | none => .stuck
  | .and a b, env, st => (ev a env st).bind fun x s => (asBool x s).bind fun k s => if k then ev b env s else .ok (.bl false) s
  | .or a b, env, st => (ev a env st).bind fun x s => (asBool x s).bind fun k s => if k then .ok (.bl true) s else ev b env s
  | .not a, env, st => (ev a env st).bind fun x s => (asBool x s).bind fun k s => .ok (.bl !k) s
  | .ife c a b, env, st => (ev c env st).bind fun x s => (asBool x s).bind fun k s => if k then ev a env s else ev b env s
  | .tup xs, env, st => (evs xs env st).bind fun vs s => .ok (.tup vs) s
  | .lst xs, env, st => (evs xs env st).bind fun vs s => .ok (.lst vs) s
  | .dct kvs, env, st => (evs kvs env st).bind fun xs s => if (altL xs).1.all inV.keyV && distK (altL xs).1 && decide (xs.length ≤ 30) then .ok (.dct (altL xs).1 (altL xs).2) s else .stuck
  | .idx a i, env, st => (ev a env st).bind fun x s => (ev i env s).bind fun y s => Res.opt (idxV (rd s x) y) s
  | .slc a l h, env, st => (ev a env st).bind fun x s => (ev l env s).bind fun y s => if (optI y).isSome then (ev h env s).bind fun z s => Res.opt (slcV (rd s x) y z) s else .stuck
  | .fld a f, env, st => (ev a env st).bind fun x s => Res.opt (fldV s f x) s
  | .call f xs, env, st => (evs xs env st).bind fun vs s => cl f vs s
  | .calv e xs, env, st => (ev e env st).bind fun x s => match x with
    | .fn f => (evs xs env s).bind fun vs s => cl f vs s
    | _ => .stuck
  | .mk c xs, env, st => (evs xs env st).bind fun vs s => mk c vs s
  | .met m o xs, env, st => (ev o env st).bind fun x s => match (clsV s x).bind fun c => look2 c m T.mth with
    | some f => (evs xs env s).bind fun vs s => cl f (x :: vs) s
    | none => .stuck
  | .bi b xs, env, st => (evs xs env st).bind fun vs s => Res.opt (biV T b (vs.map (rdI s))) s
  | .bm b o xs, env, st => (ev o env st).bind fun x s => if rcvT b (rd s x) then (evs xs env s).bind fun vs s => (match bmV b x vs s with
    | some (v, s') => .ok v s'
    | none => .stuck) else .stuck
  | .cp1 e t one it c, env, st => (ev it env st).bind fun x s => match walked s x with
    | some (g, xs) => if xs.length ≤ line then (mapL t one g xs (fun env s => (ev c env s).bind asBool) (fun env s => ev e env s) xs (wipeE t env) s).bind fun vs s => .ok (.lst vs) s else .stuck
    | none => .stuck
  | .cp2 e t one it t2 one2 it2, env, st => (ev it env st).bind fun x s => match walked s x with
    | some (g, xs) => (mapL t one g xs (fun _ s => .ok true s) (fun env s => (ev it2 env s).bind fun y s => match walked s y with
      | some (g2, ys) => (mapL t2 one2 g2 ys (fun _ s => .ok true s) (fun env s => ev e env s) ys env s).bind fun vs s => .ok (.lst vs) s
      | none => .stuck) xs (wipeE (t ++ t2) env) s).bind fun vs s => Res.opt (flatL vs) s
    | none => .stuck
  | .cp3 e t one it t2 one2 it2 t3 one3 it3, env, st => (ev it env st).bind fun x s => match walked s x with
    | some (g, xs) => (mapL t one g xs (fun _ s => .ok true s) (fun env s => (ev it2 env s).bind fun y s => match walked s y with
      | some (g2, ys) => (mapL t2 one2 g2 ys (fun _ s => .ok true s) (fun env s => (ev it3 env s).bind fun z s => match walked s z with
        | some (g3, zs) => (mapL t3 one3 g3 zs (fun _ s => .ok true s) (fun env s => ev e env s) zs env s).bind fun vs s => .ok (.lst vs) s
        | none => .stuck) ys env s).bind fun vs s => Res.opt (flatL vs) s
      | none => .stuck) xs (wipeE (t ++ t2 ++ t3) env) s).bind fun vs s => Res.opt (flatL vs) s
    | none => .stuck
  | .new a, env, st => (ev a env st).bind fun x s => match x with
    | .lst xs => .ok (.ref s.length) (s ++ [.lst xs])
    | .dct ks vs => .ok (.ref s.length) (s ++ [.dct ks vs])
    | _ => .stuck
  | .frz a, env, st => (ev a env st).bind fun x s => frzV s x
noncomputable def evs : List Ex → Env → Store → Res (List Val)
  | [], _, st => .ok [] st
  | x :: xs, env, st => (ev x env st).bind fun v s => (evs xs env s).bind fun vs s => .ok (v :: vs) s
end
def augV (o : Bop) (x y : Val) : Option Val :=
  match x, y with
  | .int i, .int j => (match o with
    | .add => some (.int (i + j))
    | .sub => some (.int (i - j))
    | .mul => if mulOk i j then some (.int (i * j)) else none
    | _ => none)
  | _, _ => none
noncomputable def putLv (l : Lv) (v : Val) (env : Env) (st : Store) : RS :=
  match l with
  | .nm i => .next (env.set i (some v)) st
  | .fld o f => (ev T cl mk o env st).into env fun x s => match setFldV x f v s with
    | some s' => .next env s'
    | none => .stuck
  | .sub o i => (ev T cl mk o env st).into env fun x s => (ev T cl mk i env s).into env fun y s => match setItV x y v s with
    | some s' => .next env s'
    | none => .stuck
noncomputable def putLvs : List Lv → List Val → Env → Store → RS
  | [], [], env, st => .next env st
  | l :: ls, v :: vs, env, st => (putLv T cl mk l v env st).then fun env st => putLvs ls vs env st
  | _, _, _, _ => .stuck
noncomputable def hxV (m : List Nat) (env : Env) (st : Store) : Hx → Option Val
  | .cst v => some v
  | .msg => some (.str m)
  | .cat a b => (hxV m env st a).bind fun x => (hxV m env st b).bind fun y => binV .add x y
  | .tail k => some (.str (m.drop k))
  | .sint e => match ev T cl mk e env st with
    | .ok (.int i) _ => if i.natAbs.log2 < 1900 then some (.str (intStr i)) else none
    | _ => none
mutual
noncomputable def evS : Sm → Env → Store → RS
  | .asg l e, env, st => (ev T cl mk e env st).into env fun v s => putLv T cl mk l v env s
  | .gen ls e, env, st => (ev T cl mk e env st).into env fun v s => match v with
    | .tup vs => if vs.length = ls.length then putLvs T cl mk ls vs env s else .stuck
    | _ => .stuck
  | .aug (.nm i) o e, env, st => match env[i]? with
    | some (some x) => (ev T cl mk e env st).into env fun y s => match augV o x y with
      | some v => .next (env.set i (some v)) s
      | none => .stuck
    | _ => .stuck
  | .aug (.fld a f) o e, env, st => (ev T cl mk a env st).into env fun r s => match fldV s f r with
    | some x => (ev T cl mk e env s).into env fun y s => match binV o x y with
      | some v => (match setFldV r f v s with
        | some s' => .next env s'
        | none => .stuck)
      | none => .stuck
    | none => .stuck
  | .aug (.sub _ _) _ _, _, _ => .stuck
  | .ex e, env, st => (ev T cl mk e env st).into env fun _ s => .next env s
  | .ret e, env, st => (ev T cl mk e env st).into env fun v s => .ret v s
  | .retN, _, st => .ret .non st
  | .ifs c a b, env, st => ((ev T cl mk c env st).bind asBool).into env fun k s => if k then evSs a env s else evSs b env s
  | .whl c b, env, st => whileD (fun env st => (ev T cl mk c env st).bind asBool) (fun env st => evSs b env st) env st
  | .for_ t one it b, env, st => (ev T cl mk it env st).into env fun x s => match walked s x with
    | some (g, xs) => forL t one g xs (fun env st => evSs b env st) xs env s
    | none => .stuck
  | .brk, env, st => .brk env st
  | .cnt, env, st => .cnt env st
  | .pas, env, st => .next env st
  | .rai c e, env, st => (ev T cl mk e env st).into env fun v s => match v with
    | .str m => .exc c m env s
    | _ => .stuck
  | .try_ b c h, env, st => match evSs b env st with
    | .exc d m env' s => if T.exs.contains d then (if T.sub.contains (d, c) then (match h with
        | .ret x => (match hxV T cl mk m env' s x with
          | some v => .ret v s
          | none => .stuck)
        | .rai c' x => (match hxV T cl mk m env' s x with
          | some (.str m') => .exc c' m' env' s
          | _ => .stuck))
      else .exc d m env' s) else .stuck
    | o => o
noncomputable def evSs : List Sm → Env → Store → RS
  | [], env, st => .next env st
  | s :: r, env, st => (evS s env st).then fun env st => evSs r env st
end
end
mutual
/-- every place within lies below n -/
def Val.under (n : Nat) : Val → Bool
  | .ref a => decide (a < n)
  | .tup xs => underAll n xs
  | .lst xs => underAll n xs
  | .dct ks vs => underAll n ks && underAll n vs
  | .obj _ _ vs => underAll n vs
  | .kon _ vs => underAll n vs
  | .non | .bl _ | .int _ | .str _ | .fn _ | .scr _ => true
def underAll (n : Nat) : List Val → Bool
  | [] => true
  | x :: xs => x.under n && underAll n xs
end
def Ob.under (n : Nat) : Ob → Bool
  | .lst xs => underAll n xs
  | .dct ks vs => underAll n ks && underAll n vs
  | .ins _ _ vs => underAll n vs
  | .gone => true
/-- behind a call: what the callee made is forgotten where nothing names it -/
def trim (n : Nat) (v : Val) (st : Store) : Store := if v.under n && (st.take n).all (Ob.under n) then st.take n else st
/-- a def's body, from its arguments -/
noncomputable def runDf (T : Tab) (cl mk : Nat → List Val → Store → Res Val) (d : Df) (args : List Val) (st : Store) : Res Val :=
  let vs := args ++ d.dfl.drop (args.length - (d.pars - d.dfl.length))
  if vs.length = d.pars ∧ d.dfl.length ≤ d.pars ∧ d.pars - d.dfl.length ≤ args.length then
    (if (closedAll vs && !d.opn) = true then (match evSs T cl mk d.body (vs.map some ++ List.replicate d.locs none) [] with
      | .ret v _ => if v.closed then .ok v st else .stuck
      | .next _ _ => .ok .non st
      | .exc c m _ _ => .exc c m st
      | _ => .stuck)
    else (match evSs T cl mk d.body (vs.map some ++ List.replicate d.locs none) st with
      | .ret v s => .ok v (trim st.length v s)
      | .next _ s => .ok .non (trim st.length .non s)
      | .exc c m _ s => .exc c m (trim st.length .non s)
      | _ => .stuck))
  else .stuck
noncomputable def mkOf (T : Tab) (cl : Nat → List Val → Store → Res Val) (c : Nat) (args : List Val) (st : Store) : Res Val :=
  match look1 c T.ini with
  | some f => (match cl f (.ref st.length :: args) (st ++ [.ins c [] []]) with
    | .ok .non s => .ok (.ref st.length) s
    | .exc c m s => .exc c m s
    | _ => .stuck)
  | none => .stuck
def noF : Nat → List Val → Store → Res Val := fun _ _ _ => .stuck
/-- the def f, called k deep at most -/
noncomputable def callF (T : Tab) : Nat → Nat → List Val → Store → Res Val
  | 0, _, _, _ => .stuck
  | 1, f, args, st => match T.defs[f]? with
    | some d => runDf T noF noF d args st
    | none => .stuck
  | k + 2, f, args, st => match T.defs[f]? with
    | some d => runDf T (callF T (k + 1)) (mkOf T (callF T k)) d args st
    | none => .stuck
end Nl
end
section
set_option Elab.async false
set_option linter.all false
set_option maxRecDepth 100000
set_option maxHeartbeats 4000000
/-! NlExc: exceptions of own classes that bear one text; the text's tuple is tracked. -/
namespace Nlx
open PySem PySem.Spec PyProof.Rows L2

/-- the exception's object: its class, its own dict, no context, its arguments at t -/
def Bears (cls : Value) (t : Addr) (own : Option Addr) (o : Obj) : Prop :=
  (o.cls = cls ∧ o.dict = own) ∧ PXN.CtxN o ∧ ∀ fs : Array Value, o.data = .fields fs → fs[0]? = some (.ref t)
theorem Bears.keeps {cls : Value} {t : Addr} {own : Option Addr} : PXN.Steady1 (Bears cls t own) := fun o v b => by
  obtain ⟨⟨b1, b2⟩, b3, b4⟩ := b
  refine ⟨⟨PXN.steady_cls o v b1, PXN.steady_dict o v b2⟩, PXN.steady_ctx o v b3, fun fs e => ?_⟩
  obtain ⟨c, d, dt, sl⟩ := o
  cases dt with
  | fields gs =>
    have e2 : gs.setIfInBounds 1 v = fs := Data.fields.inj e
    rw [← e2, Array.getElem?_setIfInBounds_ne (by decide)]
    exact b4 gs rfl
  | _ => cases e
/-- what the heap tells of it: its text, and the own dict where there is one -/
def Told (H : Hp) (t : Addr) (own : Option Addr) : Prop :=
  ∃ m : Str, H t = some (.tup [.str m]) ∧ ∀ d, own = some d → H d = some (.xd [(("reason" : Str), .str m)])

/-- an exception on its way in X -/
def Aloft (X : Cx) (W : WX) (u : Value) (s₂ : Shared) : Prop :=
  ∃ (a : Addr) (G : Heap) (s₁ : Shared) (ps : List (Addr × Obj)) (σ : L2.St) (H : Hp) (cls : Value) (t : Addr) (own : Option Addr),
    (u = .ref a ∧ Inv X ps σ H s₁) ∧ ((∀ b o, s₁.heap.get? b = some o → b ∉ frs X.stack → G.get? b = some o) ∧ s₁.heap.UpToSlots s₂.heap) ∧
    L2.Sky G X.stack a (Bears cls t own) X.env.locals s₂.heap ∧ (H a = none ∧ s₂.os = s₁.os ∧ AllBare s₂.gens) ∧ Told H t own ∧ W cls (some t) σ H
def Caught (X : Cx) (W : WX) : Prop := ∀ u s₂, Aloft X W u s₂ → X.xe u s₂
theorem Caught.none {X : Cx} : Caught X (fun _ _ _ _ => False) := fun _ _ h => by
  obtain ⟨_, _, _, _, _, _, _, _, _, _, _, _, _, _, z⟩ := h
  exact z.elim
/-- an exception behind a call -/
def Left (P : Program) (w : World) (outer : List Env) (H : Hp) (s : Shared) (E : XK) (u : Value) (s₂ : Shared) : Prop :=
  ∃ (a : Addr) (G : Heap) (H' : Hp) (cls : Value) (t : Addr) (own : Option Addr),
    (u = .ref a ∧ HandSPX.FlyingZ G outer a (Bears cls t own) s₂.heap) ∧ (HOk P w H' G ∧ UB (frs outer) H H' s.heap G s₂.heap) ∧ (H' a = none ∧ s₂.os = s.os ∧ AllBare s₂.gens) ∧ Told H' t own ∧ E cls (some t) H'

section
variable {X : Cx} {ps : List (Addr × Obj)} {σ : L2.St} {H : Hp} {s s₁ s₂ : Shared} {G : Heap} {W : WX} {E : XK} {u : Value}

/-- a callee's exception in the caller -/
theorem Aloft.ofCall (I : Inv X ps σ H s) (hW : ∀ cls d H', E cls d H' → W cls d σ H') (c : Left X.prog X.w X.stack H s E u s₂) : Aloft X W u s₂ := by
  obtain ⟨a, G, H', cls, t, own, ⟨rfl, fl⟩, ⟨hok, ub⟩, ⟨na, os, ag⟩, tl, hE⟩ := c
  -- the part of the heap that the ground and the frames name
  obtain ⟨R, r1, r2⟩ := restrict s₂.heap fun b => (G.get? b).isSome || decide (b ∈ frs X.stack)
  have stays : G.StaysIn s₂.heap := fl.1
  have inR : ∀ b o, G.get? b = some o → R.get? b = some o := fun b o e => (r1 b (by simp [e])).trans (stays b o e)
  have frR : ∀ b, b ∈ frs X.stack → R.get? b = s₂.heap.get? b := fun b hb => r1 b (by simp [hb])
  have ofR : ∀ b o, R.get? b = some o → s₂.heap.get? b = some o ∧ ((G.get? b).isSome = true ∨ b ∈ frs X.stack) := fun b o e => by
    cases q : ((G.get? b).isSome || decide (b ∈ frs X.stack)) with
    | true =>
      have e' := e
      rw [r1 b q] at e'
      exact ⟨e', by simpa [Bool.or_eq_true] using q⟩
    | false =>
      have z := r2 b q
      rw [e] at z
      cases z
  have J : Inv X ps σ H' { s with heap := R, gens := s₂.gens, drawn := s₂.drawn, toks := s₂.toks } := by
    refine I.call (ch := []) ⟨fun b o e n hb _ => inR b o (ub.keep b o e n hb), fun b o e _ hb _ => ?_, fun b o e n _ => ub.free b o e n, fun b o e _ => ?_, ub.tups, ub.frzs, ub.tbls⟩ (hok.kept inR) ag (fun _ z => nomatch z)
    · obtain ⟨sl, q⟩ := ub.slot b o e hb
      exact ⟨sl, (frR b hb).trans q⟩
    · by_cases hb : b ∈ frs X.stack
      · obtain ⟨sl, q⟩ := ub.slot b o e hb
        exact ⟨_, (frR b hb).trans q⟩
      · obtain ⟨o', q⟩ := ub.there b o e hb
        exact ⟨o', inR b o' q⟩
  refine ⟨a, G, _, ps, σ, H', cls, t, own, ⟨rfl, J⟩, ⟨fun b o e hb => ?_, Heap.UpToSlots.of_keeps fun b o e => (ofR b o e).1⟩, .inr (.inl fl), ⟨na, os, ag⟩, tl, hW _ _ _ hE⟩
  obtain ⟨e', h⟩ := ofR b o e
  rcases h with h | h
  · obtain ⟨o', q⟩ := Option.isSome_iff_exists.mp h
    have z := stays b o' q
    rw [e'] at z
    cases z
    exact q
  · exact absurd h hb

/-- one that was made just now -/
theorem Aloft.fresh {a t : Addr} {oe : Obj} {fs : Array Value} {cls : Value} {own : Option Addr} (I : Inv X ps σ H s₁) (k : ∀ b o, s₁.heap.get? b = some o → s₂.heap.get? b = some o) (ha : s₁.heap.get? a = none)
    (he : s₂.heap.get? a = some oe) (hz : Bears cls t own oe) (hd : oe.data = .fields fs) (h1 : fs[1]? = some .none) (na : H a = none) (os : s₂.os = s₁.os) (ag : AllBare s₂.gens) (tl : Told H t own) (w : W cls (some t) σ H) :
    Aloft X W (.ref a) s₂ := by
  have gone : (PySem.W.hideAll s₁.heap (frs X.stack)).get? a = none := by
    cases q : (PySem.W.hideAll s₁.heap (frs X.stack)).get? a with
    | none => rfl
    | some o =>
      have z := PySem.W.of_hideAll _ q
      rw [ha] at z
      cases z
  have ff : s₂.heap.FunFrames (PySem.W.hideAll s₁.heap (frs X.stack)) X.stack :=
    Heap.FunFrames.of_keeps (fun b o e _ => ⟨o, k b o e, rfl⟩) (funFrames_none I.stack fun b hb => PySem.W.hideAll_none _ hb)
  exact ⟨a, _, s₁, ps, σ, H, cls, t, own, ⟨rfl, I⟩, ⟨fun b o e hb => PySem.W.hideAll_get _ e hb, Heap.UpToSlots.of_keeps k⟩,
    .inl ⟨fun b o e => k b o (PySem.W.of_hideAll _ e), gone, ff, oe, fs, he, hz, hd, h1⟩, ⟨na, os, ag⟩, tl, w⟩

/-- it goes out of the def -/
theorem Aloft.out (hs : X.stack = X.env :: X.outer) (hf : X.env.frame = some X.env.locals) (hex : X.ex = []) {E₁ : Value → Shared → Prop} (hW : ∀ cls d σ H, W cls d σ H → E cls d H) (x : Aloft X W u s₂) :
    wpAny (model X.prog X.w) X.A (leaving X.env u) (fun _ z => Left X.prog X.w X.outer X.H_0 X.s_0 E u z) E₁ s₂ := by
  obtain ⟨a, G, s₁, ps, σ, H, cls, t, own, ⟨rfl, I⟩, ⟨nb, up⟩, sky, ⟨na, os, ag⟩, tl, w⟩ := x
  have frames : X.A.frames = some (X.env :: X.outer) := by rw [I.ok.frames, hs]
  have noEx : ∀ b, b ∉ X.ex := fun b hb => by rw [hex] at hb; cases hb
  have noSt : ∀ b o, X.s_0.heap.get? b = some o → b ∉ X.fs → b ∉ frs X.stack := fun b o e hb hm => by
    rcases List.mem_cons.mp (I.stkSub b hm) with z | z
    · have h1 := Heap.lt_size e
      rw [z] at h1
      exact absurd (Nat.lt_of_lt_of_le h1 I.ok.above) (Nat.lt_irrefl _)
    · exact hb z
  have last : ∀ h', HandSPX.FlyingZ G X.outer a (Bears cls t own) h' → s₂.heap.UpToSlots h' → Left X.prog X.w X.outer X.H_0 X.s_0 E (.ref a) { s₂ with heap := h' } := fun h' fl up' => by
    refine ⟨a, G, H, cls, t, own, ⟨rfl, fl⟩, ⟨I.inGround nb, ?_⟩, ⟨na, os.trans I.os, ag⟩, tl, hW _ _ _ _ w⟩
    refine ⟨fun b o e n hb => nb b o (I.base.keep b o e n hb (noEx b)) (noSt b o e hb), fun b o e hb => ?_, fun b o e n => I.base.free b o e n (noEx b), fun b o e hb => ?_, I.base.tups, I.base.frzs, I.base.tbls⟩
    · obtain ⟨_, o₀, e₀, hnf⟩ := I.ok.funs.mem hb
      rw [e] at e₀
      cases e₀
      obtain ⟨_, q1⟩ := I.base.slot b o e (I.ok.frf b hb) hb (noEx b)
      obtain ⟨_, q2⟩ := up b _ q1 hnf
      obtain ⟨sl, q3⟩ := up' b _ q2 hnf
      exact ⟨sl, q3⟩
    · obtain ⟨o', q⟩ := I.base.there b o e (noEx b)
      exact ⟨o', nb b o' q (noSt b o e hb)⟩
  rw [hs] at sky
  rcases sky with ⟨hB, hn, hl, oe, fs, he, hz, hd, h1⟩ | fl | held
  · exact PXN.leaving_firstZ Bears.keeps frames hl hf he hB hn hd h1 hz last
  · exact PXN.leaves_onZ Bears.keeps frames hf fl last
  · exact HandSPX.leaves_heldZ hf held last
/-- what a def's body wishes of exceptions -/
theorem Caught.def_ (hs : X.stack = X.env :: X.outer) (hf : X.env.frame = some X.env.locals) (hex : X.ex = []) {E₁ : Value → Shared → Prop}
    (hx : X.xe = fun e z => wpAny (model X.prog X.w) X.A (leaving X.env e) (fun _ y => Left X.prog X.w X.outer X.H_0 X.s_0 E e y) E₁ z) : Caught X (fun cls d _ H => E cls d H) := fun u z x => by
  rw [hx]
  exact Aloft.out (W := fun cls d _ H => E cls d H) (E := E) hs hf hex (fun _ _ _ _ h => h) x
/-- noted at the frame that looks at it, then landed -/
theorem lands {M : Model} {A : Around} {E₁ : Value → Shared → Prop} {env : Env} {outer : List Env} {L a : Addr} {Z : Obj → Prop} {Q : Unit → Shared → Prop} (hZ : PXN.Steady1 Z) (frames : A.frames = some (env :: outer)) (hf : env.frame = some L)
    (x : L2.Sky G (env :: outer) a Z L s.heap) (hQ : ∀ h', HandSPX.FlyingZ G (env :: outer) a Z h' → s.heap.UpToSlots h' → Q () { s with heap := h' }) :
    wpAny M A (noteFrame (.ref a) env) (fun _ z => wpAny M A (setFlight (.ref a) none) Q E₁ z) E₁ s :=
  L2N.Sky.land hZ frames hf x hQ
end

/-! ### raise C(text) -/
section
variable {X : Cx} {C : Addr} {bmB : List Value} {B newId initId : String} {W : WX}
/-- what is raised: the tuple of the text is new -/
def tRaise (C : Addr) (W : WX) (te : TE) : TS := fun _ σ H => te σ H fun x H1 => ∃ m : Str, [x] = [V.str m] ∧ ∀ t, H1 t = none → W (.ref C) (some t) σ (upd H1 t (.tup [.str m]))
theorem ps_rai {x : Str} {e : Expr} {te : TE} {p pos pos2 : Pos} (hc : X.calm = true) (tk : Caught X W) (F : ExcBaseFacts B newId initId bmB) (q : PySem.W.excIn X.K C bmB newId = true) (gC : X.mg x = some (.ref C))
    (kC : PySem.W.keepIn X.K (.ref C) = true) (r : Raises X (.ref C)) (hg : Gl X x) (he : PE X e te) (hse : starEach [e] X.env = [(false, eval e X.env)])
    (hdb : (x == ("__debug__" : Str)) = false := by decide) : PS X (.Raise (some (.Call (.Name x p) [e] [] pos)) none pos2) (tRaise C W te) := by
  refine ⟨fun pins s σ H D I h => ?_⟩
  show wpAny _ _ (do standAt pos2; raiseStmt X.env (some (do let v ← eval (.Call (.Name x p) [e] [] pos) X.env; standAt pos2; pure v)) none) _ _ _
  have ha : PA X [e] (tCons te tNil) := pa_cons he pa_nil (by rw [hse]; rfl)
  have made : wpAny (model X.prog X.w) X.A (eval (.Call (.Name x p) [e] [] pos) X.env) (fun v s₂ => ∃ a oe fs, v = .ref a ∧ s₂.heap.get? a = some oe ∧ oe.cls = .ref C ∧ oe.data = .fields fs ∧ fs[1]? = some .none ∧ X.K.In s₂.heap ∧ Aloft X W v s₂) X.xe s := by
    refine wpAny_Call_Name_kw (ld_glob I hg gC ?_ hdb)
    have h' : tCons te tNil σ H (fun vs H1 => ∃ m : Str, vs = [V.str m] ∧ ∀ t, H1 t = none → W (.ref C) (some t) σ (upd H1 t (.tup [.str m]))) := h
    refine PySem.W.callWith_K (h₀ := X.base) I.ok.mod.kin kC (thn (ha.run pos pins s σ H _ I h') fun us s1 hh => ?_) hse rfl
    obtain ⟨vs, H1, I1, r1, m, rfl, hw⟩ := hh
    refine ⟨I1.kIn, ?_⟩
    cases r1 with
    | cons ru rn =>
      rename_i u us'
      cases rn
      show wpAny _ _ (call (.ref C) [u]) _ _ _
      obtain ⟨bm, N, nm, qn, bs, hdct, sn, sub, ab, col, dd, k0, k1, k2, k3, k5, mN, hC, hN, hni, T⟩ := exc_obj I1.kIn q
      refine wpAny_call_exc_subT F T hC hN hni (fun h' a hm => ?_) (by show 1 ≤ sizeLine; rw [sizeLine_eq]; omega)
      obtain ⟨t, he, hnt, ht⟩ := hm.there
      have nea : ∀ b u, s1.heap.get? b = some u → b ≠ a := fun b u e z => by rw [z, hm.new] at e; cases e
      have ta : t ≠ a := fun z => by
        rw [z, he] at ht
        have z2 := congrArg (fun o => o.map (·.cls)) ht
        cases z2
      have kp : ∀ b u, s1.heap.get? b = some u → (PySem.W.hideAll h' [a]).get? b = some u := fun b u e => PySem.W.hideAll_get _ (hm.keeps b u e) (by simpa using nea b u e)
      have tt : (PySem.W.hideAll h' [a]).get? t = some { cls := .type "tuple", data := .seq [u].toArray } := PySem.W.hideAll_get _ ht (by simpa using ta)
      have nt : H1 t = none := I1.hok.gone hnt
      have na : H1 a = none := I1.hok.gone hm.new
      have J : Inv X pins σ (upd H1 t (.tup [.str m])) { s1 with heap := PySem.W.hideAll h' [a] } :=
        I1.laidN (t' := s1.toks) kp hnt nt ⟨by show 1 ≤ sizeLine; rw [sizeLine_eq]; omega, [u], .cons ru .nil, _, tt, rfl, _, rfl⟩
      refine ⟨a, _, _, rfl, he, rfl, rfl, rfl, I1.kIn.keeps hm.keeps, ?_⟩
      refine Aloft.fresh (own := none) (t := t) J (fun b o e => PySem.W.of_hideAll _ e) (PySem.W.hideAll_none _ (by simp)) he ⟨⟨rfl, rfl⟩, fun vs e => by cases e; rfl, fun fs e => by cases e; rfl⟩ rfl rfl ?_ rfl J.bare
        ⟨m, upd_same, fun d z => by cases z⟩ (hw t nt)
      rw [upd_ne (Ne.symm ta)]
      exact na
  refine wpAny_bind (wpAny_standAt (raise_made (I.ok.hd hc) (wpAny_bind (wpAny_mono made (fun u s1 hu => wpAny_bind (wpAny_standAt (wpAny_pure ?_))) fun _ _ x => x))))
  obtain ⟨a, oe, fs, rfl, ha, hcl, hd, h1, hk, al⟩ := hu
  obtain ⟨r1, r2⟩ := r (model X.prog X.w) s1.heap hk
  exact ⟨a, oe, fs, _, rfl, ha, hcl, hd, h1, r1, r2, tk _ _ al⟩
end

/-! ### try: .. except c [as n]: a suite -/
/-- the ends behind the suite: the clause's name goes -/
def goneS (i : Option Nat) (σ : L2.St) : L2.St := match i with
  | some j => σ.set j none
  | none => σ
def bound (i : Option Nat) (a : Addr) (σ : L2.St) : L2.St := match i with
  | some j => σ.set j (some (.ref a))
  | none => σ
def endsBehind (i : Option Nat) (D : Ends) : Ends := { nx := fun σ H => D.nx (goneS i σ) H, rt := D.rt, bk := fun σ H => D.bk (goneS i σ) H, ct := fun σ H => D.ct (goneS i σ) H }
def wTry (K : PySem.W.Frag) (c : Value) (i : Option Nat) (ts : Addr → Value → Addr → Option Addr → TS) (Wout : WX) (D : Ends) : WX := fun cls d σ H =>
  ∃ b, PySem.W.exmOne K cls c = some b ∧ (b = true → ∀ a t own, d = some t → H a = none → Told H t own → ts a cls t own (endsBehind i D) (bound i a σ) H) ∧ (b = false → Wout cls d σ H)
/-- the clause's name -/
def NameOk (X : Cx) (nm : Option Str) (i : Option Nat) : Prop := match nm, i with
  | some n, some j => X.N[j]? = some n ∧ X.env.kindOf n = some .local
  | none, none => True
  | _, _ => False
section
variable {X : Cx} {x : Str} {nm : Option Str} {c : Value} {i : Option Nat} {body suite : List Stmt} {b₀ : Stmt} {np pos pos' : Pos} {tb : WX → TS} {ts : Addr → Value → Addr → Option Addr → TS} {Wout : WX}
theorem ps_tryM (hs : X.stack = X.env :: X.outer) (hf : X.env.frame = some X.env.locals) (hN : X.N.Nodup) (hnm : NameOk X nm i) (hc : Names X x c) (tk : Caught X Wout)
    (hb : ∀ (W : WX) (pn : List (Addr × Obj)) (xe : Value → Shared → Prop), Caught (X.tr pn xe) W → PassesOwn (model X.prog X.w) X.A X.env xe → PSs (X.tr pn xe) body (tb W))
    (hsu : ∀ (a : Addr) (oe : Obj) (cls : Value) (t : Addr) (own : Option Addr) (pn : List (Addr × Obj)), Bears cls t own oe → (∃ vs, oe.data = .fields vs) → PSs (X.suite a ((a, oe) :: pn)) (b₀ :: suite) (ts a cls t own)) :
    PS X (.Try body [.ExceptHandler (some (.Name x np)) nm (b₀ :: suite) pos'] [] [] pos) (fun D σ H => tb (wTry X.K c i ts Wout D) D σ H) := by
  refine ⟨fun pins s σ H D I h => ?_⟩
  have ok := I.ok
  have frames : X.A.frames = some (X.env :: X.outer) := by rw [ok.frames, hs]
  refine wpAny_Try_except ?_
  refine wpAny_mono ((hb (wTry X.K c i ts Wout D) (X.pn ++ pins) _ (fun u z air => ?_) PassesOwn.looking).run [] s σ H D (I.toTry _) h) (fun f s1 hsp => ?_) (fun e s1 he => he)
  · obtain ⟨a, G, sI, ps', σ', H', cls, t, own, ⟨rfl, J'⟩, ⟨nb, up⟩, sky, ⟨na, os, ag⟩, tl, b, hb1, hyes, hno⟩ := air
    have J : Inv X pins σ' H' sI := J'.ofTry ok
    have sky' : L2.Sky G (X.env :: X.outer) a (Bears cls t own) X.env.locals z.heap := by rw [← hs]; exact sky
    have J1 : ∀ h', G.StaysIn h' → z.heap.UpToSlots h' → Inv X pins σ' H' { z with heap := h' } := fun h' st up' => J.landed (s' := { z with heap := h' }) nb st (up.trans up') os ag
    refine lands Bears.keeps frames hf sky' fun h3 fl3 up3 => ?_
    have K3 := J1 h3 fl3.1 up3
    obtain ⟨o3, v3, he3, hz3, hd3⟩ := fl3.there
    have nfr : a ∉ frs (X.env :: X.outer) := fun hm => by
      obtain ⟨_, o', e', hnf⟩ := fl3.2.2.1.mem hm
      rw [he3] at e'
      cases e'
      exact hnf _ hd3
    have nL : a ≠ X.env.locals := fun q => nfr (List.mem_filterMap.mpr ⟨X.env, List.mem_cons_self, by rw [hf, q]⟩)
    have nF : a ∉ X.fs := fun hm => by
      obtain ⟨e, he, q⟩ := List.mem_filterMap.mp hm
      exact nfr (List.mem_filterMap.mpr ⟨e, List.mem_cons_of_mem _ he, q⟩)
    have S3 := K3.suite he3 hd3 na nL nF
    refine wpAny_handleBy_cons (codeAny_handlers_test ?_) (by intro q; cases q)
    have LT : PySem.W.Looks (model X.prog X.w) h3 (typeOf (.ref a)) cls := fun A Q E s k q => wpAny_typeOf_ref (k _ _ he3) (by rw [hz3.1.1]; exact q)
    have LM := PySem.W.exm_one (M := model X.prog X.w) (K3.kIn) LT hb1
    have asked : ∀ {Q : Value → Shared → Prop} {E : Value → Shared → Prop}, Q c { z with heap := h3 } → wpAny (model X.prog X.w) (X.A.mark (some (.ref a))) (eval (.Name x np) X.env) Q E { z with heap := h3 } := fun {Q E} q => by
      obtain ⟨hg, hdb, hm | ⟨hm, hv, hn⟩⟩ := hc
      · exact ld_glob (X := X.suite a ((a, o3) :: (X.pn ++ pins))) S3 hg hm q hdb
      · exact ld_blt (X := X.suite a ((a, o3) :: (X.pn ++ pins))) S3 hg hm hv q hn hdb
    refine asked (LM.here ?_)
    cases b with
    | true =>
      cases nm with
      | none =>
        cases i with
        | some _ => exact hnm.elim
        | none =>
          refine codeAny_handlers_suite ?_
          refine HandSPX.lands_againZ fl3 fun h4 fl4 up4 => ?_
          obtain ⟨o4, v4, he4, hz4, hd4⟩ := fl4.there
          have S4 := (J1 h4 fl4.1 (up3.trans up4)).suite he4 hd4 na nL nF
          refine wpAny_mono ((hsu a o4 cls t own (X.pn ++ pins) hz4 ⟨_, hd4⟩).run [] _ _ H' _ S4 (hyes rfl a t own rfl na tl)) (fun f s6 hsp => ?_) (fun _ _ q => False.elim q)
          cases f with
          | next => obtain ⟨σ6, H6, S6, q6⟩ := hsp; exact ⟨_, _, S6.unsuite ok, q6⟩
          | brk => obtain ⟨σ6, H6, S6, q6⟩ := hsp; exact ⟨_, _, S6.unsuite ok, q6⟩
          | cont => obtain ⟨σ6, H6, S6, q6⟩ := hsp; exact ⟨_, _, S6.unsuite ok, q6⟩
          | ret u => obtain ⟨v6, σ6, H6, S6, r6, q6⟩ := hsp; exact ⟨_, _, _, S6.unsuite ok, r6, q6⟩
      | some n =>
        cases i with
        | none => exact hnm.elim
        | some j =>
          obtain ⟨hi, hl⟩ := hnm
          refine codeAny_handlers_suite_as ?_
          refine HandSPX.lands_againZ fl3 fun h4 fl4 up4 => ?_
          obtain ⟨o4, v4, he4, hz4, hd4⟩ := fl4.there
          have S4 := (J1 h4 fl4.1 (up3.trans up4)).suite he4 hd4 na nL nF
          refine store_ok (X := X.suite a ((a, o4) :: (X.pn ++ pins))) (v := .ref a) S4 hN hi (.inl hl) rfl (fun s5 S5 => ?_) (.inr hl)
          refine wpAny_mono ((hsu a o4 cls t own (X.pn ++ pins) hz4 ⟨_, hd4⟩).run [] s5 _ H' _ S5 (hyes rfl a t own rfl na tl)) (fun f s6 hsp => ?_) (fun _ _ q => False.elim q)
          have fin : ∀ {σ6 : L2.St} {H6 : Hp} {Q : Shared → Prop}, Inv (X.suite a ((a, o4) :: (X.pn ++ pins))) [] σ6 H6 s6 → (∀ s7, Inv X pins (σ6.set j none) H6 s7 → Q s7) →
              wpAny (model X.prog X.w) X.A (do bindName X.env n .none; unbindBehindTheSuite X.env n pos') (fun _ s7 => Q s7) X.xe s6 := fun {σ6 H6 Q} S6 hq => gone_ok (S6.unsuite ok) hN hi hl hq
          cases f with
          | next => obtain ⟨σ6, H6, S6, q6⟩ := hsp; exact fin S6 fun s7 J7 => ⟨_, _, J7, q6⟩
          | brk => obtain ⟨σ6, H6, S6, q6⟩ := hsp; exact fin S6 fun s7 J7 => ⟨_, _, J7, q6⟩
          | cont => obtain ⟨σ6, H6, S6, q6⟩ := hsp; exact fin S6 fun s7 J7 => ⟨_, _, J7, q6⟩
          | ret u => obtain ⟨v6, σ6, H6, S6, r6, q6⟩ := hsp; exact fin S6 fun s7 J7 => ⟨_, _, _, J7, r6, q6⟩
    | false =>
      show wpAny _ X.A (handleBy (.ref a) X.env []) _ _ _
      refine wpAny_handleBy_nil ?_
      obtain ⟨k1, k2, k3, oe, vs, T, oT, fs', he, hz, hd, h1, hr⟩ := id fl3
      unfold PySem.passOn
      refine wpAny_bind (wpAny_field he hd h1 ?_)
      rw [if_neg (show ¬ ((Value.ref T == Value.none) = true) from by simp)]
      have fin : wpAny (model X.prog X.w) X.A (setFlight (.ref a) X.env.frame) (fun _ s4 => wpAny (model X.prog X.w) X.A (throw (.ref a) : Sem Flow) (SP X pins D) X.xe s4) X.xe { z with heap := h3 } := by
        rw [hf]
        refine HandSPX.setFlight_upZ fl3 fun h4 hh4 up4 => wpAny_throw (tk _ _ ?_)
        exact ⟨a, G, sI, pins, σ', H', cls, t, own, ⟨rfl, J⟩, ⟨nb, (up.trans up3).trans up4⟩, .inr (.inr (by rw [hs]; exact hh4)), ⟨na, os, ag⟩, tl, hno rfl⟩
      first
        | exact wpAny_bind (wpAny_pure (wpAny_bind fin))
        | exact wpAny_bind fin
  · cases f with
    | next => obtain ⟨σ', H', J', q⟩ := hsp; exact wpAny_execs_nil ⟨σ', H', J'.ofTry ok, q⟩
    | brk => obtain ⟨σ', H', J', q⟩ := hsp; exact ⟨σ', H', J'.ofTry ok, q⟩
    | cont => obtain ⟨σ', H', J', q⟩ := hsp; exact ⟨σ', H', J'.ofTry ok, q⟩
    | ret u => obtain ⟨v, σ', H', J', r, q⟩ := hsp; exact ⟨v, σ', H', J'.ofTry ok, r, q⟩
end
/-! ### str(n) of the held exception -/
section
variable {X : Cx} {a : Addr} {oe : Obj} {cls : Value} {t : Addr} {own : Option Addr} {pn : List (Addr × Obj)}
def tMsg (i : Nat) (a t : Addr) : TE := fun σ H Q => σ[i]? = some (some (.ref a)) ∧ ∃ m : Str, H t = some (.tup [.str m]) ∧ Q (.str m) H
theorem pe_msg {i : Nat} {n : Str} {C : Addr} {p p2 pos : Pos} (hu : X.A.units + 2 < cLine) (hz : Bears (.ref C) t own oe) (hf : ∃ vs, oe.data = .fields vs) (hm : X.mg "str" = none) (hg : Gl X "str") (hN : X.N[i]? = some n) (hv : Vis X.env.scope n)
    (hstr : PySem.W.findIn X.K (.ref C) "__str__" = some (some (.builtin "BaseException.__str__"))) (hB : PySem.W.subIn X.K (.ref C) (.type "BaseException") = some true)
    (hd : (n == ("__debug__" : Str)) = false) (hcd : (n == ("__classdict__" : Str)) = false) :
    PE (X.suite a ((a, oe) :: pn)) (.Call (.Name "str" p) [.Name n p2] [] pos) (tMsg i a t) := by
  refine ⟨fun pins s σ H Q I h => ?_⟩
  obtain ⟨ei, m, em, q⟩ := h
  have hse : starEach [Expr.Name n p2] X.env = [(false, eval (.Name n p2) X.env)] := rfl
  have ha : PA (X.suite a ((a, oe) :: pn)) [.Name n p2] (tCons (tVar i) tNil) := pa_cons (pe_var hN hv hd hcd) pa_nil (by first | rfl | exact hse)
  refine Call_ (ld_blt I hg hm (show bootBuiltins "str" = some (.type "str") by decide +kernel) (PyProof.Rows.callWith_type1 (thn (ha.run pos pins s σ H (fun vs H1 => vs = [.ref a] ∧ H1 = H) I ⟨_, ei, rfl, rfl⟩) fun us s1 ⟨vs, H1, I1, r1, ev, eH⟩ => ?_) hse rfl))
  subst ev eH
  cases r1 with
  | cons ru rn =>
    cases rn
    obtain rfl := ru
    obtain ⟨he, _⟩ := I1.pin (a, oe) (List.mem_append_left _ List.mem_cons_self)
    obtain ⟨vs, hdt⟩ := hf
    obtain ⟨its, rv, ⟨ot, eo, ec, k, ed⟩, _⟩ := I1.tuple (SqT.of em)
    cases rv with
    | cons r1 r2 =>
      cases r2
      obtain ⟨tk, rfl⟩ := r1
      refine PySem.P.str_of_C_one (A := (X.suite a ((a, oe) :: pn)).A) (K := X.K) (C := C) (e := a) (t0 := t) (m := m) (tk := tk) hu ⟨I1.kIn, oe, vs, he, hz.1.1, hdt, hz.2.2 _ hdt⟩ ⟨ot, k, eo, ec, ed⟩ hstr hB ?_
      exact ⟨.str m, _, I1, ⟨_, rfl⟩, q⟩
end
end Nlx
end
section
set_option Elab.async false
set_option linter.all false
set_option maxRecDepth 100000
set_option maxHeartbeats 4000000
/-! NlRel: how values and the store of the core language lie in the abstract heap. -/
namespace Nlx
open PySem PySem.Spec PyProof.Rows L2 Nl

/-- a text by its codes -/
def S (l : List Nat) : Str := ⟨l.toArray⟩
theorem S_inj {a b : List Nat} (h : S a = S b) : a = b := by
  have := congrArg (fun x : Str => x.cps.toList) h
  simpa [S] using this
theorem S_len (a : List Nat) : (S a).length = a.length := by simp [S, Str.length]
theorem S_cps (a : List Nat) : (S a).cps.toList = a := by simp [S]
theorem S_app (a b : List Nat) : S a ++ S b = S (a ++ b) := by
  show Str.append (S a) (S b) = _
  simp [Str.append, S]
theorem S_of (x : Str) : S x.cps.toList = x := by
  cases x; simp [S]
/-- where defs and classes stand, how fields are called -/
structure Nm where
  fa : Nat → Addr
  ca : Nat → Addr
  xa : Nat → Addr
  fl : Nat → Str
  w : World
def keyOf : Val → Option Key
  | .int i => some (.inl i)
  | .str s => some (.inr (S s))
  | _ => none

section
variable (K : PySem.W.Frag) (N : Nm) (ρ : List Addr) (L : Addr → Prop) (H : Hp)
mutual
def Rep : Val → V → Prop
  | .non, v => v = .non
  | .bl b, v => v = .bl b
  | .int i, v => v = .int i
  | .str s, v => v = .str (S s)
  | .tup xs, v => ∃ a vs, v = .ref a ∧ SqT K H a vs ∧ Reps xs vs
  | .lst xs, v => ∃ a vs, v = .ref a ∧ (H a = some (.lst vs) ∧ ¬ L a) ∧ Reps xs vs
  | .dct ks ws, v => ∃ a kvs, v = .ref a ∧ (H a = some (.dK kvs) ∧ ¬ L a) ∧ ks.map keyOf = kvs.map (fun q => some q.1) ∧ Reps ws (kvs.map (·.2))
  | .obj c fs ws, v => ∃ a dx fvs, v = .ref a ∧ (H a = some (.ins (N.ca c) dx fvs) ∧ ¬ L a) ∧ fvs.map (·.1) = fs.map N.fl ∧ Reps ws (fvs.map (·.2))
  | .ref i, v => ∃ a, v = .ref a ∧ ρ[i]? = some a
  | .fn f, v => v = .ref (N.fa f)
  | .scr ns, v => ∃ a, v = .ref a ∧ ((Rd H a (.lst (ns.map V.int)) ∧ ¬ L a) ∨ SqL K (fun _ => none) a (ns.map V.int))
  | .kon ks ws, v => ∃ a es n vs, v = .ref a ∧ KDict K N.w a es n ∧ Reps ws vs ∧ ∀ z : List Nat, match keyIx (.str z) ks with
    | none => PySem.W.nsIn K a (S z) = some none
    | some j => ∃ u x, vs[j]? = some x ∧ PySem.W.nsIn K a (S z) = some (some u) ∧ RelV x u
def Reps : List Val → List V → Prop
  | [], vs => vs = []
  | x :: xs, vs => ∃ v r, vs = v :: r ∧ Rep x v ∧ Reps xs r
end
def ObRep : Ob → Addr → Prop
  | .lst xs, a => ∃ vs, H a = some (.lst vs) ∧ Reps K N ρ L H xs vs
  | .dct ks ws, a => ∃ kvs, H a = some (.dK kvs) ∧ ks.map keyOf = kvs.map (fun q => some q.1) ∧ Reps K N ρ L H ws (kvs.map (·.2))
  | .ins c fs ws, a => ∃ dx fvs, H a = some (.ins (N.ca c) dx fvs) ∧ fvs.map (·.1) = fs.map N.fl ∧ Reps K N ρ L H ws (fvs.map (·.2))
  | .gone, _ => True
end
/-- an object of the store that may change -/
def LiveAt (ρ : List Addr) (st : Nl.Store) (a : Addr) : Prop := ∃ (i : Nat) (o : Ob), ρ[i]? = some a ∧ st[i]? = some o ∧ o ≠ Ob.gone
/-- what may change: the foreign, and ours -/
def Lv (P : Addr → Prop) (ρ : List Addr) (st : Nl.Store) : Addr → Prop := fun a => P a ∨ LiveAt ρ st a

section
variable (K : PySem.W.Frag) (N : Nm) (P : Addr → Prop)
structure Rel (ρ : List Addr) (st : Nl.Store) (H : Hp) : Prop where
  len : ρ.length = st.length
  nd : ρ.Nodup
  trk : ∀ a ∈ ρ, ∃ o, H a = some o
  fo : ∀ a, P a → (∃ o, H a = some o) ∧ a ∉ ρ
  ob : ∀ (i : Nat) (o : Ob) (a : Addr), st[i]? = some o → ρ[i]? = some a → ObRep K N ρ (Lv P ρ st) H o a
structure Grow (ρ : List Addr) (st : Nl.Store) (H : Hp) (ρ' : List Addr) (st' : Nl.Store) (H' : Hp) : Prop where
  pre : ρ <+: ρ'
  kept : ∀ a o, ¬ LiveAt ρ st a → H a = some o → H' a = some o
  live : ∀ a, LiveAt ρ' st' a → LiveAt ρ st a ∨ H a = none
structure Step (ρ : List Addr) (st : Nl.Store) (H : Hp) (ρ' : List Addr) (st' : Nl.Store) (H' : Hp) : Prop where
  rel : Rel K N P ρ' st' H'
  grow : Grow ρ st H ρ' st' H'
end

section
variable {K : PySem.W.Frag} {N : Nm} {P : Addr → Prop} {ρ ρ' ρ'' : List Addr} {st st' st'' : Nl.Store} {H H' H'' : Hp} {L : Addr → Prop}

theorem Reps.length : ∀ {xs : List Val} {vs : List V}, Reps K N ρ L H xs vs → xs.length = vs.length
  | [], vs, h => by simp only [Reps] at h; subst h; rfl
  | x :: xs, vs, h => by
    simp only [Reps] at h
    obtain ⟨v, r, rfl, _, h2⟩ := h
    simp [Reps.length h2]
theorem Reps.get : ∀ {xs : List Val} {vs : List V} {i : Nat} {d : Val}, Reps K N ρ L H xs vs → xs[i]? = some d → ∃ v, vs[i]? = some v ∧ Rep K N ρ L H d v
  | [], vs, i, d, h, e => by simp at e
  | x :: xs, vs, i, d, h, e => by
    simp only [Reps] at h
    obtain ⟨v, r, rfl, h1, h2⟩ := h
    cases i with
    | zero => simp at e; subst e; exact ⟨v, rfl, h1⟩
    | succ i =>
      obtain ⟨w, e1, e2⟩ := Reps.get (i := i) (d := d) h2 (by simpa using e)
      exact ⟨w, by simpa using e1, e2⟩
theorem Reps.getV : ∀ {xs : List Val} {vs : List V} {i : Nat} {v : V}, Reps K N ρ L H xs vs → vs[i]? = some v → ∃ d, xs[i]? = some d ∧ Rep K N ρ L H d v := fun {xs vs i v} h e => by
  have hl := h.length
  have hi : i < vs.length := by
    rcases Nat.lt_or_ge i vs.length with q | q
    · exact q
    · rw [List.getElem?_eq_none q] at e; cases e
  obtain ⟨w, e1, e2⟩ := h.get (i := i) (d := xs[i]'(by omega)) (List.getElem?_eq_getElem _)
  rw [e] at e1; cases e1
  exact ⟨_, List.getElem?_eq_getElem _, e2⟩
theorem Reps.nil : Reps K N ρ L H [] [] := by simp [Reps]
theorem Reps.cons {x : Val} {v : V} {xs : List Val} {vs : List V} (h : Rep K N ρ L H x v) (t : Reps K N ρ L H xs vs) : Reps K N ρ L H (x :: xs) (v :: vs) := by
  simp only [Reps]; exact ⟨v, vs, rfl, h, t⟩
theorem Reps.app : ∀ {xs ys : List Val} {vs ws : List V}, Reps K N ρ L H xs vs → Reps K N ρ L H ys ws → Reps K N ρ L H (xs ++ ys) (vs ++ ws)
  | [], ys, vs, ws, h, t => by simp only [Reps] at h; subst h; exact t
  | x :: xs, ys, vs, ws, h, t => by
    simp only [Reps] at h
    obtain ⟨v, r, rfl, h1, h2⟩ := h
    exact .cons h1 (Reps.app h2 t)
theorem Reps.take : ∀ {xs : List Val} {vs : List V} (n : Nat), Reps K N ρ L H xs vs → Reps K N ρ L H (xs.take n) (vs.take n)
  | _, _, 0, _ => by simp [Reps]
  | [], vs, n + 1, h => by simp only [Reps] at h; subst h; simp [Reps]
  | x :: xs, vs, n + 1, h => by
    simp only [Reps] at h
    obtain ⟨v, r, rfl, h1, h2⟩ := h
    exact .cons h1 (Reps.take n h2)
theorem Reps.drop : ∀ {xs : List Val} {vs : List V} (n : Nat), Reps K N ρ L H xs vs → Reps K N ρ L H (xs.drop n) (vs.drop n)
  | _, _, 0, h => h
  | [], vs, n + 1, h => by simp only [Reps] at h; subst h; simp [Reps]
  | x :: xs, vs, n + 1, h => by
    simp only [Reps] at h
    obtain ⟨v, r, rfl, h1, h2⟩ := h
    exact Reps.drop n h2
theorem Reps.setAt : ∀ {xs : List Val} {vs : List V} {x : Val} {v : V} (i : Nat), Reps K N ρ L H xs vs → Rep K N ρ L H x v → Reps K N ρ L H (xs.set i x) (vs.set i v)
  | [], vs, _, _, i, h, _ => by simp only [Reps] at h; subst h; simp [Reps]
  | y :: xs, vs, x, v, 0, h, q => by
    simp only [Reps] at h
    obtain ⟨w, r, rfl, h1, h2⟩ := h
    exact .cons q h2
  | y :: xs, vs, x, v, i + 1, h, q => by
    simp only [Reps] at h
    obtain ⟨w, r, rfl, h1, h2⟩ := h
    exact .cons h1 (Reps.setAt i h2 q)
theorem Reps.rev {xs : List Val} {vs : List V} (h : Reps K N ρ L H xs vs) : Reps K N ρ L H xs.reverse vs.reverse := by
  induction xs generalizing vs with
  | nil => simp only [Reps] at h; subst h; simp [Reps]
  | cons x xs ih =>
    simp only [Reps] at h
    obtain ⟨v, r, rfl, h1, h2⟩ := h
    simp only [List.reverse_cons]
    exact (ih h2).app (.cons h1 .nil)

theorem Rel.liveKind (R : Rel K N P ρ st H) {a : Addr} (l : LiveAt ρ st a) : (∃ xs, H a = some (.lst xs)) ∨ (∃ kvs, H a = some (.dK kvs)) ∨ ∃ C dx fs, H a = some (.ins C dx fs) := by
  obtain ⟨i, o, e1, e2, ne⟩ := l
  have q := R.ob i o a e2 e1
  cases o with
  | lst xs => obtain ⟨vs, h, _⟩ := q; exact .inl ⟨_, h⟩
  | dct ks ws => obtain ⟨kvs, h, _⟩ := q; exact .inr (.inl ⟨_, h⟩)
  | ins c fs ws => obtain ⟨dx, fvs, h, _⟩ := q; exact .inr (.inr ⟨_, _, _, h⟩)
  | gone => exact absurd rfl ne
theorem Rel.notLive (R : Rel K N P ρ st H) {a : Addr} {o : HO} (h : H a = some o) (n1 : ∀ xs, o ≠ .lst xs) (n2 : ∀ xs, o ≠ .dK xs) (n3 : ∀ C dx fs, o ≠ .ins C dx fs) : ¬ LiveAt ρ st a := fun l => by
  rcases R.liveKind l with ⟨_, e⟩ | ⟨_, e⟩ | ⟨_, _, _, e⟩
  · rw [h] at e; exact n1 _ (Option.some.inj e)
  · rw [h] at e; exact n2 _ (Option.some.inj e)
  · rw [h] at e; exact n3 _ _ _ (Option.some.inj e)
theorem Grow.sqT (R : Rel K N P ρ st H) (g : Grow ρ st H ρ' st' H') {a : Addr} {vs : List V} (h : SqT K H a vs) : SqT K H' a vs := by
  rcases h with (h | ⟨o, h⟩) | h
  · exact .inl (.inl (g.kept _ _ (R.notLive h (fun _ z => by cases z) (fun _ z => by cases z) (fun _ _ _ z => by cases z)) h))
  · exact .inl (.inr ⟨o, g.kept _ _ (R.notLive h (fun _ z => by cases z) (fun _ z => by cases z) (fun _ _ _ z => by cases z)) h⟩)
  · exact .inr h
theorem Grow.still (g : Grow ρ st H ρ' st' H') {a : Addr} {o : HO} (h : H a = some o) (n : ¬ Lv P ρ st a) : H' a = some o ∧ ¬ Lv P ρ' st' a := by
  refine ⟨g.kept _ _ (fun l => n (.inr l)) h, fun l => ?_⟩
  rcases l with l | l
  · exact n (.inl l)
  · rcases g.live a l with q | q
    · exact n (.inr q)
    · rw [h] at q; cases q
mutual
theorem Rep.grow (R : Rel K N P ρ st H) (g : Grow ρ st H ρ' st' H') : ∀ (d : Val) (v : V), Rep K N ρ (Lv P ρ st) H d v → Rep K N ρ' (Lv P ρ' st') H' d v
  | .non, v, h => by simpa only [Rep] using h
  | .bl b, v, h => by simpa only [Rep] using h
  | .int i, v, h => by simpa only [Rep] using h
  | .str s, v, h => by simpa only [Rep] using h
  | .fn f, v, h => by simpa only [Rep] using h
  | .scr ns, v, h => by
    simp only [Rep] at h ⊢
    obtain ⟨a, e, q⟩ := h
    refine ⟨a, e, ?_⟩
    rcases q with ⟨q | ⟨o, q⟩, n⟩ | q
    · exact .inl ⟨.inl (g.still q n).1, (g.still q n).2⟩
    · exact .inl ⟨.inr ⟨o, (g.still q n).1⟩, (g.still q n).2⟩
    · exact .inr q
  | .kon ks ws, v, h => by
    simp only [Rep] at h ⊢
    obtain ⟨a, es, n, vs, e, q, r, z⟩ := h
    exact ⟨a, es, n, vs, e, q, Reps.grow R g ws vs r, z⟩
  | .tup xs, v, h => by
    simp only [Rep] at h ⊢
    obtain ⟨a, vs, e, q, r⟩ := h
    exact ⟨a, vs, e, g.sqT R q, Reps.grow R g xs vs r⟩
  | .lst xs, v, h => by
    simp only [Rep] at h ⊢
    obtain ⟨a, vs, e, q, r⟩ := h
    exact ⟨a, vs, e, g.still q.1 q.2, Reps.grow R g xs vs r⟩
  | .dct ks ws, v, h => by
    simp only [Rep] at h ⊢
    obtain ⟨a, kvs, e, q, e2, r⟩ := h
    exact ⟨a, kvs, e, g.still q.1 q.2, e2, Reps.grow R g ws _ r⟩
  | .obj c fs ws, v, h => by
    simp only [Rep] at h ⊢
    obtain ⟨a, dx, fvs, e, q, e2, r⟩ := h
    exact ⟨a, dx, fvs, e, g.still q.1 q.2, e2, Reps.grow R g ws _ r⟩
  | .ref i, v, h => by
    simp only [Rep] at h ⊢
    obtain ⟨a, e, q⟩ := h
    obtain ⟨t, rfl⟩ := g.pre
    exact ⟨a, e, by rw [List.getElem?_append_left]; exact q; exact (List.getElem?_eq_some_iff.mp q).1⟩
theorem Reps.grow (R : Rel K N P ρ st H) (g : Grow ρ st H ρ' st' H') : ∀ (xs : List Val) (vs : List V), Reps K N ρ (Lv P ρ st) H xs vs → Reps K N ρ' (Lv P ρ' st') H' xs vs
  | [], vs, h => by simpa only [Reps] using h
  | x :: xs, vs, h => by
    simp only [Reps] at h ⊢
    obtain ⟨v, r, e, h1, h2⟩ := h
    exact ⟨v, r, e, Rep.grow R g x v h1, Reps.grow R g xs r h2⟩
end
theorem ObRep.grow (R : Rel K N P ρ st H) (g : Grow ρ st H ρ' st' H') {o : Ob} {a : Addr} (h : ObRep K N ρ (Lv P ρ st) H o a) (s : ∀ x, H a = some x → H' a = some x) : ObRep K N ρ' (Lv P ρ' st') H' o a := by
  cases o with
  | lst xs => obtain ⟨vs, e, r⟩ := h; exact ⟨vs, s _ e, r.grow R g xs vs⟩
  | dct ks ws => obtain ⟨kvs, e, e2, r⟩ := h; exact ⟨kvs, s _ e, e2, r.grow R g ws _⟩
  | ins c fs ws => obtain ⟨dx, fvs, e, e2, r⟩ := h; exact ⟨dx, fvs, s _ e, e2, r.grow R g ws _⟩
  | gone => trivial
theorem Grow.refl : Grow ρ st H ρ st H := ⟨List.prefix_refl _, fun _ _ _ h => h, fun _ h => .inl h⟩
theorem Grow.trans (g : Grow ρ st H ρ' st' H') (g' : Grow ρ' st' H' ρ'' st'' H'') : Grow ρ st H ρ'' st'' H'' := by
  refine ⟨g.pre.trans g'.pre, fun a o n h => ?_, fun a l => ?_⟩
  · refine g'.kept a o (fun l => ?_) (g.kept a o n h)
    rcases g.live a l with q | q
    · exact n q
    · rw [h] at q; cases q
  · rcases g'.live a l with q | q
    · exact g.live a q
    · cases e : H a with
      | none => exact .inr rfl
      | some o =>
        refine .inl (Classical.byContradiction fun n => ?_)
        rw [g.kept a o n e] at q
        cases q
theorem Step.refl (R : Rel K N P ρ st H) : Step K N P ρ st H ρ st H := ⟨R, .refl⟩
theorem Step.trans (g : Step K N P ρ st H ρ' st' H') (g' : Step K N P ρ' st' H' ρ'' st'' H'') : Step K N P ρ st H ρ'' st'' H'' := ⟨g'.rel, g.grow.trans g'.grow⟩
/-- all that is tracked stays -/
theorem Step.same (R : Rel K N P ρ st H) (k : ∀ a o, H a = some o → H' a = some o) : Step K N P ρ st H ρ st H' := by
  have g : Grow ρ st H ρ st H' := ⟨List.prefix_refl _, fun a o _ h => k a o h, fun _ h => .inl h⟩
  refine ⟨⟨R.len, R.nd, fun a ha => ?_, fun a ha => ?_, fun i o a e1 e2 => (R.ob i o a e1 e2).grow R g fun x q => k a x q⟩, g⟩
  · obtain ⟨o, e⟩ := R.trk a ha
    exact ⟨o, k a o e⟩
  · obtain ⟨⟨o, e⟩, n⟩ := R.fo a ha
    exact ⟨⟨o, k a o e⟩, n⟩
theorem Step.laid (R : Rel K N P ρ st H) {p : Addr} {o : HO} (h : H p = none) : Step K N P ρ st H ρ st (upd H p o) :=
  .same R fun a x e => by rw [upd_ne (ne_of_none e h)]; exact e
theorem Grow.push (R : Rel K N P ρ st H) {p : Addr} {o : HO} {b : Ob} (h : H p = none) : Grow ρ st H (ρ ++ [p]) (st ++ [b]) (upd H p o) := by
  have np : ∀ a x, H a = some x → a ≠ p := fun a x e z => by rw [z, h] at e; cases e
  refine ⟨List.prefix_append _ _, fun a x _ e => by rw [upd_ne (np a x e)]; exact e, fun a ⟨i, ob, e1, e2, ne⟩ => ?_⟩
  rcases Nat.lt_or_ge i ρ.length with q | q
  · rw [List.getElem?_append_left q] at e1
    rw [List.getElem?_append_left (by rw [← R.len]; exact q)] at e2
    exact .inl ⟨i, ob, e1, e2, ne⟩
  · rw [List.getElem?_append_right q] at e1
    cases hi : i - ρ.length with
    | zero => rw [hi] at e1; simp at e1; subst e1; exact .inr h
    | succ n => rw [hi] at e1; simp at e1
/-- a new place of the store -/
theorem Step.push (R : Rel K N P ρ st H) {p : Addr} {o : HO} {b : Ob} (h : H p = none) (hb : ObRep K N (ρ ++ [p]) (Lv P (ρ ++ [p]) (st ++ [b])) (upd H p o) b p) : Step K N P ρ st H (ρ ++ [p]) (st ++ [b]) (upd H p o) := by
  have np : ∀ a x, H a = some x → a ≠ p := fun a x e z => by rw [z, h] at e; cases e
  have g : Grow ρ st H (ρ ++ [p]) (st ++ [b]) (upd H p o) := .push R h
  refine ⟨⟨by simp [R.len], ?_, fun a ha => ?_, fun a ha => ?_, fun i ob a e1 e2 => ?_⟩, g⟩
  · rw [List.nodup_append]
    refine ⟨R.nd, by simp, fun a ha b hb e => ?_⟩
    simp at hb
    subst hb
    obtain ⟨x, q⟩ := R.trk a ha
    exact np a x q e
  · rcases List.mem_append.mp ha with q | q
    · obtain ⟨x, e⟩ := R.trk a q
      exact ⟨x, by rw [upd_ne (np a x e)]; exact e⟩
    · simp at q; subst q; exact ⟨o, upd_same⟩
  · obtain ⟨⟨x, e⟩, n⟩ := R.fo a ha
    refine ⟨⟨x, by rw [upd_ne (np a x e)]; exact e⟩, fun m => ?_⟩
    rcases List.mem_append.mp m with q | q
    · exact n q
    · simp at q; exact np a x e q
  · rcases Nat.lt_or_ge i ρ.length with q | q
    · rw [List.getElem?_append_left q] at e2
      rw [List.getElem?_append_left (by rw [← R.len]; exact q)] at e1
      exact (R.ob i ob a e1 e2).grow R g fun x e => by rw [upd_ne (np a x e)]; exact e
    · rw [List.getElem?_append_right q] at e2
      rw [List.getElem?_append_right (by rw [← R.len]; exact q), ← R.len] at e1
      cases hi : i - ρ.length with
      | zero => rw [hi] at e1 e2; simp at e1 e2; subst e1 e2; exact hb
      | succ n => rw [hi] at e1; simp at e1
theorem Grow.write {i : Nat} {a : Addr} {b b' : Ob} {o : HO} (hi : st[i]? = some b) (hr : ρ[i]? = some a) (nb : b ≠ Ob.gone) : Grow ρ st H ρ (st.set i b') (upd H a o) := by
  refine ⟨List.prefix_refl _, fun c x n e => ?_, fun c ⟨j, ob, e1, e2, ne⟩ => ?_⟩
  · rw [upd_ne]
    · exact e
    · intro z; subst z; exact n ⟨i, b, hr, hi, nb⟩
  · by_cases hj : i = j
    · subst hj
      rw [hr] at e1; cases e1
      exact .inl ⟨i, b, hr, hi, nb⟩
    · rw [List.getElem?_set_ne hj] at e2
      exact .inl ⟨j, ob, e1, e2, ne⟩
theorem nodup_at {l : List Addr} (h : l.Nodup) {i j : Nat} {a : Addr} (e1 : l[i]? = some a) (e2 : l[j]? = some a) : i = j := by
  have hi := (List.getElem?_eq_some_iff.mp e1).1
  exact (List.getElem?_inj hi h).mp (e1.trans e2.symm)
/-- a place of the store is written -/
theorem Step.write (R : Rel K N P ρ st H) {i : Nat} {a : Addr} {b b' : Ob} {o : HO} (hi : st[i]? = some b) (hr : ρ[i]? = some a) (nb : b ≠ Ob.gone)
    (hb : ObRep K N ρ (Lv P ρ (st.set i b')) (upd H a o) b' a) : Step K N P ρ st H ρ (st.set i b') (upd H a o) := by
  have g : Grow ρ st H ρ (st.set i b') (upd H a o) := .write hi hr nb
  refine ⟨⟨by simp [R.len], R.nd, fun c hc => ?_, fun c hc => ?_, fun j ob c e1 e2 => ?_⟩, g⟩
  · by_cases z : c = a
    · subst z; exact ⟨o, upd_same⟩
    · obtain ⟨x, e⟩ := R.trk c hc
      exact ⟨x, by rw [upd_ne z]; exact e⟩
  · obtain ⟨⟨x, e⟩, n⟩ := R.fo c hc
    refine ⟨⟨x, ?_⟩, n⟩
    rw [upd_ne]
    · exact e
    · intro z; subst z; exact n (List.mem_of_getElem? hr)
  · by_cases hj : i = j
    · subst hj
      rw [hr] at e2; cases e2
      rw [List.getElem?_set_self (List.getElem?_eq_some_iff.mp hi).1] at e1
      cases e1
      exact hb
    · rw [List.getElem?_set_ne hj] at e1
      refine (R.ob j ob c e1 e2).grow R g fun x e => ?_
      rw [upd_ne]
      · exact e
      · intro z; subst z; exact hj (nodup_at R.nd hr e2)
theorem Grow.giveUp {i : Nat} : Grow ρ st H ρ (st.set i Ob.gone) H := by
  refine ⟨List.prefix_refl _, fun _ _ _ e => e, fun c ⟨j, ob, e1, e2, ne⟩ => ?_⟩
  by_cases hj : i = j
  · subst hj
    rw [List.getElem?_set] at e2
    simp at e2
    exact absurd e2.2.symm ne
  · rw [List.getElem?_set_ne hj] at e2
    exact .inl ⟨j, ob, e1, e2, ne⟩
/-- a place of the store is given up -/
theorem Step.giveUp (R : Rel K N P ρ st H) (i : Nat) : Step K N P ρ st H ρ (st.set i Ob.gone) H := by
  have g : Grow ρ st H ρ (st.set i Ob.gone) H := .giveUp
  refine ⟨⟨by simp [R.len], R.nd, R.trk, R.fo, fun j ob c e1 e2 => ?_⟩, g⟩
  by_cases hj : i = j
  · subst hj
    rw [List.getElem?_set] at e1
    simp at e1
    rw [← e1.2]; trivial
  · rw [List.getElem?_set_ne hj] at e1
    exact (R.ob j ob c e1 e2).grow R g fun _ e => e
theorem giveUp_dead (R : Rel K N P ρ st H) {i : Nat} {a : Addr} (hr : ρ[i]? = some a) : ¬ Lv P ρ (st.set i Ob.gone) a := fun l => by
  rcases l with l | ⟨j, ob, e1, e2, ne⟩
  · exact (R.fo a l).2 (List.mem_of_getElem? hr)
  · have := nodup_at R.nd hr e1
    subst this
    rw [List.getElem?_set] at e2
    simp at e2
    exact ne e2.2.symm
end
end Nlx
end
section
set_option Elab.async false
set_option linter.all false
set_option maxRecDepth 100000
set_option maxHeartbeats 4000000
/-! NlOps: what the core language's operations on values ask of the machine's. -/
namespace Nlx
open PySem PySem.Spec PyProof.Rows L2 Nl

/-- what is wanted behind a result -/
def Post (K : PySem.W.Frag) (N : Nm) (P : Addr → Prop) {α : Type} (ρ : List Addr) (st : Nl.Store) (H : Hp) (r : Res α) (Q : α → List Addr → Nl.Store → Hp → Prop) (X : Nat → Addr → Hp → Prop) : Prop :=
  match r with
  | .ok a st' => ∀ ρ' H', Step K N P ρ st H ρ' st' H' → Q a ρ' st' H'
  | .exc c m st' => ∀ ρ' H' t, Step K N P ρ st H ρ' st' H' → H' t = some (.tup [.str (S m)]) → X c t H'
  | .stuck => False
section
variable {K : PySem.W.Frag} {N : Nm} {P : Addr → Prop} {α β : Type} {ρ ρ' ρ1 : List Addr} {st st' st1 : Nl.Store} {H H' H1 : Hp} {r : Res α} {Q Q' : α → List Addr → Nl.Store → Hp → Prop} {X X' : Nat → Addr → Hp → Prop}
theorem Post.frm (g : Step K N P ρ st H ρ1 st1 H1) (h : Post K N P ρ st H r Q X) : Post K N P ρ1 st1 H1 r Q X := by
  cases r with
  | ok a s => exact fun ρ' H' g' => h ρ' H' (g.trans g')
  | exc c m s => exact fun ρ' H' t g' e => h ρ' H' t (g.trans g') e
  | stuck => exact h
theorem Post.mono (h : Post K N P ρ st H r Q X) (k : ∀ a ρ' st' H', r = .ok a st' → Step K N P ρ st H ρ' st' H' → Q a ρ' st' H' → Q' a ρ' st' H') : Post K N P ρ st H r Q' X := by
  cases r with
  | ok a s => exact fun ρ' H' g' => k a ρ' s H' rfl g' (h ρ' H' g')
  | exc c m s => exact h
  | stuck => exact h
theorem Post.bind {f : α → Nl.Store → Res β} {Q : β → List Addr → Nl.Store → Hp → Prop} (h : Post K N P ρ st H (r.bind f) Q X) : Post K N P ρ st H r (fun a ρ' st' H' => Post K N P ρ' st' H' (f a st') Q X) X := by
  cases r with
  | ok a s => exact fun ρ' H' g' => Post.frm g' (show Post K N P ρ st H (f a s) Q X from h)
  | exc c m s => exact h
  | stuck => exact h
theorem Post.opt {o : Option α} (h : Post K N P ρ st H (Res.opt o st) Q X) : ∃ a, o = some a ∧ ∀ ρ' H', Step K N P ρ st H ρ' st H' → Q a ρ' st H' := by
  cases o with
  | some a => exact ⟨a, rfl, h⟩
  | none => exact h.elim
end

/-! ### reading -/
section
variable (K : PySem.W.Frag) (N : Nm) (ρ : List Addr) (L : Addr → Prop) (H : Hp)
/-- a value that was read: lists and dicts as they stand -/
def View : Val → V → Prop
  | .lst xs, v => ∃ a vs, v = .ref a ∧ H a = some (.lst vs) ∧ Reps K N ρ L H xs vs
  | .dct ks ws, v => ∃ a kvs, v = .ref a ∧ H a = some (.dK kvs) ∧ ks.map keyOf = kvs.map (fun q => some q.1) ∧ Reps K N ρ L H ws (kvs.map (·.2))
  | d, v => Rep K N ρ L H d v
/-- .. and instances -/
def ViewI : Val → V → Prop
  | .lst xs, v => ∃ a vs, v = .ref a ∧ H a = some (.lst vs) ∧ Reps K N ρ L H xs vs
  | .dct ks ws, v => ∃ a kvs, v = .ref a ∧ H a = some (.dK kvs) ∧ ks.map keyOf = kvs.map (fun q => some q.1) ∧ Reps K N ρ L H ws (kvs.map (·.2))
  | .obj c fs ws, v => ∃ a dx fvs, v = .ref a ∧ H a = some (.ins (N.ca c) dx fvs) ∧ fvs.map (·.1) = fs.map N.fl ∧ Reps K N ρ L H ws (fvs.map (·.2))
  | d, v => Rep K N ρ L H d v
end
section
variable {K : PySem.W.Frag} {N : Nm} {P : Addr → Prop} {ρ ρ' : List Addr} {st st' : Nl.Store} {H H' : Hp} {d : Val} {v : V}
theorem view (R : Rel K N P ρ st H) (h : Rep K N ρ (Lv P ρ st) H d v) : View K N ρ (Lv P ρ st) H (rd st d) v := by
  cases d with
  | lst xs => simp only [Rep] at h; obtain ⟨a, vs, e, q, r⟩ := h; exact ⟨a, vs, e, q.1, r⟩
  | dct ks ws => simp only [Rep] at h; obtain ⟨a, kvs, e, q, r⟩ := h; exact ⟨a, kvs, e, q.1, r⟩
  | ref i =>
    have h0 := h
    simp only [Rep] at h
    obtain ⟨a, e, q⟩ := h
    unfold rd
    dsimp only
    split
    · rename_i xs hx
      obtain ⟨vs, z, r⟩ := R.ob i _ a hx q
      exact ⟨a, vs, e, z, r⟩
    · rename_i ks ws hx
      obtain ⟨kvs, z, r⟩ := R.ob i _ a hx q
      exact ⟨a, kvs, e, z, r⟩
    · exact h0
  | _ => exact h
theorem viewI (R : Rel K N P ρ st H) (h : Rep K N ρ (Lv P ρ st) H d v) : ViewI K N ρ (Lv P ρ st) H (rdI st d) v := by
  cases d with
  | lst xs => simp only [Rep] at h; obtain ⟨a, vs, e, q, r⟩ := h; exact ⟨a, vs, e, q.1, r⟩
  | dct ks ws => simp only [Rep] at h; obtain ⟨a, kvs, e, q, r⟩ := h; exact ⟨a, kvs, e, q.1, r⟩
  | obj c fs ws => simp only [Rep] at h; obtain ⟨a, dx, fvs, e, q, r⟩ := h; exact ⟨a, dx, fvs, e, q.1, r⟩
  | ref i =>
    have h0 := h
    simp only [Rep] at h
    obtain ⟨a, e, q⟩ := h
    unfold rdI
    dsimp only
    split
    · rename_i xs hx
      obtain ⟨vs, z, r⟩ := R.ob i _ a hx q
      exact ⟨a, vs, e, z, r⟩
    · rename_i ks ws hx
      obtain ⟨kvs, z, r⟩ := R.ob i _ a hx q
      exact ⟨a, kvs, e, z, r⟩
    · rename_i c fs ws hx
      obtain ⟨dx, fvs, z, r⟩ := R.ob i _ a hx q
      exact ⟨a, dx, fvs, e, z, r⟩
    · exact h0
  | _ => exact h
theorem Rel.newDead (R : Rel K N P ρ st H) {p : Addr} (h : H p = none) : ¬ Lv P ρ st p := fun l => by
  rcases l with l | ⟨i, o, e1, e2, _⟩
  · obtain ⟨⟨x, e⟩, _⟩ := R.fo p l
    rw [h] at e; cases e
  · obtain ⟨x, e⟩ := R.trk p (List.mem_of_getElem? e1)
    rw [h] at e; cases e
/-- a new list that nobody changes -/
theorem rep_newLst (R : Rel K N P ρ st H) {p : Addr} {xs : List Val} {vs : List V} (h : H p = none) (r : Reps K N ρ (Lv P ρ st) H xs vs) : Rep K N ρ (Lv P ρ st) (upd H p (.lst vs)) (.lst xs) (.ref p) := by
  simp only [Rep]
  exact ⟨p, vs, rfl, ⟨upd_same, R.newDead h⟩, Reps.grow R (Step.laid R h).grow xs vs r⟩
theorem rep_newTup (R : Rel K N P ρ st H) {p : Addr} {xs : List Val} {vs : List V} (h : H p = none) (r : Reps K N ρ (Lv P ρ st) H xs vs) : Rep K N ρ (Lv P ρ st) (upd H p (.tup vs)) (.tup xs) (.ref p) := by
  simp only [Rep]
  exact ⟨p, vs, rfl, .of upd_same, Reps.grow R (Step.laid R h).grow xs vs r⟩
end
theorem Reps.repl {K : PySem.W.Frag} {N : Nm} {ρ : List Addr} {L : Addr → Prop} {H : Hp} {xs : List Val} {vs : List V} (h : Reps K N ρ L H xs vs) : ∀ n : Nat, Reps K N ρ L H (List.replicate n xs).flatten (List.replicate n vs).flatten
  | 0 => by simp [Reps]
  | n + 1 => by simp only [List.replicate_succ, List.flatten_cons]; exact h.app (Reps.repl h n)
theorem lineEq : sizeLine = line := by rw [sizeLine_eq]; rfl
theorem line63 : line < 2 ^ 62 := by decide

/-! ### operators -/
def bopOf : Bop → Operator
  | .add => .Add | .sub => .Sub | .mul => .Mult | .fdiv => .FloorDiv | .mod => .Mod | .pow => .Pow
/-- the reading of a two-place operation of the core language -/
def rVal (K : PySem.W.Frag) (N : Nm) (f : Nl.Store → Val → Val → Option Val) : R2 := fun x y H Q => ∃ (P : Addr → Prop) (ρ : List Addr) (st : Nl.Store) (d e : Val), Rel K N P ρ st H ∧ Rep K N ρ (Lv P ρ st) H d x ∧ Rep K N ρ (Lv P ρ st) H e y ∧
  ∃ z, f st d e = some z ∧ ∀ ρ' H', Step K N P ρ st H ρ' st H' → ∀ v, Rep K N ρ' (Lv P ρ' st) H' z v → Q v H'
section
variable {X : Cx} {N : Nm}
theorem str_repl (x : List Nat) (k : Nat) : (⟨(List.replicate k (S x).cps).foldl (· ++ ·) #[]⟩ : Str) = S (List.replicate k x).flatten := by
  have key : ∀ (l : List (Array Nat)) (a : Array Nat), (l.foldl (· ++ ·) a).toList = a.toList ++ (l.map Array.toList).flatten := by
    intro l
    induction l with
    | nil => intro a; simp
    | cons b l ih => intro a; simp [ih]
  have e : ((List.replicate k (S x).cps).foldl (· ++ ·) #[]) = ((List.replicate k x).flatten).toArray := by
    apply Array.toList_inj.mp
    rw [key]
    simp [S]
  show (⟨_⟩ : Str) = ⟨_⟩
  rw [e]
theorem op_bin (o : Bop) : OpR X (binaryOp (bopOf o)) (rVal X.K N fun st d e => binV o (rd st d) (rd st e)) := by
  intro pins s σ H x y v u Q I rx ry ⟨P, ρ, st, d, e, R, rd1, rd2, z, hz, h⟩
  replace hz : binV o (rd st d) (rd st e) = some z := hz
  have v1 := view R rd1
  have v2 := view R rd2
  have done : ∀ {w}, Rep X.K N ρ (Lv P ρ st) H z w → Q w H := fun {w} hw => h ρ H (.refl R) w hw
  have doneP : ∀ {p : Addr} {o : HO} {w}, H p = none → Rep X.K N ρ (Lv P ρ st) (upd H p o) z w → Q w (upd H p o) := fun {p o w} hp hw => h ρ _ (.laid R hp) w hw
  revert hz v1 v2
  generalize rd st d = a
  generalize rd st e = b
  intro hz v1 v2
  unfold binV at hz
  split at hz
  · -- int + int
    cases hz
    simp only [View, Rep] at v1 v2
    exact op_add pins s σ H x y v u Q I rx ry ⟨_, _, v1, v2, done (by simp only [Rep])⟩
  · rename_i s1 s2
    split at hz
    · rename_i hl
      cases hz
      simp only [View, Rep] at v1 v2
      exact op_add_str pins s σ H x y v u Q I rx ry ⟨_, _, v1, v2, by rw [S_len, S_len, lineEq]; exact hl, by rw [S_app]; exact done (by simp only [Rep])⟩
    · cases hz
  · split at hz
    · rename_i hl
      cases hz
      obtain ⟨a1, w1, e1, q1, r1⟩ := v1
      obtain ⟨a2, w2, e2, q2, r2⟩ := v2
      exact op_cat pins s σ H x y v u Q I rx ry ⟨_, _, _, _, e1, e2, q1, q2, by rw [← r1.length, ← r2.length, lineEq]; exact hl, fun p hp => doneP hp (rep_newLst R hp (r1.app r2))⟩
    · cases hz
  · split at hz
    · rename_i xs ys hl
      cases hz
      have v1' := v1
      have v2' := v2
      simp only [View, Rep] at v1 v2
      obtain ⟨a1, w1, e1, q1, r1⟩ := v1
      obtain ⟨a2, w2, e2, q2, r2⟩ := v2
      have l1 := r1.length
      have l2 := r2.length
      refine op_catA pins s σ H x y v u Q I rx ry ⟨_, _, _, _, e1, e2, q1, q2, by rw [← l1, ← l2, lineEq]; exact hl, fun n => ?_, fun _ n => ?_, fun _ _ p hp => doneP hp (rep_newTup R hp (r1.app r2))⟩
      · subst n
        have : xs = [] := List.length_eq_zero_iff.mp l1
        subst this
        exact done (by simp only [List.nil_append, Rep]; exact ⟨a2, w2, rfl, q2, r2⟩)
      · subst n
        have : ys = [] := List.length_eq_zero_iff.mp l2
        subst this
        exact done (by simp only [List.append_nil, Rep]; exact ⟨a1, w1, rfl, q1, r1⟩)
    · cases hz
  · cases hz
    simp only [View, Rep] at v1 v2
    exact op_sub pins s σ H x y v u Q I rx ry ⟨_, _, v1, v2, done (by simp only [Rep])⟩
  · split at hz
    · rename_i hm
      cases hz
      simp only [View, Rep] at v1 v2
      unfold mulOk at hm
      rcases Bool.or_eq_true_iff.mp hm with q | q
      · exact op_mul pins s σ H x y v u Q I rx ry ⟨_, _, v1, v2, (have q' := of_decide_eq_true q; q'), done (by simp only [Rep])⟩
      · exact op_mulW pins s σ H x y v u Q I rx ry ⟨_, _, v1, v2, (have q' := of_decide_eq_true q; q'), done (by simp only [Rep])⟩
    · cases hz
  · rename_i s1 k
    split at hz
    · rename_i hm
      obtain ⟨h0, h1, h2⟩ := hm
      cases hz
      simp only [View, Rep] at v1 v2
      subst v1 v2
      obtain ⟨t1, rfl⟩ := rx
      obtain ⟨t2, rfl⟩ := ry
      have hlen : (S s1).length = s1.length := S_len s1
      refine PySem.P.mul_str ?_ ?_ ?_ ?_
      · rw [decide_eq_false (by omega), decide_eq_false (by omega)]; rfl
      · intro n1 n2 n3
        have hk : 0 < k := by omega
        have : ((S s1).length : Int) * k ≤ line := by
          rw [hlen]
          have e : (k.toNat : Int) = k := by omega
          rw [← e]
          exact_mod_cast h1
        have h5 : ((S s1).length : Int) ≤ (2 ^ 63 - 1) / k := by
          refine (Int.le_ediv_iff_mul_le hk).mpr (Int.le_trans this (by decide))
        omega
      · intro n1 n2
        rw [hlen]
        unfold Builtin.Str.tooLong
        exact decide_eq_false (by rw [lineEq]; omega)
      · have fin : ∀ tk, EP X pins σ Q (.str (S (repL s1 k)) tk) { s with toks := s.toks + 1 } := fun tk => ⟨.str (S (repL s1 k)), H, I.tok _, ⟨_, rfl⟩, done (by simp only [Rep])⟩
        by_cases k1 : k < 1
        · rw [if_pos k1]
          have e : repL s1 k = [] := by
            have : k.toNat = 0 := by omega
            unfold repL; rw [this]; rfl
          rw [e] at fin
          exact ⟨by decide, fin _⟩
        · rw [if_neg k1]
          cases hb : (k == 1 || (S s1).length == 0) with
          | true =>
            rw [if_pos rfl]
            have e : repL s1 k = s1 := by
              rcases Bool.or_eq_true_iff.mp hb with q | q
              · have : k.toNat = 1 := by have := eq_of_beq q; omega
                unfold repL; rw [this]; simp
              · have : s1 = [] := List.length_eq_zero_iff.mp (by have := eq_of_beq q; omega)
                subst this
                unfold repL; simp
            refine ⟨.str (S s1), H, I, ⟨_, rfl⟩, done (by simp only [Rep]; rw [e])⟩
          | false =>
            rw [if_neg Bool.false_ne_true]
            refine ⟨?_, ?_⟩
            · rw [str_repl, S_len, lineEq]
              simp only [List.length_flatten, List.map_replicate, List.sum_replicate_nat]
              rw [Nat.mul_comm]; exact h1
            · rw [str_repl]; exact fin _
    · cases hz
  · split at hz
    · rename_i hm
      obtain ⟨h0, h1, h2⟩ := hm
      cases hz
      simp only [View, Rep] at v2
      obtain ⟨a1, w1, e1, q1, r1⟩ := v1
      refine op_rep pins s σ H x y v u Q I rx ry ⟨_, _, _, e1, v2, q1, by omega, by omega, by rw [← r1.length, lineEq]; exact h1, fun p hp => doneP hp (rep_newLst R hp (Reps.repl r1 _))⟩
    · cases hz
  · split at hz
    · rename_i hm
      cases hz
      simp only [View, Rep] at v1 v2
      subst v1 v2
      obtain ⟨t1, rfl⟩ := rx
      obtain ⟨t2, rfl⟩ := ry
      obtain ⟨m1, m2⟩ := of_decide_eq_true hm
      exact floordiv_int m1 ⟨.int _, H, I.tok _, ⟨_, rfl⟩, done (by simp only [Rep])⟩ (.inl (PyProof.noPylong_of_log2 m2))
    · cases hz
  · split at hz
    · rename_i hm
      cases hz
      simp only [View, Rep] at v1 v2
      exact op_modN pins s σ H x y v u Q I rx ry ⟨_, _, v1, v2, hm, done (by simp only [Rep])⟩
    · cases hz
  · split at hz
    · rename_i hm
      cases hz
      simp only [View, Rep] at v1 v2
      exact op_pow pins s σ H x y v u Q I rx ry ⟨_, _, v1, v2, (have q' := of_decide_eq_true hm; q'), done (by simp only [Rep])⟩
    · cases hz
  · cases hz
end
end Nlx
end
section
set_option Elab.async false
set_option linter.all false
set_option maxRecDepth 100000
set_option maxHeartbeats 4000000
/-! NlEq: == of plain data. -/
namespace Nlx
open PySem PySem.Spec PyProof.Rows L2 Nl

section
variable (K : PySem.W.Frag) (H : Hp)
mutual
/-- plain data in the heap, wherever its lists and tuples stand -/
def DRep : Val → V → Prop
  | .non, v => v = .non
  | .bl b, v => v = .bl b
  | .int i, v => v = .int i
  | .str s, v => v = .str (S s)
  | .tup xs, v => ∃ a vs, v = .ref a ∧ SqT K H a vs ∧ DReps xs vs
  | .lst xs, v => ∃ a vs, v = .ref a ∧ SqL K H a vs ∧ DReps xs vs
  | .dct _ _, _ | .obj _ _ _, _ | .ref _, _ | .fn _, _ | .scr _, _ | .kon _ _, _ => False
def DReps : List Val → List V → Prop
  | [], vs => vs = []
  | x :: xs, vs => ∃ v r, vs = v :: r ∧ DRep x v ∧ DReps xs r
end
end
section
variable {K : PySem.W.Frag} {N : Nm} {ρ : List Addr} {L : Addr → Prop} {H : Hp}
mutual
theorem DRep.of : ∀ (d : Val) (v : V), d.data = true → Rep K N ρ L H d v → DRep K H d v
  | .non, v, _, h => by simpa only [Rep, DRep] using h
  | .bl b, v, _, h => by simpa only [Rep, DRep] using h
  | .int i, v, _, h => by simpa only [Rep, DRep] using h
  | .str s, v, _, h => by simpa only [Rep, DRep] using h
  | .tup xs, v, hd, h => by
    simp only [Rep, DRep] at h ⊢
    obtain ⟨a, vs, e, q, r⟩ := h
    exact ⟨a, vs, e, q, DReps.of xs vs (by simpa only [Val.data] using hd) r⟩
  | .lst xs, v, hd, h => by
    simp only [Rep, DRep] at h ⊢
    obtain ⟨a, vs, e, q, r⟩ := h
    exact ⟨a, vs, e, .of q.1, DReps.of xs vs (by simpa only [Val.data] using hd) r⟩
  | .dct _ _, _, hd, _ => by simp [Val.data] at hd
  | .obj _ _ _, _, hd, _ => by simp [Val.data] at hd
  | .ref _, _, hd, _ => by simp [Val.data] at hd
  | .fn _, _, hd, _ => by simp [Val.data] at hd
  | .scr _, _, hd, _ => by simp [Val.data] at hd
  | .kon _ _, _, hd, _ => by simp [Val.data] at hd
theorem DReps.of : ∀ (xs : List Val) (vs : List V), dataAll xs = true → Reps K N ρ L H xs vs → DReps K H xs vs
  | [], vs, _, h => by simpa only [Reps, DReps] using h
  | x :: xs, vs, hd, h => by
    simp only [Reps, DReps] at h ⊢
    simp only [dataAll, Bool.and_eq_true] at hd
    obtain ⟨v, r, e, h1, h2⟩ := h
    exact ⟨v, r, e, DRep.of x v hd.1 h1, DReps.of xs r hd.2 h2⟩
end
theorem DReps.length : ∀ {xs : List Val} {vs : List V}, DReps K H xs vs → xs.length = vs.length
  | [], vs, h => by simp only [DReps] at h; subst h; rfl
  | x :: xs, vs, h => by
    simp only [DReps] at h
    obtain ⟨v, r, rfl, _, h2⟩ := h
    simp [DReps.length h2]
mutual
theorem eqD_refl : ∀ d : Val, d.data = true → eqD d d = true
  | .non, _ => by simp [eqD]
  | .bl b, _ => by simp [eqD]
  | .int i, _ => by simp [eqD]
  | .str s, _ => by simp [eqD]
  | .tup xs, h => by simp only [eqD]; exact eqDs_refl xs (by simpa only [Val.data] using h)
  | .lst xs, h => by simp only [eqD]; exact eqDs_refl xs (by simpa only [Val.data] using h)
  | .dct _ _, h => by simp [Val.data] at h
  | .obj _ _ _, h => by simp [Val.data] at h
  | .ref _, h => by simp [Val.data] at h
  | .fn _, h => by simp [Val.data] at h
  | .scr _, h => by simp [Val.data] at h
  | .kon _ _, h => by simp [Val.data] at h
theorem eqDs_refl : ∀ xs : List Val, dataAll xs = true → eqDs xs xs = true
  | [], _ => by simp [eqDs]
  | x :: xs, h => by
    simp only [dataAll, Bool.and_eq_true] at h
    simp only [eqDs, eqD_refl x h.1, eqDs_refl xs h.2, Bool.and_self]
end
section
variable {X : Cx} {pins : List (Addr × Obj)} {σ : L2.St} {s : Shared}
theorem notBoth (I : Inv X pins σ H s) {a : Addr} {vs ws : List V} (h : SqL X.K H a vs) (h2 : SqT X.K H a ws) : False := by
  obtain ⟨_, _, ⟨o, n, e, c, _, d⟩, _⟩ := I.list h
  obtain ⟨_, _, ⟨o', e', c', _⟩, _⟩ := I.tuple h2
  rw [e] at e'; cases e'
  rw [c] at c'
  exact absurd c' (by decide)
mutual
theorem DRep.uniq (I : Inv X pins σ H s) : ∀ (d e : Val) (v : V), DRep X.K H d v → DRep X.K H e v → d = e
  | .non, e, v, h, h2 => by
    simp only [DRep] at h; subst h
    cases e <;> simp_all [DRep]
  | .bl b, e, v, h, h2 => by
    simp only [DRep] at h; subst h
    cases e <;> simp_all [DRep]
  | .int i, e, v, h, h2 => by
    simp only [DRep] at h; subst h
    cases e <;> simp_all [DRep]
  | .str x, e, v, h, h2 => by
    simp only [DRep] at h; subst h
    cases e with
    | str y => simp only [DRep, V.str.injEq] at h2; rw [S_inj h2]
    | _ => simp_all [DRep]
  | .tup xs, e, v, h, h2 => by
    simp only [DRep] at h
    obtain ⟨a, vs, rfl, q, r⟩ := h
    cases e with
    | tup ys =>
      simp only [DRep, V.ref.injEq] at h2
      obtain ⟨a', ws, rfl, q2, r2⟩ := h2
      have := I.tuple_inj q q2
      subst this
      rw [DReps.uniq I xs ys vs r r2]
    | lst ys =>
      simp only [DRep, V.ref.injEq] at h2
      obtain ⟨a', ws, rfl, q2, r2⟩ := h2
      exact (notBoth I q2 q).elim
    | _ => simp_all [DRep]
  | .lst xs, e, v, h, h2 => by
    simp only [DRep] at h
    obtain ⟨a, vs, rfl, q, r⟩ := h
    cases e with
    | lst ys =>
      simp only [DRep, V.ref.injEq] at h2
      obtain ⟨a', ws, rfl, q2, r2⟩ := h2
      have := I.list_inj q q2
      subst this
      rw [DReps.uniq I xs ys vs r r2]
    | tup ys =>
      simp only [DRep, V.ref.injEq] at h2
      obtain ⟨a', ws, rfl, q2, r2⟩ := h2
      exact (notBoth I q q2).elim
    | _ => simp_all [DRep]
  | .dct _ _, _, _, h, _ => by simp [DRep] at h
  | .obj _ _ _, _, _, h, _ => by simp [DRep] at h
  | .ref _, _, _, h, _ => by simp [DRep] at h
  | .fn _, _, _, h, _ => by simp [DRep] at h
  | .scr _, _, _, h, _ => by simp [DRep] at h
  | .kon _ _, _, _, h, _ => by simp [DRep] at h
theorem DReps.uniq (I : Inv X pins σ H s) : ∀ (xs ys : List Val) (vs : List V), DReps X.K H xs vs → DReps X.K H ys vs → xs = ys
  | [], ys, vs, h, h2 => by
    simp only [DReps] at h; subst h
    cases ys with
    | nil => rfl
    | cons y ys => simp [DReps] at h2
  | x :: xs, ys, vs, h, h2 => by
    simp only [DReps] at h
    obtain ⟨v, r, rfl, h1, h3⟩ := h
    cases ys with
    | nil => simp [DReps] at h2
    | cons y ys =>
      simp only [DReps, List.cons.injEq] at h2
      obtain ⟨v', r', ⟨rfl, rfl⟩, k1, k2⟩ := h2
      rw [DRep.uniq I x y v h1 k1, DReps.uniq I xs ys r h3 k2]
end
/-- the items' answers, place by place -/
def eqAtN (xs ys : List Val) (j : Nat) : Bool := eqD (xs.getD j .non) (ys.getD j .non)
theorem eqDs_all : ∀ xs ys : List Val, ((List.range (min xs.length ys.length)).all (eqAtN xs ys) && xs.length == ys.length) = eqDs xs ys
  | [], [] => by simp [eqDs]
  | [], _ :: _ => by simp [eqDs]
  | _ :: _, [] => by simp [eqDs]
  | x :: xs, y :: ys => by
    have ih := eqDs_all xs ys
    have e1 : min (x :: xs).length (y :: ys).length = min xs.length ys.length + 1 := by simp only [List.length_cons]; omega
    rw [e1, List.range_succ_eq_map, List.all_cons, List.all_map]
    have e3 : (eqAtN (x :: xs) (y :: ys) ∘ Nat.succ) = eqAtN xs ys := by funext j; simp [eqAtN]
    rw [e3]
    have e4 : eqAtN (x :: xs) (y :: ys) 0 = eqD x y := by simp [eqAtN]
    rw [e4, eqDs, ← ih, Bool.and_assoc]
    simp
theorem depth_pair {u a b : Nat} (h : u + min (a + 1) (b + 1) < cLine) : u + 1 + min a b < cLine := by omega
theorem depthVs_at : ∀ {xs : List Val} {j : Nat} {d : Val}, xs[j]? = some d → depthV d ≤ depthVs xs
  | [], j, d, h => by simp at h
  | x :: xs, 0, d, h => by simp at h; subst h; simp only [depthVs]; exact Nat.le_max_left _ _
  | x :: xs, j + 1, d, h => by simp only [depthVs]; exact Nat.le_trans (depthVs_at (xs := xs) (j := j) (by simpa using h)) (Nat.le_max_right _ _)
theorem DReps.at : ∀ {xs : List Val} {vs : List V} {us : List Value} {j : Nat} (h : DReps X.K H xs vs) (r : Vals vs us) (hj : j < us.length), ∃ d v, xs[j]? = some d ∧ DRep X.K H d v ∧ RelV v us[j]
  | [], vs, us, j, h, r, hj => by simp only [DReps] at h; subst h; cases r; simp at hj
  | x :: xs, vs, us, 0, h, r, hj => by
    simp only [DReps] at h
    obtain ⟨v, r', rfl, h1, h3⟩ := h
    cases r with
    | cons r1 r2 => exact ⟨x, v, rfl, h1, r1⟩
  | x :: xs, vs, us, j + 1, h, r, hj => by
    simp only [DReps] at h
    obtain ⟨v, r', rfl, h1, h3⟩ := h
    cases r with
    | cons r1 r2 => exact DReps.at (j := j) h3 r2 (by simpa using hj)
/-- a value's kind, with what the heap says -/
inductive Shape (K : PySem.W.Frag) (H : Hp) (s : Shared) : Val → Value → Prop where
  | non : Shape K H s .non .none
  | bl (b : Bool) : Shape K H s (.bl b) (.bool b)
  | int (i : Int) (t : Tok) : Shape K H s (.int i) (.int i t)
  | str (x : List Nat) (t : Tok) : Shape K H s (.str x) (.str (S x) t)
  | lst {l : Addr} {vs : List V} {us : List Value} {xs : List Val} : s.heap.IsList l us.toArray → Vals vs us → DReps K H xs vs → Shape K H s (.lst xs) (.ref l)
  | tup {l : Addr} {vs : List V} {us : List Value} {xs : List Val} : s.heap.IsTuple l us.toArray → Vals vs us → DReps K H xs vs → Shape K H s (.tup xs) (.ref l)
theorem shape (I : Inv X pins σ H s) {d : Val} {x : V} {u : Value} (h : DRep X.K H d x) (r : RelV x u) : Shape X.K H s d u := by
  cases d with
  | non => simp only [DRep] at h; subst h; cases r; exact .non
  | bl b => simp only [DRep] at h; subst h; cases r; exact .bl b
  | int i => simp only [DRep] at h; subst h; obtain ⟨t, rfl⟩ := r; exact .int i t
  | str i => simp only [DRep] at h; subst h; obtain ⟨t, rfl⟩ := r; exact .str i t
  | lst xs =>
    simp only [DRep] at h
    obtain ⟨a, vs, rfl, q, hs⟩ := h
    obtain rfl := r
    obtain ⟨us, rv, pl, _⟩ := I.list q
    exact .lst pl.isList rv hs
  | tup xs =>
    simp only [DRep] at h
    obtain ⟨a, vs, rfl, q, hs⟩ := h
    obtain rfl := r
    obtain ⟨us, rv, pt, _⟩ := I.tuple q
    exact .tup pt rv hs
  | dct _ _ => simp [DRep] at h
  | obj _ _ _ => simp [DRep] at h
  | ref _ => simp [DRep] at h
  | fn _ => simp [DRep] at h
  | scr _ => simp [DRep] at h
  | kon _ _ => simp [DRep] at h
theorem str_beqS (a b : List Nat) : (S a == S b) = (a == b) := by
  by_cases h : a = b
  · subst h; simp
  · rw [beq_eq_false_iff_ne.mpr h, beq_eq_false_iff_ne.mpr (fun q => h (S_inj q))]
/-- the items of two lists (or tuples), once the items' rule is there -/
theorem items_eq {A : Around} {xs ys : List Val} {vs ws : List V} {us zs : List Value} (h1 : DReps X.K H xs vs) (h2 : DReps X.K H ys ws) (r1 : Vals vs us) (r2 : Vals ws zs)
    (ih : ∀ (d e : Val) (x y : V) (u w : Value), d ∈ xs → DRep X.K H d x → DRep X.K H e y → e ∈ ys → RelV x u → RelV y w → SeqAt.EqAt A s u w (eqD d e)) :
    ∀ j (j1 : j < us.toArray.size) (j2 : j < zs.toArray.size), SeqAt.EqAt A s us.toArray[j] zs.toArray[j] (eqAtN xs ys j) := fun j j1 j2 => by
  obtain ⟨d, x, e1, k1, q1⟩ := h1.at r1 (j := j) (by simpa using j1)
  obtain ⟨e, y, e2, k2, q2⟩ := h2.at r2 (j := j) (by simpa using j2)
  have q := ih d e x y _ _ (List.mem_of_getElem? e1) k1 k2 (List.mem_of_getElem? e2) q1 q2
  have e3 : eqAtN xs ys j = eqD d e := by simp [eqAtN, List.getD, e1, e2]
  rw [e3]
  simpa using q
theorem data_mem {d : Val} : ∀ {xs : List Val}, dataAll xs = true → d ∈ xs → d.data = true
  | x :: xs, h, m => by
    simp only [dataAll, Bool.and_eq_true] at h
    rcases List.mem_cons.mp m with e | m
    · rw [e]; exact h.1
    · exact data_mem h.2 m
theorem depth_mem {d : Val} {xs : List Val} (h : d ∈ xs) : depthV d ≤ depthVs xs := by
  obtain ⟨j, hj, e⟩ := List.mem_iff_getElem.mp h
  exact depthVs_at (j := j) (by rw [List.getElem?_eq_getElem hj, e])
theorem eqAt_shape (I : Inv X pins σ H s) (n : Nat) : ∀ (d e : Val) (x y : V) (u w : Value) (A : Around), depthV d = n → d.data = true → e.data = true → DRep X.K H d x → DRep X.K H e y → RelV x u → RelV y w → A.units + min (depthV d) (depthV e) < cLine →
    SeqAt.EqAt A s u w (eqD d e) := by
  induction n using Nat.strongRecOn with
  | ind n ih =>
  intro d e x y u w A hn hd he h1 h2 r1 r2 hu
  have hr : A.units < cLine := by omega
  have s1 := shape I h1 r1
  have s2 := shape I h2 r2
  have same : ∀ l, u = .ref l → w = .ref l → SeqAt.EqAt A s u w (eqD d e) := fun l e1 e2 => by
    subst e1 e2
    have ex : x = y := r1.inj r2
    subst ex
    have := DRep.uniq I d e x h1 h2
    subst this
    rw [eqD_refl d hd]
    exact SeqAt.EqAt.same _
  have inner : ∀ {xs ys : List Val} {vs ws : List V} {us zs : List Value}, depthVs xs < n → A.units + 1 + min (depthVs xs) (depthVs ys) < cLine → dataAll xs = true → dataAll ys = true → DReps X.K H xs vs → DReps X.K H ys ws → Vals vs us → Vals ws zs →
      ∀ j (j1 : j < us.toArray.size) (j2 : j < zs.toArray.size), SeqAt.EqAt A.in1 s us.toArray[j] zs.toArray[j] (eqAtN xs ys j) := fun {xs ys vs ws us zs} hx hm dx dy k1 k2 q1 q2 =>
    items_eq k1 k2 q1 q2 fun d e x y u w md kd ke me qd qe => by
      have z1 := depth_mem md
      have z2 := depth_mem me
      refine ih (depthV d) (by omega) d e x y u w A.in1 rfl (data_mem dx md) (data_mem dy me) kd ke qd qe ?_
      show A.units + 1 + min (depthV d) (depthV e) < cLine
      omega
  cases s1 with
  | non =>
    cases s2 with
    | non => simp only [eqD]; exact SeqAt.EqAt.same _
    | bl b => simp only [eqD]; exact SeqAt.EqAt.none_bool b
    | int b t2 => simp only [eqD]; exact SeqAt.EqAt.none_int b t2
    | str b t2 => simp only [eqD]; exact SeqAt.EqAt.none_str (S b) t2
    | lst q1 q2 q3 => simp only [eqD]; exact SeqAt.EqAt.none_list q1 hr
    | tup q1 q2 q3 => simp only [eqD]; exact SeqAt.EqAt.none_tuple q1 hr
  | bl a =>
    cases s2 with
    | non => simp only [eqD]; exact SeqAt.EqAt.bool_none a
    | bl b => simp only [eqD]; exact SeqAt.EqAt.bool_bool a b
    | int b t2 => simp only [eqD]; exact SeqAt.EqAt.bool_int a b t2
    | str b t2 => simp only [eqD]; exact SeqAt.EqAt.bool_str a (S b) t2
    | lst q1 q2 q3 => simp only [eqD]; exact SeqAt.EqAt.bool_list a q1 hr
    | tup q1 q2 q3 => simp only [eqD]; exact SeqAt.EqAt.bool_tuple a q1 hr
  | int a t =>
    cases s2 with
    | non => simp only [eqD]; exact SeqAt.EqAt.int_none a t
    | bl b => simp only [eqD]; exact SeqAt.EqAt.int_bool a t b
    | int b t2 => simp only [eqD]; exact SeqAt.EqAt.int_int a t b t2
    | str b t2 => simp only [eqD]; exact SeqAt.EqAt.int_str a t (S b) t2
    | lst q1 q2 q3 => simp only [eqD]; exact SeqAt.EqAt.int_list a t q1 hr
    | tup q1 q2 q3 => simp only [eqD]; exact SeqAt.EqAt.int_tuple a t q1 hr
  | str a t =>
    cases s2 with
    | non => simp only [eqD]; exact SeqAt.EqAt.str_none (S a) t
    | bl b => simp only [eqD]; exact SeqAt.EqAt.str_bool (S a) t b
    | int b t2 => simp only [eqD]; exact SeqAt.EqAt.str_int (S a) t b t2
    | str b t2 => rw [eqD, ← str_beqS]; exact SeqAt.EqAt.str_str (S a) t (S b) t2
    | lst q1 q2 q3 => simp only [eqD]; exact SeqAt.EqAt.str_list (S a) t q1 hr
    | tup q1 q2 q3 => simp only [eqD]; exact SeqAt.EqAt.str_tuple (S a) t q1 hr
  | lst p1 p2 p3 =>
    cases s2 with
    | non => simp only [eqD]; exact SeqAt.EqAt.list_none p1 hr
    | bl b => simp only [eqD]; exact SeqAt.EqAt.list_bool b p1 hr
    | int b t2 => simp only [eqD]; exact SeqAt.EqAt.list_int b t2 p1 hr
    | str b t2 => simp only [eqD]; exact SeqAt.EqAt.list_str (S b) t2 p1 hr
    | lst q1 q2 q3 => 
      rename_i l1 vs us xs l2 ws zs ys
      by_cases hl : l1 = l2
      · subst hl; exact same _ rfl rfl
      refine SeqAt.EqAt.of_refs hl ?_
      have n1 := p3.length
      have n2 := p2.length
      have n3 := q3.length
      have n4 := q2.length
      simp only [depthV] at hn hu
      have it := inner (xs := xs) (ys := ys) (by omega) (by omega) (by simpa only [Val.data] using hd) (by simpa only [Val.data] using he) p3 q3 p2 q2
      simp only [eqD]
      by_cases hz : xs.length = ys.length
      · have q := SeqAt.RcAt.lists p1 q1 (by simp; omega) hr it
        have e1 : (List.range us.toArray.size).all (eqAtN xs ys) = eqDs xs ys := by
          have := eqDs_all xs ys
          rw [← hz, Nat.min_self] at this
          have e2 : us.toArray.size = xs.length := by simp; omega
          rw [e2]
          simpa [hz] using this
        rw [e1] at q
        exact q
      · have e1 : eqDs xs ys = false := by
          rw [← eqDs_all xs ys]
          simp [hz]
        rw [e1]
        exact SeqAt.RcAt.lists_lengths p1 q1 (by simp; omega) hr
    | tup q1 q2 q3 => simp only [eqD]; exact SeqAt.EqAt.list_tuple p1 q1 hr
  | tup p1 p2 p3 =>
    cases s2 with
    | non => simp only [eqD]; exact SeqAt.EqAt.tuple_none p1 hr
    | bl b => simp only [eqD]; exact SeqAt.EqAt.tuple_bool b p1 hr
    | int b t2 => simp only [eqD]; exact SeqAt.EqAt.tuple_int b t2 p1 hr
    | str b t2 => simp only [eqD]; exact SeqAt.EqAt.tuple_str (S b) t2 p1 hr
    | lst q1 q2 q3 => simp only [eqD]; exact SeqAt.EqAt.tuple_list p1 q1 hr
    | tup q1 q2 q3 => 
      rename_i l1 vs us xs l2 ws zs ys
      by_cases hl : l1 = l2
      · subst hl; exact same _ rfl rfl
      refine SeqAt.EqAt.of_refs hl ?_
      have n1 := p3.length
      have n2 := p2.length
      have n3 := q3.length
      have n4 := q2.length
      simp only [depthV] at hn hu
      have it := inner (xs := xs) (ys := ys) (by omega) (by omega) (by simpa only [Val.data] using hd) (by simpa only [Val.data] using he) p3 q3 p2 q2
      simp only [eqD]
      have q := SeqAt.RcAt.tuples p1 q1 hr it
      have e1 : us.toArray.size = xs.length := by simp; omega
      have e2 : zs.toArray.size = ys.length := by simp; omega
      rw [e1, e2, eqDs_all] at q
      exact q
/-- == and != as operators -/
theorem rcAt_data (I : Inv X pins σ H s) {d e : Val} {x y : V} {u w : Value} {A : Around} (hd : d.data = true) (he : e.data = true) (h1 : DRep X.K H d x) (h2 : DRep X.K H e y) (r1 : RelV x u) (r2 : RelV y w)
    (hu : A.units + min (depthV d) (depthV e) < cLine) : SeqAt.RcAt A s u w (eqD d e) := by
  have hr : A.units < cLine := by omega
  have s1 := shape I h1 r1
  have s2 := shape I h2 r2
  have inner : ∀ {xs ys : List Val} {vs ws : List V} {us zs : List Value}, A.units + 1 + min (depthVs xs) (depthVs ys) < cLine → dataAll xs = true → dataAll ys = true → DReps X.K H xs vs → DReps X.K H ys ws → Vals vs us → Vals ws zs →
      ∀ j (j1 : j < us.toArray.size) (j2 : j < zs.toArray.size), SeqAt.EqAt A.in1 s us.toArray[j] zs.toArray[j] (eqAtN xs ys j) := fun {xs ys vs ws us zs} hm dx dy k1 k2 q1 q2 =>
    items_eq k1 k2 q1 q2 fun d e x y u w md kd ke me qd qe => by
      have z1 := depth_mem md
      have z2 := depth_mem me
      refine eqAt_shape I _ d e x y u w A.in1 rfl (data_mem dx md) (data_mem dy me) kd ke qd qe ?_
      show A.units + 1 + min (depthV d) (depthV e) < cLine
      omega
  cases s1 with
  | non =>
    cases s2 with
    | non => simp only [eqD]; exact SeqAt.RcAt.none_none
    | bl b => simp only [eqD]; exact SeqAt.RcAt.none_bool b
    | int b t2 => simp only [eqD]; exact SeqAt.RcAt.none_int b t2
    | str b t2 => simp only [eqD]; exact SeqAt.RcAt.none_str (S b) t2
    | lst q1 q2 q3 => simp only [eqD]; exact SeqAt.RcAt.none_list q1 hr
    | tup q1 q2 q3 => simp only [eqD]; exact SeqAt.RcAt.none_tuple q1 hr
  | bl a =>
    cases s2 with
    | non => simp only [eqD]; exact SeqAt.RcAt.bool_none a
    | bl b => simp only [eqD]; exact SeqAt.RcAt.bool_bool a b
    | int b t2 => simp only [eqD]; exact SeqAt.RcAt.bool_int a b t2
    | str b t2 => simp only [eqD]; exact SeqAt.RcAt.bool_str a (S b) t2
    | lst q1 q2 q3 => simp only [eqD]; exact SeqAt.RcAt.bool_list a q1 hr
    | tup q1 q2 q3 => simp only [eqD]; exact SeqAt.RcAt.bool_tuple a q1 hr
  | int a t =>
    cases s2 with
    | non => simp only [eqD]; exact SeqAt.RcAt.int_none a t
    | bl b => simp only [eqD]; exact SeqAt.RcAt.int_bool a t b
    | int b t2 => simp only [eqD]; exact SeqAt.RcAt.int_int a t b t2
    | str b t2 => simp only [eqD]; exact SeqAt.RcAt.int_str a t (S b) t2
    | lst q1 q2 q3 => simp only [eqD]; exact SeqAt.RcAt.int_list a t q1 hr
    | tup q1 q2 q3 => simp only [eqD]; exact SeqAt.RcAt.int_tuple a t q1 hr
  | str a t =>
    cases s2 with
    | non => simp only [eqD]; exact SeqAt.RcAt.str_none (S a) t
    | bl b => simp only [eqD]; exact SeqAt.RcAt.str_bool (S a) t b
    | int b t2 => simp only [eqD]; exact SeqAt.RcAt.str_int (S a) t b t2
    | str b t2 => rw [eqD, ← str_beqS]; exact SeqAt.RcAt.str_str (S a) t (S b) t2
    | lst q1 q2 q3 => simp only [eqD]; exact SeqAt.RcAt.str_list (S a) t q1 hr
    | tup q1 q2 q3 => simp only [eqD]; exact SeqAt.RcAt.str_tuple (S a) t q1 hr
  | lst p1 p2 p3 =>
    cases s2 with
    | non => simp only [eqD]; exact SeqAt.RcAt.list_none p1 hr
    | bl b => simp only [eqD]; exact SeqAt.RcAt.list_bool b p1 hr
    | int b t2 => simp only [eqD]; exact SeqAt.RcAt.list_int b t2 p1 hr
    | str b t2 => simp only [eqD]; exact SeqAt.RcAt.list_str (S b) t2 p1 hr
    | lst q1 q2 q3 => 
      rename_i l1 vs us xs l2 ws zs ys
      have n1 := p3.length
      have n2 := p2.length
      have n3 := q3.length
      have n4 := q2.length
      simp only [depthV] at hu
      have it := inner (xs := xs) (ys := ys) (by omega) (by simpa only [Val.data] using hd) (by simpa only [Val.data] using he) p3 q3 p2 q2
      simp only [eqD]
      by_cases hz : xs.length = ys.length
      · have q := SeqAt.RcAt.lists p1 q1 (by simp; omega) hr it
        have e1 : (List.range us.toArray.size).all (eqAtN xs ys) = eqDs xs ys := by
          have := eqDs_all xs ys
          rw [← hz, Nat.min_self] at this
          have e2 : us.toArray.size = xs.length := by simp; omega
          rw [e2]
          simpa [hz] using this
        rw [e1] at q
        exact q
      · have e1 : eqDs xs ys = false := by
          rw [← eqDs_all xs ys]
          simp [hz]
        rw [e1]
        exact SeqAt.RcAt.lists_lengths p1 q1 (by simp; omega) hr
    | tup q1 q2 q3 => simp only [eqD]; exact SeqAt.RcAt.list_tuple p1 q1 hr
  | tup p1 p2 p3 =>
    cases s2 with
    | non => simp only [eqD]; exact SeqAt.RcAt.tuple_none p1 hr
    | bl b => simp only [eqD]; exact SeqAt.RcAt.tuple_bool b p1 hr
    | int b t2 => simp only [eqD]; exact SeqAt.RcAt.tuple_int b t2 p1 hr
    | str b t2 => simp only [eqD]; exact SeqAt.RcAt.tuple_str (S b) t2 p1 hr
    | lst q1 q2 q3 => simp only [eqD]; exact SeqAt.RcAt.tuple_list p1 q1 hr
    | tup q1 q2 q3 => 
      rename_i l1 vs us xs l2 ws zs ys
      have n1 := p3.length
      have n2 := p2.length
      have n3 := q3.length
      have n4 := q2.length
      simp only [depthV] at hu
      have it := inner (xs := xs) (ys := ys) (by omega) (by simpa only [Val.data] using hd) (by simpa only [Val.data] using he) p3 q3 p2 q2
      simp only [eqD]
      have q := SeqAt.RcAt.tuples p1 q1 hr it
      have e1 : us.toArray.size = xs.length := by simp; omega
      have e2 : zs.toArray.size = ys.length := by simp; omega
      rw [e1, e2, eqDs_all] at q
      exact q
theorem rcNeAt_data (I : Inv X pins σ H s) {d e : Val} {x y : V} {u w : Value} {A : Around} (hd : d.data = true) (he : e.data = true) (h1 : DRep X.K H d x) (h2 : DRep X.K H e y) (r1 : RelV x u) (r2 : RelV y w)
    (hu : A.units + min (depthV d) (depthV e) < cLine) : SeqAt.RcNeAt A s u w (!eqD d e) := by
  have hr : A.units < cLine := by omega
  have s1 := shape I h1 r1
  have s2 := shape I h2 r2
  have inner : ∀ {xs ys : List Val} {vs ws : List V} {us zs : List Value}, A.units + 1 + min (depthVs xs) (depthVs ys) < cLine → dataAll xs = true → dataAll ys = true → DReps X.K H xs vs → DReps X.K H ys ws → Vals vs us → Vals ws zs →
      ∀ j (j1 : j < us.toArray.size) (j2 : j < zs.toArray.size), SeqAt.EqAt A.in1 s us.toArray[j] zs.toArray[j] (eqAtN xs ys j) := fun {xs ys vs ws us zs} hm dx dy k1 k2 q1 q2 =>
    items_eq k1 k2 q1 q2 fun d e x y u w md kd ke me qd qe => by
      have z1 := depth_mem md
      have z2 := depth_mem me
      refine eqAt_shape I _ d e x y u w A.in1 rfl (data_mem dx md) (data_mem dy me) kd ke qd qe ?_
      show A.units + 1 + min (depthV d) (depthV e) < cLine
      omega
  cases s1 with
  | non =>
    cases s2 with
    | non => simp only [eqD, Bool.not_false, Bool.not_true]; exact SeqAt.RcNeAt.none_none
    | bl b => simp only [eqD, Bool.not_false, Bool.not_true]; exact SeqAt.RcNeAt.none_bool b
    | int b t2 => simp only [eqD, Bool.not_false, Bool.not_true]; exact SeqAt.RcNeAt.none_int b t2
    | str b t2 => simp only [eqD, Bool.not_false, Bool.not_true]; exact SeqAt.RcNeAt.none_str (S b) t2
    | lst q1 q2 q3 => simp only [eqD, Bool.not_false, Bool.not_true]; exact SeqAt.RcNeAt.none_list q1 hr
    | tup q1 q2 q3 => simp only [eqD, Bool.not_false, Bool.not_true]; exact SeqAt.RcNeAt.none_tuple q1 hr
  | bl a =>
    cases s2 with
    | non => simp only [eqD, Bool.not_false, Bool.not_true]; exact SeqAt.RcNeAt.bool_none a
    | bl b => simp only [eqD, Bool.not_false, Bool.not_true]; exact SeqAt.RcNeAt.bool_bool a b
    | int b t2 => simp only [eqD, Bool.not_false, Bool.not_true]; exact SeqAt.RcNeAt.bool_int a b t2
    | str b t2 => simp only [eqD, Bool.not_false, Bool.not_true]; exact SeqAt.RcNeAt.bool_str a (S b) t2
    | lst q1 q2 q3 => simp only [eqD, Bool.not_false, Bool.not_true]; exact SeqAt.RcNeAt.bool_list a q1 hr
    | tup q1 q2 q3 => simp only [eqD, Bool.not_false, Bool.not_true]; exact SeqAt.RcNeAt.bool_tuple a q1 hr
  | int a t =>
    cases s2 with
    | non => simp only [eqD, Bool.not_false, Bool.not_true]; exact SeqAt.RcNeAt.int_none a t
    | bl b => simp only [eqD, Bool.not_false, Bool.not_true]; exact SeqAt.RcNeAt.int_bool a t b
    | int b t2 => simp only [eqD, Bool.not_false, Bool.not_true]; exact SeqAt.RcNeAt.int_int a t b t2
    | str b t2 => simp only [eqD, Bool.not_false, Bool.not_true]; exact SeqAt.RcNeAt.int_str a t (S b) t2
    | lst q1 q2 q3 => simp only [eqD, Bool.not_false, Bool.not_true]; exact SeqAt.RcNeAt.int_list a t q1 hr
    | tup q1 q2 q3 => simp only [eqD, Bool.not_false, Bool.not_true]; exact SeqAt.RcNeAt.int_tuple a t q1 hr
  | str a t =>
    cases s2 with
    | non => simp only [eqD, Bool.not_false, Bool.not_true]; exact SeqAt.RcNeAt.str_none (S a) t
    | bl b => simp only [eqD, Bool.not_false, Bool.not_true]; exact SeqAt.RcNeAt.str_bool (S a) t b
    | int b t2 => simp only [eqD, Bool.not_false, Bool.not_true]; exact SeqAt.RcNeAt.str_int (S a) t b t2
    | str b t2 => rw [eqD, ← str_beqS]; exact SeqAt.RcNeAt.str_str (S a) t (S b) t2
    | lst q1 q2 q3 => simp only [eqD, Bool.not_false, Bool.not_true]; exact SeqAt.RcNeAt.str_list (S a) t q1 hr
    | tup q1 q2 q3 => simp only [eqD, Bool.not_false, Bool.not_true]; exact SeqAt.RcNeAt.str_tuple (S a) t q1 hr
  | lst p1 p2 p3 =>
    cases s2 with
    | non => simp only [eqD, Bool.not_false, Bool.not_true]; exact SeqAt.RcNeAt.list_none p1 hr
    | bl b => simp only [eqD, Bool.not_false, Bool.not_true]; exact SeqAt.RcNeAt.list_bool b p1 hr
    | int b t2 => simp only [eqD, Bool.not_false, Bool.not_true]; exact SeqAt.RcNeAt.list_int b t2 p1 hr
    | str b t2 => simp only [eqD, Bool.not_false, Bool.not_true]; exact SeqAt.RcNeAt.list_str (S b) t2 p1 hr
    | lst q1 q2 q3 => 
      rename_i l1 vs us xs l2 ws zs ys
      have n1 := p3.length
      have n2 := p2.length
      have n3 := q3.length
      have n4 := q2.length
      simp only [depthV] at hu
      have it := inner (xs := xs) (ys := ys) (by omega) (by simpa only [Val.data] using hd) (by simpa only [Val.data] using he) p3 q3 p2 q2
      simp only [eqD]
      by_cases hz : xs.length = ys.length
      · have q := SeqAt.RcNeAt.lists p1 q1 (by simp; omega) hr it
        have e1 : (List.range us.toArray.size).all (eqAtN xs ys) = eqDs xs ys := by
          have := eqDs_all xs ys
          rw [← hz, Nat.min_self] at this
          have e2 : us.toArray.size = xs.length := by simp; omega
          rw [e2]
          simpa [hz] using this
        rw [e1] at q
        exact q
      · have e1 : eqDs xs ys = false := by
          rw [← eqDs_all xs ys]
          simp [hz]
        rw [e1]
        exact SeqAt.RcNeAt.lists_lengths p1 q1 (by simp; omega) hr
    | tup q1 q2 q3 => simp only [eqD, Bool.not_false, Bool.not_true]; exact SeqAt.RcNeAt.list_tuple p1 q1 hr
  | tup p1 p2 p3 =>
    cases s2 with
    | non => simp only [eqD, Bool.not_false, Bool.not_true]; exact SeqAt.RcNeAt.tuple_none p1 hr
    | bl b => simp only [eqD, Bool.not_false, Bool.not_true]; exact SeqAt.RcNeAt.tuple_bool b p1 hr
    | int b t2 => simp only [eqD, Bool.not_false, Bool.not_true]; exact SeqAt.RcNeAt.tuple_int b t2 p1 hr
    | str b t2 => simp only [eqD, Bool.not_false, Bool.not_true]; exact SeqAt.RcNeAt.tuple_str (S b) t2 p1 hr
    | lst q1 q2 q3 => simp only [eqD, Bool.not_false, Bool.not_true]; exact SeqAt.RcNeAt.tuple_list p1 q1 hr
    | tup q1 q2 q3 => 
      rename_i l1 vs us xs l2 ws zs ys
      have n1 := p3.length
      have n2 := p2.length
      have n3 := q3.length
      have n4 := q2.length
      simp only [depthV] at hu
      have it := inner (xs := xs) (ys := ys) (by omega) (by simpa only [Val.data] using hd) (by simpa only [Val.data] using he) p3 q3 p2 q2
      simp only [eqD]
      have q := SeqAt.RcNeAt.tuples p1 q1 hr it
      have e1 : us.toArray.size = xs.length := by simp; omega
      have e2 : zs.toArray.size = ys.length := by simp; omega
      rw [e1, e2, eqDs_all] at q
      exact q
end
end
end Nlx
end
section
set_option Elab.async false
set_option linter.all false
set_option maxRecDepth 100000
set_option maxHeartbeats 4000000
/-! NlCmp: comparisons. -/
namespace Nlx
open PySem PySem.Spec PyProof.Rows L2 Nl

def copOf : Cop → CmpOp
  | .eq => .Eq | .ne => .NotEq | .lt => .Lt | .le => .LtE | .gt => .Gt | .ge => .GtE | .isin => .In | .nin => .NotIn | .is => .Is | .isn => .IsNot
section
variable {K : PySem.W.Frag} {N : Nm} {P : Addr → Prop} {ρ : List Addr} {st : Nl.Store} {H : Hp} {d : Val} {v : V} {L : Addr → Prop}
theorem DRep.ofView (hd : d.data = true) (h : View K N ρ L H d v) : DRep K H d v := by
  have key : Rep K N ρ L H d v → DRep K H d v := DRep.of d v hd
  cases d with
  | lst xs =>
    obtain ⟨a, vs, e, q, r⟩ := h
    simp only [DRep]
    exact ⟨a, vs, e, .of q, DReps.of xs vs (by simpa only [Val.data] using hd) r⟩
  | dct ks ws => simp [Val.data] at hd
  | obj c fs ws => simp [Val.data] at hd
  | ref a => simp [Val.data] at hd
  | fn f => simp [Val.data] at hd
  | scr _ => simp [Val.data] at hd
  | kon _ _ => simp [Val.data] at hd
  | non => exact key h
  | bl b => exact key h
  | int i => exact key h
  | str x => exact key h
  | tup xs => exact key h
open Classical in
/-- the data that a value stands for -/
noncomputable def datOf (K : PySem.W.Frag) (H : Hp) (u : Value) : Val := if h : ∃ d v, DRep K H d v ∧ RelV v u then h.choose else .non
end
section
variable {X : Cx} {N : Nm} {pins : List (Addr × Obj)} {σ : L2.St} {H : Hp} {s : Shared}
theorem datOf_eq (I : Inv X pins σ H s) {d : Val} {v : V} {u : Value} (h : DRep X.K H d v) (r : RelV v u) : datOf X.K H u = d := by
  have ex : ∃ d v, DRep X.K H d v ∧ RelV v u := ⟨d, v, h, r⟩
  unfold datOf
  rw [dif_pos ex]
  obtain ⟨v', h', r'⟩ := ex.choose_spec
  have := r'.inj r
  subst this
  exact DRep.uniq I _ _ _ h' h
theorem datOf_map (I : Inv X pins σ H s) : ∀ {xs : List Val} {vs : List V} {us : List Value}, DReps X.K H xs vs → Vals vs us → us.map (datOf X.K H) = xs
  | [], vs, us, h, r => by simp only [DReps] at h; subst h; cases r; rfl
  | x :: xs, vs, us, h, r => by
    simp only [DReps] at h
    obtain ⟨v, r', rfl, h1, h3⟩ := h
    cases r with
    | cons r1 r2 => rw [List.map_cons, datOf_eq I h1 r1, datOf_map I h3 r2]
theorem any_items (I : Inv X pins σ H s) {xs : List Val} {vs : List V} {us : List Value} (h : DReps X.K H xs vs) (r : Vals vs us) (x : Val) : us.toArray.any (fun u => eqD (datOf X.K H u) x) = xs.any fun y => eqD y x := by
  have e := datOf_map I h r
  have e2 : (xs.any fun y => eqD y x) = us.any fun u => eqD (datOf X.K H u) x := by rw [← e, List.any_map]; rfl
  rw [e2]
  simp
theorem items_at (I : Inv X pins σ H s) {A : Around} {xs : List Val} {vs : List V} {us : List Value} {x : Val} {y : V} {u : Value} (h : DReps X.K H xs vs) (r : Vals vs us) (hx : x.data = true) (hxs : dataAll xs = true) (h2 : DRep X.K H x y) (r2 : RelV y u)
    (hu : A.units + depthV x < cLine) : ∀ w, w ∈ us.toArray → SeqAt.EqAt A s w u (eqD (datOf X.K H w) x) := fun w hw => by
  obtain ⟨j, hj, e⟩ := List.mem_iff_getElem.mp (by simpa using hw : w ∈ us)
  obtain ⟨d, z, e1, k1, q1⟩ := h.at r hj
  rw [e] at q1
  rw [datOf_eq I k1 q1]
  exact eqAt_shape I _ d x z y w u A rfl (data_mem hxs (List.mem_of_getElem? e1)) hx k1 h2 q1 r2 (by omega)
theorem ltS_iff : ∀ a b : List Nat, ltS a b = decide (a < b)
  | [], [] => by simp [ltS]
  | [], _ :: _ => by simp [ltS]
  | _ :: _, [] => by simp [ltS]
  | a :: x, b :: y => by
    simp only [ltS]
    by_cases h1 : a < b
    · rw [if_pos h1]; symm; exact decide_eq_true (List.cons_lt_cons_iff.mpr (.inl h1))
    · rw [if_neg h1]
      by_cases h2 : b < a
      · rw [if_pos h2]; symm
        refine decide_eq_false fun q => ?_
        rcases List.cons_lt_cons_iff.mp q with q | ⟨q, _⟩ <;> omega
      · have : a = b := by omega
        subst this
        rw [if_neg h2, ltS_iff x y]
        by_cases h3 : x < y
        · rw [decide_eq_true h3]; symm; exact decide_eq_true (List.cons_lt_cons_iff.mpr (.inr ⟨rfl, h3⟩))
        · rw [decide_eq_false h3]; symm
          refine decide_eq_false fun q => ?_
          rcases List.cons_lt_cons_iff.mp q with q | ⟨_, q⟩
          · omega
          · exact h3 q
/-! ### keys -/
theorem keyOf_inj {x y : Val} {k : Key} (h1 : keyOf x = some k) (h2 : keyOf y = some k) : x = y := by
  cases x <;> cases y <;> simp_all [keyOf]
  · rw [← h2] at h1; exact Sum.inl.inj h1
  · rw [← h2] at h1; cases h1
  · rw [← h2] at h1; cases h1
  · rw [← h2] at h1; exact S_inj (Sum.inr.inj h1)
theorem eqD_key {x y : Val} {k l : Key} (h1 : keyOf x = some k) (h2 : keyOf y = some l) : eqD x y = decide (k = l) := by
  cases x <;> simp only [keyOf] at h1 <;> cases y <;> simp only [keyOf] at h2 <;> cases h1 <;> cases h2 <;> simp only [eqD]
  · rename_i i j
    by_cases e : i = j
    · subst e; simp
    · simp [e]
  · simp
  · simp
  · rename_i i j
    by_cases e : i = j
    · subst e; simp
    · rw [beq_eq_false_iff_ne.mpr e]
      symm
      exact decide_eq_false fun q => e (S_inj (Sum.inr.inj q))
theorem keyV_some {x : Val} (h : inV.keyV x = true) : ∃ k, keyOf x = some k := by
  cases x <;> simp_all [inV.keyV, keyOf]
theorem keyIx_val {a : Val} {k : Key} (ha : keyOf a = some k) : ∀ {ks : List Val} {kvs : List (Key × V)}, ks.map keyOf = kvs.map (fun q => some q.1) → valV kvs k = (keyIx a ks).bind fun j => (kvs.map (·.2))[j]?
  | [], kvs, h => by
    have : kvs = [] := by cases kvs with | nil => rfl | cons _ _ => simp at h
    subst this
    simp [keyIx, valV]
  | x :: ks, kvs, h => by
    cases kvs with
    | nil => simp at h
    | cons q kvs =>
      simp only [List.map_cons, List.cons.injEq] at h
      have ih := keyIx_val ha h.2
      simp only [keyIx]
      rw [eqD_key h.1 ha]
      by_cases e : q.1 = k
      · rw [decide_eq_true e, if_pos rfl, valV_pos e]; rfl
      · rw [decide_eq_false e, if_neg Bool.false_ne_true]
        have : valV (q :: kvs) k = valV kvs k := by simp [valV, List.find?_cons, e]
        rw [this, ih]
        cases keyIx a ks with
        | none => rfl
        | some j => simp
theorem keyIx_any {a : Val} : ∀ {ks : List Val}, (keyIx a ks).isSome = ks.any fun y => eqD y a
  | [] => rfl
  | x :: ks => by
    simp only [keyIx, List.any_cons]
    cases eqD x a with
    | true => rfl
    | false =>
      rw [if_neg Bool.false_ne_true, Bool.false_or, ← keyIx_any]
      cases keyIx a ks <;> rfl
theorem keyIx_lt {a : Val} : ∀ {ks : List Val} {j : Nat}, keyIx a ks = some j → j < ks.length
  | [], j, h => by simp [keyIx] at h
  | x :: ks, j, h => by
    simp only [keyIx] at h
    split at h
    · cases h; simp
    · cases e : keyIx a ks with
      | none => rw [e] at h; simp at h
      | some i =>
        rw [e] at h
        simp at h
        subst h
        have := keyIx_lt e
        simp only [List.length_cons]
        omega
theorem keyRep {K : PySem.W.Frag} {N : Nm} {ρ : List Addr} {L : Addr → Prop} {H : Hp} {a : Val} {x : V} {k : Key} (h : keyOf a = some k) (v : View K N ρ L H a x) : x = kV k := by
  cases a <;> simp only [keyOf] at h <;> cases h <;> simp only [View, Rep] at v <;> exact v
theorem dictIs {a : Val} {x : V} {ks : List Val} {kvs : List (Key × V)} {p : Addr} {K : PySem.W.Frag} {N : Nm} {ρ : List Addr} {L : Addr → Prop} {H : Hp} (ha : inV.keyV a = true) (v : View K N ρ L H a x) (hp : H p = some (.dK kvs))
    (hk : ks.map keyOf = kvs.map (fun q => some q.1)) : DGet H p x ((keyIx a ks).bind fun j => (kvs.map (·.2))[j]?) ∧ ((keyIx a ks).bind fun j => (kvs.map (·.2))[j]?).isSome = ks.any fun y => eqD y a := by
  obtain ⟨k, ek⟩ := keyV_some ha
  have e := keyIx_val ek hk
  refine ⟨by rw [keyRep ek v, ← e]; exact .k hp, ?_⟩
  rw [← keyIx_any]
  have hl : ks.length = kvs.length := by simpa using congrArg List.length hk
  cases q : keyIx a ks with
  | none => rfl
  | some j =>
    have hj := keyIx_lt q
    show ((kvs.map (·.2))[j]?).isSome = true
    rw [List.getElem?_eq_getElem (by simp; omega)]
    rfl
/-- lists of unlike lengths -/
theorem rc_lens {X : Cx} {pins : List (Addr × Obj)} {σ : L2.St} {H : Hp} {s : Shared} {N : Nm} {ρ : List Addr} {L : Addr → Prop} {xs ys : List Val} {x y : V} {u w : Value} {A : Around} (I : Inv X pins σ H s) (h1 : View X.K N ρ L H (.lst xs) x) (h2 : View X.K N ρ L H (.lst ys) y) (r1 : RelV x u) (r2 : RelV y w)
    (hn : xs.length ≠ ys.length) (hu : A.units < cLine) : SeqAt.RcAt A s u w false := by
  obtain ⟨a, vs, rfl, q1, z1⟩ := h1
  obtain ⟨b, ws, rfl, q2, z2⟩ := h2
  obtain rfl := r1
  obtain rfl := r2
  obtain ⟨us1, rv1, pl1, _⟩ := I.list (.of q1)
  obtain ⟨us2, rv2, pl2, _⟩ := I.list (.of q2)
  have e1 := z1.length
  have e2 := z2.length
  have e3 := rv1.length
  have e4 := rv2.length
  exact SeqAt.RcAt.lists_lengths pl1.isList pl2.isList (by simp; omega) hu
theorem rcNe_lens {X : Cx} {pins : List (Addr × Obj)} {σ : L2.St} {H : Hp} {s : Shared} {N : Nm} {ρ : List Addr} {L : Addr → Prop} {xs ys : List Val} {x y : V} {u w : Value} {A : Around} (I : Inv X pins σ H s) (h1 : View X.K N ρ L H (.lst xs) x) (h2 : View X.K N ρ L H (.lst ys) y) (r1 : RelV x u) (r2 : RelV y w)
    (hn : xs.length ≠ ys.length) (hu : A.units < cLine) : SeqAt.RcNeAt A s u w true := by
  obtain ⟨a, vs, rfl, q1, z1⟩ := h1
  obtain ⟨b, ws, rfl, q2, z2⟩ := h2
  obtain rfl := r1
  obtain rfl := r2
  obtain ⟨us1, rv1, pl1, _⟩ := I.list (.of q1)
  obtain ⟨us2, rv2, pl2, _⟩ := I.list (.of q2)
  have e1 := z1.length
  have e2 := z2.length
  have e3 := rv1.length
  have e4 := rv2.length
  exact SeqAt.RcNeAt.lists_lengths pl1.isList pl2.isList (by simp; omega) hu
theorem op_cmp (hw : N.w = X.w) (hu : X.A.units + 150 < cLine) (o : Cop) : OpR X (compareOp (copOf o)) (rVal X.K N fun st d e => (cmpV o (rd st d) (rd st e)).map .bl) := by
  intro pins s σ H x y v u Q I rx ry ⟨P, ρ, st, d, e, R, rd1, rd2, z, hz, h⟩
  replace hz : (cmpV o (rd st d) (rd st e)).map .bl = some z := hz
  have v1 := view R rd1
  have v2 := view R rd2
  have done : ∀ {b : Bool}, z = .bl b → Q (.bl b) H := fun {b} e => h ρ H (.refl R) _ (by rw [e]; simp only [Rep])
  have fin : ∀ {b : Bool} {tk : Nat}, z = .bl b → EP X pins σ Q (.bool b) s := fun {b tk} e => ⟨.bl b, H, I, rfl, done e⟩
  have zn : ∀ {b : Bool}, cmpV o (rd st d) (rd st e) = some b → z = .bl b := fun {b} q => by rw [q] at hz; cases hz; rfl
  have he : ∀ {p q : Val} {b : Bool}, Nl.eqV p q = some b → ((p.data = true ∧ q.data = true) ∧ min (depthV p) (depthV q) ≤ 100 ∧ b = eqD p q) ∨ (b = false ∧ ∃ xs ys, p = .lst xs ∧ q = .lst ys ∧ xs.length ≠ ys.length) := fun {p q b} h => by
    unfold Nl.eqV at h
    split at h
    · rename_i hc
      simp only [Bool.and_eq_true, Bool.or_eq_true, decide_eq_true_eq] at hc
      cases h
      refine .inl ⟨hc.1, ?_, rfl⟩
      rcases hc.2 with q | q <;> omega
    · unfold eqE at h
      split at h
      · cases h; exact .inr ⟨rfl, _, _, rfl, rfl, by simp⟩
      · cases h; exact .inr ⟨rfl, _, _, rfl, rfl, by simp⟩
      · cases h
  clear rd1 rd2
  revert hz v1 v2 zn
  generalize rd st d = a
  generalize rd st e = b
  intro hz v1 v2 zn
  cases o with
  | eq =>
    cases hc : Nl.eqV a b with
    | none => simp only [cmpV, hc, Option.map_none] at hz; cases hz
    | some c =>
      rcases he hc with ⟨⟨d1, d2⟩, dp, rfl⟩ | ⟨rfl, xs, ys, rfl, rfl, hn⟩
      · exact rcAt_data I d1 d2 (.ofView d1 v1) (.ofView d2 v2) rx ry (by omega) X.prog X.w _ _ (fin (tk := 0) (zn hc))
      · exact rc_lens I v1 v2 rx ry hn (by omega) X.prog X.w _ _ (fin (tk := 0) (zn hc))
  | ne =>
    cases hc : Nl.eqV a b with
    | none => simp only [cmpV, hc, Option.map_none] at hz; cases hz
    | some c =>
      rcases he hc with ⟨⟨d1, d2⟩, dp, rfl⟩ | ⟨rfl, xs, ys, rfl, rfl, hn⟩
      · exact rcNeAt_data I d1 d2 (.ofView d1 v1) (.ofView d2 v2) rx ry (by omega) X.prog X.w _ _ (fin (tk := 0) (zn (by simp only [cmpV, hc, Option.map_some])))
      · exact rcNe_lens I v1 v2 rx ry hn (by omega) X.prog X.w _ _ (fin (tk := 0) (zn (by simp only [cmpV, hc, Option.map_some]; rfl)))
  | lt =>
    simp only [cmpV] at hz zn
    split at hz
    · simp only [View, Rep] at v1 v2
      exact op_lt pins s σ H x y v u Q I rx ry ⟨_, _, v1, v2, done (zn rfl)⟩
    · simp only [View, Rep] at v1 v2
      exact op_lt_str pins s σ H x y v u Q I rx ry ⟨_, _, v1, v2, by rw [S_cps, S_cps, ← ltS_iff]; exact done (zn rfl)⟩
    · cases hz
  | le =>
    simp only [cmpV] at hz zn
    split at hz
    · simp only [View, Rep] at v1 v2
      exact op_le pins s σ H x y v u Q I rx ry ⟨_, _, v1, v2, done (zn rfl)⟩
    · simp only [View, Rep] at v1 v2
      exact op_le_str pins s σ H x y v u Q I rx ry ⟨_, _, v1, v2, by rw [S_cps, S_cps, ← ltS_iff]; exact done (zn rfl)⟩
    · cases hz
  | gt =>
    simp only [cmpV] at hz zn
    split at hz
    · simp only [View, Rep] at v1 v2
      exact op_gt pins s σ H x y v u Q I rx ry ⟨_, _, v1, v2, done (zn rfl)⟩
    · simp only [View, Rep] at v1 v2
      exact op_gt_str pins s σ H x y v u Q I rx ry ⟨_, _, v1, v2, by rw [S_cps, S_cps, ← ltS_iff]; exact done (zn rfl)⟩
    · cases hz
  | ge =>
    simp only [cmpV] at hz zn
    split at hz
    · simp only [View, Rep] at v1 v2
      exact op_ge pins s σ H x y v u Q I rx ry ⟨_, _, v1, v2, done (zn rfl)⟩
    · simp only [View, Rep] at v1 v2
      exact op_ge_str pins s σ H x y v u Q I rx ry ⟨_, _, v1, v2, by rw [S_cps, S_cps, ← ltS_iff]; exact done (zn rfl)⟩
    · cases hz
  | is =>
    simp only [cmpV] at hz zn
    have nn : ∀ {k : Bool}, b = .non → decide (x = V.non) = k → z = .bl k → wpAny (model X.prog X.w) X.A (compareOp (copOf .is) v u) (EP X pins σ Q) X.xe s := fun {k} e1 e2 e3 => by
      subst e1
      simp only [View, Rep] at v2
      exact op_isN pins s σ H x y v u Q I rx ry ⟨v2, by rw [e2]; exact done e3⟩
    unfold isV at hz zn
    split at hz
    · simp only [View, Rep] at v1 v2
      rename_i p q
      have e : decide (p = q) = (p == q) := by cases p <;> cases q <;> rfl
      exact op_is_bl pins s σ H x y v u Q I rx ry ⟨_, _, v1, v2, by rw [e]; exact done (zn rfl)⟩
    · simp only [View, Rep] at v1; exact nn rfl (by simp [v1]) (zn rfl)
    · simp only [View, Rep] at v1; exact nn rfl (by simp [v1]) (zn rfl)
    · simp only [View, Rep] at v1; exact nn rfl (by simp [v1]) (zn rfl)
    · simp only [View, Rep] at v1; exact nn rfl (by simp [v1]) (zn rfl)
    · simp only [View, Rep] at v1; obtain ⟨_, _, v1, _⟩ := v1; exact nn rfl (by simp [v1]) (zn rfl)
    · simp only [View] at v1; obtain ⟨_, _, v1, _⟩ := v1; exact nn rfl (by simp [v1]) (zn rfl)
    · simp only [View] at v1; obtain ⟨_, _, v1, _⟩ := v1; exact nn rfl (by simp [v1]) (zn rfl)
    · simp only [View, Rep] at v1; obtain ⟨_, _, _, v1, _⟩ := v1; exact nn rfl (by simp [v1]) (zn rfl)
    · simp only [View, Rep] at v1; obtain ⟨_, v1, _⟩ := v1; exact nn rfl (by simp [v1]) (zn rfl)
    · simp only [View, Rep] at v1; exact nn rfl (by simp [v1]) (zn rfl)
    · cases hz
  | isn =>
    simp only [cmpV] at hz zn
    have nn : ∀ {k : Bool}, b = .non → decide (x = V.non) = k → z = .bl (!k) → wpAny (model X.prog X.w) X.A (compareOp (copOf .isn) v u) (EP X pins σ Q) X.xe s := fun {k} e1 e2 e3 => by
      subst e1
      simp only [View, Rep] at v2
      exact op_notN pins s σ H x y v u Q I rx ry ⟨v2, by rw [e2]; exact done e3⟩
    unfold isV at hz zn
    split at hz
    · simp only [View, Rep] at v1 v2
      rename_i p q
      have e : decide (p = q) = (p == q) := by cases p <;> cases q <;> rfl
      exact op_isnot_bl pins s σ H x y v u Q I rx ry ⟨_, _, v1, v2, by rw [e]; exact done (zn rfl)⟩
    · simp only [View, Rep] at v1; exact nn rfl (by simp [v1]) (zn rfl)
    · simp only [View, Rep] at v1; exact nn rfl (by simp [v1]) (zn rfl)
    · simp only [View, Rep] at v1; exact nn rfl (by simp [v1]) (zn rfl)
    · simp only [View, Rep] at v1; exact nn rfl (by simp [v1]) (zn rfl)
    · simp only [View, Rep] at v1; obtain ⟨_, _, v1, _⟩ := v1; exact nn rfl (by simp [v1]) (zn rfl)
    · simp only [View] at v1; obtain ⟨_, _, v1, _⟩ := v1; exact nn rfl (by simp [v1]) (zn rfl)
    · simp only [View] at v1; obtain ⟨_, _, v1, _⟩ := v1; exact nn rfl (by simp [v1]) (zn rfl)
    · simp only [View, Rep] at v1; obtain ⟨_, _, _, v1, _⟩ := v1; exact nn rfl (by simp [v1]) (zn rfl)
    · simp only [View, Rep] at v1; obtain ⟨_, v1, _⟩ := v1; exact nn rfl (by simp [v1]) (zn rfl)
    · simp only [View, Rep] at v1; exact nn rfl (by simp [v1]) (zn rfl)
    · cases hz
  | isin =>
    simp only [cmpV] at hz zn
    unfold Nl.inV at hz zn
    split at hz
    · split at hz
      · simp only [View, Rep] at v1 v2
        exact op_in_sign pins s σ H x y v u Q I rx ry ⟨_, _, v1, v2, by rw [S_cps]; exact done (zn rfl)⟩
      · cases hz
    · split at hz
      · rename_i ys hc
        simp only [Bool.and_eq_true, decide_eq_true_eq] at hc
        simp only [View, Rep] at v2
        obtain ⟨p, vs, rfl, q, r⟩ := v2
        obtain rfl := ry
        obtain ⟨us, rv, pt, _⟩ := I.tuple q
        have dr := DReps.of ys vs hc.1.2 r
        refine SeqAt.in_tupleAt (fun w => eqD (datOf X.K H w) a) pt (items_at I dr rv hc.1.1 hc.1.2 (.ofView hc.1.1 v1) rx (by show X.A.units + 1 + _ < _; omega)) ?_
        rw [any_items I dr rv]
        exact fin (tk := 0) (zn (if_pos (by simp [hc])))
      · cases hz
    · split at hz
      · rename_i ys hc
        simp only [Bool.and_eq_true, decide_eq_true_eq] at hc
        obtain ⟨p, vs, rfl, q, r⟩ := v2
        obtain rfl := ry
        obtain ⟨us, rv, pt, _⟩ := I.list (SqL.of q)
        have dr := DReps.of ys vs hc.1.2 r
        refine SeqAt.in_listAt (fun w => eqD (datOf X.K H w) a) pt.isList (items_at I dr rv hc.1.1 hc.1.2 (.ofView hc.1.1 v1) rx (by show X.A.units + 1 + _ < _; omega)) ?_
        rw [any_items I dr rv]
        exact fin (tk := 0) (zn (if_pos (by simp [hc])))
      · cases hz
    · split at hz
      · rename_i ks ws hc
        simp only [Bool.and_eq_true] at hc
        obtain ⟨p, kvs, rfl, q, hk, r⟩ := v2
        obtain rfl := ry
        obtain ⟨g1, g2⟩ := dictIs hc.1 v1 q hk
        exact d_in (by omega) I g1 rx fun s' I' => by rw [g2]; exact ⟨.bl _, H, I', rfl, done (zn (if_pos (by simp only [hc, Bool.and_self])))⟩
      · cases hz
    · rename_i ks ws
      split at hz
      · rename_i z
        simp only [View, Rep] at v1 v2
        obtain ⟨p, es, n, vs, rfl, D, r, hk⟩ := v2
        rw [hw] at D
        have hk := hk z
        cases hj : keyIx (.str z) ks with
        | none =>
          rw [hj] at hk
          exact op_in_kd D pins s σ H x _ v u Q I rx ry ⟨_, _, v1, rfl, hk, done (zn (by simp [hj]))⟩
        | some j =>
          rw [hj] at hk
          obtain ⟨u1, x1, _, e2, _⟩ := hk
          exact op_in_kd D pins s σ H x _ v u Q I rx ry ⟨_, _, v1, rfl, e2, done (zn (by simp [hj]))⟩
      · cases hz
    · cases hz
  | nin =>
    simp only [cmpV] at hz zn
    unfold Nl.inV at hz zn
    split at hz
    · split at hz
      · simp only [View, Rep] at v1 v2
        exact op_notIn_sign pins s σ H x y v u Q I rx ry ⟨_, _, v1, v2, by rw [S_cps]; exact done (zn rfl)⟩
      · cases hz
    · split at hz
      · rename_i ys hc
        simp only [Bool.and_eq_true, decide_eq_true_eq] at hc
        simp only [View, Rep] at v2
        obtain ⟨p, vs, rfl, q, r⟩ := v2
        obtain rfl := ry
        obtain ⟨us, rv, pt, _⟩ := I.tuple q
        have dr := DReps.of ys vs hc.1.2 r
        refine SeqAt.notIn_tupleAt (fun w => eqD (datOf X.K H w) a) pt (items_at I dr rv hc.1.1 hc.1.2 (.ofView hc.1.1 v1) rx (by show X.A.units + 1 + _ < _; omega)) ?_
        rw [any_items I dr rv]
        exact fin (tk := 0) (zn (by dsimp only; rw [if_pos (by simp [hc])]; rfl))
      · cases hz
    · split at hz
      · rename_i ys hc
        simp only [Bool.and_eq_true, decide_eq_true_eq] at hc
        obtain ⟨p, vs, rfl, q, r⟩ := v2
        obtain rfl := ry
        obtain ⟨us, rv, pt, _⟩ := I.list (SqL.of q)
        have dr := DReps.of ys vs hc.1.2 r
        refine SeqAt.notIn_listAt (fun w => eqD (datOf X.K H w) a) pt.isList (items_at I dr rv hc.1.1 hc.1.2 (.ofView hc.1.1 v1) rx (by show X.A.units + 1 + _ < _; omega)) ?_
        rw [any_items I dr rv]
        exact fin (tk := 0) (zn (by dsimp only; rw [if_pos (by simp [hc])]; rfl))
      · cases hz
    · split at hz
      · rename_i ks ws hc
        simp only [Bool.and_eq_true] at hc
        obtain ⟨p, kvs, rfl, q, hk, r⟩ := v2
        obtain rfl := ry
        obtain ⟨g1, g2⟩ := dictIs hc.1 v1 q hk
        exact d_notIn (by omega) I g1 rx fun s' I' => by rw [g2]; exact ⟨.bl _, H, I', rfl, done (zn (by dsimp only; rw [if_pos (by simp only [hc, Bool.and_self])]; rfl))⟩
      · cases hz
    · rename_i ks ws
      split at hz
      · rename_i z
        simp only [View, Rep] at v1 v2
        obtain ⟨p, es, n, vs, rfl, D, r, hk⟩ := v2
        rw [hw] at D
        have hk := hk z
        cases hj : keyIx (.str z) ks with
        | none =>
          rw [hj] at hk
          exact op_notIn_kd D pins s σ H x _ v u Q I rx ry ⟨_, _, v1, rfl, hk, done (zn (by simp [hj]))⟩
        | some j =>
          rw [hj] at hk
          obtain ⟨u1, x1, _, e2, _⟩ := hk
          exact op_notIn_kd D pins s σ H x _ v u Q I rx ry ⟨_, _, v1, rfl, e2, done (zn (by simp [hj]))⟩
      · cases hz
    · cases hz
end
end Nlx
end
section
set_option Elab.async false
set_option linter.all false
set_option maxRecDepth 100000
set_option maxHeartbeats 4000000
/-! NlIdx: subscripts and slices. -/
namespace Nlx
open PySem PySem.Spec PyProof.Rows L2 Nl

theorem ixOf_eq (n : Nat) (i : Int) : ixOf n i = ixN n i := rfl
theorem sIx_lo (n : Nat) (i : Option Int) : HT.sIx n 0 i = (match i with | none => 0 | some i => clampI n i) := by
  cases i with
  | none => rfl
  | some i =>
    unfold HT.sIx clampI
    dsimp only
    by_cases h : i < 0
    · rw [if_pos h, if_neg (by omega)]
    · rw [if_neg h, if_pos (by omega)]
theorem sIx_hi (n : Nat) (i : Option Int) : HT.sIx n n i = (match i with | none => n | some i => clampI n i) := by
  cases i with
  | none => rfl
  | some i =>
    unfold HT.sIx clampI
    dsimp only
    by_cases h : i < 0
    · rw [if_pos h, if_neg (by omega)]
    · rw [if_neg h, if_pos (by omega)]
theorem slice_cut {α : Type} (xs : List α) (lo hi : Option Int) : (xs.drop (HT.sIx xs.length 0 lo)).take (HT.sIx xs.length xs.length hi - HT.sIx xs.length 0 lo) = sliceL xs lo hi := by
  unfold sliceL
  dsimp only
  rw [sIx_lo, sIx_hi, List.drop_take] <;> rfl
theorem Reps.slice {K : PySem.W.Frag} {N : Nm} {ρ : List Addr} {L : Addr → Prop} {H : Hp} {xs : List Val} {vs : List V} (h : Reps K N ρ L H xs vs) (lo hi : Option Int) : Reps K N ρ L H (sliceL xs lo hi) (cutV vs lo hi) := by
  rw [← slice_cut]
  unfold cutV
  rw [h.length]
  exact (h.drop _).take _
theorem ints_reps {K : PySem.W.Frag} {N : Nm} {ρ : List Addr} {H : Hp} {L : Addr → Prop} : ∀ (ns : List Int), Reps K N ρ L H (ns.map Val.int) (ns.map V.int)
  | [] => .nil
  | n :: ns => .cons (by simp only [Rep]) (ints_reps ns)
section
variable {X : Cx} {N : Nm}
theorem ix_val (hw : N.w = X.w) (hu : X.A.units + 150 < cLine) : IxR X (rVal X.K N fun st d e => idxV (rd st d) e) := by
  intro value slice pins s σ H x y v u Q I rx ry ⟨P, ρ, st, d, e, R, rd1, rd2, z, hz, h⟩ hs
  replace hz : idxV (rd st d) e = some z := hz
  have v1 := view R rd1
  have done : ∀ {w}, Rep X.K N ρ (Lv P ρ st) H z w → Q w H := fun {w} hw => h ρ H (.refl R) w hw
  revert hz v1
  generalize rd st d = a
  intro hz v1
  unfold idxV at hz
  split at hz
  · rename_i xs i
    simp only [View, Rep] at v1 rd2
    obtain ⟨p, vs, e1, q, r⟩ := v1
    cases hk : ixOf xs.length i with
    | none => rw [hk] at hz; cases hz
    | some k =>
      rw [hk] at hz
      obtain ⟨w, ew, rw'⟩ := r.get (i := k) (d := z) hz
      refine ix_tup value slice pins s σ H x y v u Q I rx ry ⟨p, vs, i, w, e1, rd2, q, ?_, done rw'⟩ hs
      unfold atI
      rw [← ixOf_eq, ← r.length, hk]
      exact ew
  · rename_i xs i
    simp only [Rep] at rd2
    obtain ⟨p, vs, e1, q, r⟩ := v1
    cases hk : ixOf xs.length i with
    | none => rw [hk] at hz; cases hz
    | some k =>
      rw [hk] at hz
      obtain ⟨w, ew, rw'⟩ := r.get (i := k) (d := z) hz
      refine ix_list value slice pins s σ H x y v u Q I rx ry ⟨p, vs, i, w, e1, rd2, .of q, ?_, done rw'⟩ hs
      unfold atI
      rw [← ixOf_eq, ← r.length, hk]
      exact ew
  · rename_i xs i
    simp only [View, Rep] at v1 rd2
    split at hz
    · rename_i hl
      cases hk : ixOf xs.length i with
      | none => rw [hk] at hz; cases hz
      | some k =>
        rw [hk] at hz
        cases hc : xs[k]? with
        | none => rw [show (some k).bind (fun k => (xs[k]?).map fun c => Val.str [c]) = (xs[k]?).map fun c => Val.str [c] from rfl, hc] at hz; cases hz
        | some c =>
          rw [show (some k).bind (fun k => (xs[k]?).map fun c => Val.str [c]) = (xs[k]?).map fun c => Val.str [c] from rfl, hc] at hz
          cases hz
          refine ix_str value slice pins s σ H x y v u Q I rx ry ⟨S xs, i, c, v1, rd2, by rw [S_len, lineEq]; exact hl, ?_, done (by simp only [Rep]; rfl)⟩ hs
          unfold atI
          rw [S_cps, ← ixOf_eq, hk]
          exact hc
    · cases hz
  · rename_i ks ws
    split at hz
    · rename_i hc
      simp only [Bool.and_eq_true] at hc
      obtain ⟨p, kvs, rfl, q, hk, r⟩ := v1
      obtain rfl := rx
      obtain ⟨g1, g2⟩ := dictIs (x := y) hc.1 (view R rd2 |> fun t => by
        cases e <;> first | exact t | simp [inV.keyV] at hc) q hk
      cases hj : keyIx e ks with
      | none => rw [hj] at hz; cases hz
      | some j =>
        rw [hj] at hz g1
        obtain ⟨w, ew, rw'⟩ := r.get (i := j) (d := z) hz
        have g1' : DGet H p y (some w) := by rw [← ew]; exact g1
        obtain ⟨k, ek⟩ := keyV_some hc.1
        exact tail_any (dict_typeIs I g1') PySem.F.slot_dict_getitem.lookup (d_getItem (by omega) I g1' ry fun w' s3 I3 rw2 => ⟨w, H, I3, rw2, done rw'⟩) hs
    · cases hz
  · rename_i ks ws z0
    simp only [View, Rep] at v1 rd2
    obtain ⟨p, es, n, vs, rfl, D, r, hk⟩ := v1
    rw [hw] at D
    have hk := hk z0
    cases hj : keyIx (.str z0) ks with
    | none => rw [hj] at hz; cases hz
    | some j =>
      rw [hj] at hk hz
      obtain ⟨u1, x1, e1, e2, e3⟩ := hk
      obtain ⟨w, ew, rw'⟩ := r.get (i := j) (d := z) hz
      rw [e1] at ew
      cases ew
      obtain rfl := rx
      exact tail_any (kd_type D I) PySem.F.slot_dict_getitem.lookup (op_item_kd D pins s σ H (.ref p) y (.ref p) u Q I (show Value.ref p = Value.ref p from rfl) ry ⟨S z0, u1, x1, rfl, rd2, e2, e3, done rw'⟩) hs
  · cases hz
theorem sl_val : SlR X (fun x lo hi H Q => ∃ (P : Addr → Prop) (ρ : List Addr) (st : Nl.Store) (d : Val), Rel X.K N P ρ st H ∧ Rep X.K N ρ (Lv P ρ st) H d x ∧
    ∃ z, (match rd st d with | .tup xs => some (Val.tup (sliceL xs lo hi)) | .lst xs => some (.lst (sliceL xs lo hi)) | .str s => if s.length ≤ line then some (.str (sliceL s lo hi)) else none | .scr ns => some (.lst ((sliceL ns lo hi).map .int)) | _ => none) = some z ∧
      ∀ ρ' H', Step X.K N P ρ st H ρ' st H' → ∀ v, Rep X.K N ρ' (Lv P ρ' st) H' z v → Q v H') := by
  intro pins s σ H x v vl vu lo hi sl Q I rx hsl pl pu ⟨P, ρ, st, d, R, rd1, z, hz, h⟩
  have v1 := view R rd1
  have done : ∀ {w}, Rep X.K N ρ (Lv P ρ st) H z w → Q w H := fun {w} hw => h ρ H (.refl R) w hw
  have doneP : ∀ {p : Addr} {o : HO} {w}, H p = none → Rep X.K N ρ (Lv P ρ st) (upd H p o) z w → Q w (upd H p o) := fun {p o w} hp hw => h ρ _ (.laid R hp) w hw
  revert hz v1
  generalize rd st d = a
  intro hz v1
  split at hz
  · rename_i xs
    cases hz
    simp only [View, Rep] at v1
    obtain ⟨p, vs, e1, q, r⟩ := v1
    refine sl_tupA pins s σ H x v vl vu lo hi sl Q I rx hsl pl pu ⟨p, vs, e1, q, fun hw => done ?_, fun _ l hl => doneP hl (rep_newTup R hl (r.slice lo hi))⟩
    have : cutV vs lo hi = vs := by
      unfold cutV
      rw [hw.1, hw.2]
      simp
    have r2 := r.slice lo hi
    rw [this] at r2
    simp only [Rep]
    exact ⟨p, vs, rfl, q, r2⟩
  · rename_i xs
    cases hz
    obtain ⟨p, vs, e1, q, r⟩ := v1
    exact sl_list pins s σ H x v vl vu lo hi sl Q I rx hsl pl pu ⟨p, vs, e1, .of q, fun l hl => doneP hl (rep_newLst R hl (r.slice lo hi))⟩
  · rename_i xs
    split at hz
    · rename_i hl
      cases hz
      simp only [View, Rep] at v1
      refine sl_str pins s σ H x v vl vu lo hi sl Q I rx hsl pl pu ⟨S xs, v1, by rw [S_len, lineEq]; exact hl, ?_⟩
      have e : cutS (S xs) lo hi = S (sliceL xs lo hi) := by
        rw [← slice_cut]
        unfold cutS
        rw [S_len, S_cps]
        rfl
      rw [e]
      exact done (by simp only [Rep])
    · cases hz
  · rename_i ns
    cases hz
    simp only [View, Rep] at v1
    obtain ⟨p, e1, q⟩ := v1
    have q' : SqL X.K H p (ns.map V.int) := by
      rcases q with ⟨q, _⟩ | ⟨q | ⟨_, q⟩⟩ | q
      · exact .inl q
      · exact absurd q (fun z => nomatch z)
      · exact absurd q (fun z => nomatch z)
      · exact .inr q
    refine sl_list pins s σ H x v vl vu lo hi sl Q I rx hsl pl pu ⟨p, _, e1, q', fun l hl => doneP hl ?_⟩
    have r : Reps X.K N ρ (Lv P ρ st) H (ns.map Val.int) (ns.map V.int) := ints_reps ns
    have r2 := r.slice lo hi
    rw [show sliceL (ns.map Val.int) lo hi = (sliceL ns lo hi).map Val.int from by unfold sliceL; simp [List.map_drop, List.map_take]] at r2
    exact rep_newLst R hl r2
  · cases hz
end
end Nlx
end
section
set_option Elab.async false
set_option linter.all false
set_option maxRecDepth 100000
set_option maxHeartbeats 4000000
/-! NlInt: intL as texts and back. -/
namespace Nlx
open PySem PySem.Spec PyProof.Rows PySem.Calls PySem.NumText L2 Nl

theorem digC : ∀ d : Nat, d < 10 → (Nat.digitChar d).toNat = 48 + d := by decide
theorem digs_eq : ∀ (f n : Nat), n ≤ f → digsF f n = (Nat.toDigits 10 n).map Char.toNat
  | 0, n, h => by
    have : n = 0 := by omega
    subst this; rfl
  | f + 1, n, h => by
    unfold digsF
    by_cases hn : n < 10
    · rw [if_pos hn, Nat.toDigits_of_lt_base hn, List.map_cons, List.map_nil, digC n hn]
    · rw [if_neg hn, digs_eq f (n / 10) (by omega)]
      have hm : n % 10 < 10 := Nat.mod_lt n (by decide)
      have t := Nat.toDigits_append_toDigits (b := 10) (n := n / 10) (d := n % 10) (by decide) (by omega) hm
      rw [Nat.div_add_mod] at t
      rw [← t, List.map_append, Nat.toDigits_of_lt_base hm, List.map_cons, List.map_nil, digC _ hm]
theorem intStr_eq (i : Int) : (Str.ofString (toString i)) = S (intStr i) := by
  have key : (Str.ofString (toString i)).cps.toList = intStr i := by
    rw [signs_ofString]
    cases i with
    | ofNat n =>
      show (Nat.repr n).toList.map Char.toNat = digsF n n
      rw [Nat.toList_repr, digs_eq n n (Nat.le_refl n)]
    | negSucc n =>
      show ("-" ++ Nat.repr (n + 1)).toList.map Char.toNat = 45 :: digsF (n + 1) (n + 1)
      rw [String.toList_append, List.map_append, Nat.toList_repr, digs_eq (n + 1) (n + 1) (Nat.le_refl _)]
      rfl
  rw [← key, S_of]
theorem small_of_log {i : Int} (h : i.natAbs.log2 < 14000) : i.natAbs < 10 ^ 4300 :=
  Nat.lt_of_lt_of_le (lt_of_log2 h) (by decide +kernel)
theorem wp_text2 {M : Model} {A : Around} {E : Value → Shared → Prop} {s : Shared} {Q : Value → Shared → Prop} {v : Value} {text : List Nat} {n : Int} (hn : s.heap.NoDigits)
    (hs : ¬ (text.takeWhile (· != 0)).length ≤ 640) (hr : (int_private% "readNumeral") 4300 10 (text.takeWhile (· != 0)) = (int_private% "Numeral.value") n)
    (ha : ((text.takeWhile (· != 0)).length == text.length) = true) (h : Q (.int n s.toks) { s with toks := s.toks + 1 }) :
    wpAny M A ((int_private% "intFromText") v text 10) Q E s := by
  have md : ∀ {Q : Nat → Shared → Prop}, Q 4300 s → wpAny M A Builtin.intMaxStrDigits Q E s := fun {Q} hQ => by
    obtain ⟨mc, hns, hnone⟩ := hn
    unfold Builtin.intMaxStrDigits
    refine wpAny_bind (wpAny_nsGet hns ?_)
    rw [hnone]
    exact wpAny_pure hQ
  clear hn
  obtain ⟨hp, g, d, tk, os⟩ := s
  repeat (any_goals (first
    | assumption
    | (with_reducible refine wpAny_ite_false (decide_eq_false hs) ?_)
    | (with_reducible refine md ?_)
    | (with_reducible refine wpAny_ite_true (decide_eq_true ha) ?_)
    | wp_step))
  all_goals (try rw [hr])
  all_goals (try dsimp only)
  repeat (any_goals (first
    | assumption
    | (with_reducible refine wpAny_ite_true (decide_eq_true ha) ?_)
    | wp_step))
structure Hid (p : Prop) : Prop where
  out : p
theorem meets_text {x : PySem.Str} {u : Tok} {n : Int} (hl : x.length ≤ 4300) (hn : PySem.intText? x = some n) :
    Meets (Builtin.«int.__new__» ⟨[.type "int", .str x u], []⟩) (fun _ R s => s.heap.NoDigits ∧ R (.ok (.ret (.int n s.toks))) { s with toks := s.toks + 1 }) := fun prog w A R s hyp => by
  have hq := Hid.mk hyp
  clear hyp
  obtain ⟨hp, g, d, tk, os⟩ := s
  have f1 := F.conv_sub_int
  have f2 := F.madeHere_int
  have f3 := PySem.W.KIN.str_int
  have f4 := PySem.W.KIN.str_idx
  have f5 := PySem.W.KIN.str_trunc
  have f6 : typeOf (.str x u) = pure (.type "str") := rfl
  have rd : ∀ {M : Model} {A : Around} {E : Value → Shared → Prop} {Q : Value → Shared → Prop} {v : Value} {text : List Nat}, text = numTextOf x → Q (.int n tk) ⟨hp, g, d, tk + 1, os⟩ →
      wpAny M A ((int_private% "intFromText") v text 10) Q E ⟨hp, g, d, tk, os⟩ := fun {M A E Q v text} et hQ => by
    subst et
    by_cases hs : (numSeenOf x).length ≤ 640
    · rcases read0 x hs with ⟨m, h1, h2, h3⟩ | ⟨h1, _⟩
      · rw [hn] at h1
        cases h1
        exact PySem.W.KIN.wp_text hs h3 h2 hQ
      · rw [hn] at h1; cases h1
    · rcases read4300 x (Nat.le_trans hl (by rw [sizeLine_eq]; decide)) with ⟨m, h1, h2, h3⟩ | ⟨h1, _⟩
      · rw [hn] at h1
        cases h1
        exact wp_text2 hq.out.1 hs h3 h2 hQ
      · rw [hn] at h1; cases h1
  clear hl hn
  repeat (any_goals (first
    | assumption
    | ((with_reducible show wpAny _ _ ((int_private% "intFromText") _ _ _) _ _ _); refine rd rfl ?_)
    | wp_step))
  all_goals first | exact hq.out.2 | skip
theorem call_int_txt {prog : Program} {w : World} {A : Around} {E : Value → Shared → Prop} {s : Shared} {Q : Value → Shared → Prop} {x : PySem.Str} {t : Tok} {n : Int} (hd : s.heap.NoDigits) (hn : PySem.intText? x = some n) (hl : x.length ≤ 4300)
    (h : Q (.int n s.toks) { s with toks := s.toks + 1 }) : wpAny (model prog w) A (call (.type "int") [.str x t]) Q E s :=
  call_int_1 (meets_text hl hn) ⟨hd, ⟨typeIs_int _ _ _, h⟩⟩
theorem allDig {s : List Nat} (h : s.all isDig = true) : AllDigits s := fun c hc => by
  have := List.all_eq_true.mp h c hc
  unfold isDig at this
  exact of_decide_eq_true this
theorem intOf_text {s : List Nat} {i : Int} (h : intOf s = some i) : intText? (S s) = some i ∧ (S s).length ≤ 4300 := by
  unfold intOf at h
  split at h
  · rename_i t
    split at h
    · rename_i hc
      cases h
      refine ⟨?_, by rw [S_len, List.length_cons]; omega⟩
      exact intText_neg (x := S (45 :: t)) (S_cps _) (allDig hc.2.1) hc.1 (by rw [S_len, List.length_cons]; omega)
    · cases h
  · split at h
    · rename_i hc
      cases h
      refine ⟨?_, by rw [S_len]; omega⟩
      have e := intText_digits (x := S s) (by rw [S_cps]; exact allDig hc.2.1) (by rw [S_cps]; exact hc.1) (by rw [S_len]; omega)
      rw [S_cps] at e
      exact e
    · cases h
end Nlx
end
section
set_option Elab.async false
set_option linter.all false
set_option maxRecDepth 100000
set_option maxHeartbeats 4000000
/-! NlBi: what is built in. -/
namespace Nlx
open PySem PySem.Spec PyProof.Rows L2 Nl

def rBi (K : PySem.W.Frag) (N : Nm) (T : Tab) (b : Bi) : List V → Hp → VK → Prop := fun vs H Q => ∃ (P : Addr → Prop) (ρ : List Addr) (st : Nl.Store) (ds : List Val), Rel K N P ρ st H ∧ Reps K N ρ (Lv P ρ st) H ds vs ∧
  ∃ z, biV T b (ds.map (rdI st)) = some z ∧ ∀ ρ' H', Step K N P ρ st H ρ' st H' → ∀ v, Rep K N ρ' (Lv P ρ' st) H' z v → Q v H'
section
variable {K : PySem.W.Frag} {N : Nm} {P : Addr → Prop} {ρ : List Addr} {st : Nl.Store} {H : Hp} {L : Addr → Prop}
def ViewsI (K : PySem.W.Frag) (N : Nm) (ρ : List Addr) (L : Addr → Prop) (H : Hp) : List Val → List V → Prop
  | [], vs => vs = []
  | x :: xs, vs => ∃ v r, vs = v :: r ∧ ViewI K N ρ L H x v ∧ ViewsI K N ρ L H xs r
theorem viewsI (R : Rel K N P ρ st H) : ∀ {ds : List Val} {vs : List V}, Reps K N ρ (Lv P ρ st) H ds vs → ViewsI K N ρ (Lv P ρ st) H (ds.map (rdI st)) vs
  | [], vs, h => by simp only [Reps] at h; subst h; exact rfl
  | d :: ds, vs, h => by
    simp only [Reps] at h
    obtain ⟨v, r, rfl, h1, h2⟩ := h
    exact ⟨v, r, rfl, viewI R h1, viewsI R h2⟩
theorem reps_ints : ∀ {ys : List Val} {ns : List Int} {vs : List V}, Nl.intL ys = some ns → Reps K N ρ L H ys vs → vs = ns.map V.int
  | [], ns, vs, h, r => by simp only [Nl.intL] at h; cases h; simp only [Reps] at r; exact r
  | y :: ys, ns, vs, h, r => by
    cases y <;> simp only [Nl.intL] at h <;> try cases h
    rename_i i
    cases e : Nl.intL ys with
    | none => rw [e] at h; cases h
    | some ms =>
      rw [e] at h
      cases h
      simp only [Reps] at r
      obtain ⟨v, t, rfl, h1, h2⟩ := r
      simp only [Rep] at h1
      rw [h1, reps_ints e h2]; rfl
theorem reps_strs : ∀ {ys : List Val} {ns : List (List Nat)} {vs : List V}, Nl.strL ys = some ns → Reps K N ρ L H ys vs → vs = (ns.map S).map V.str
  | [], ns, vs, h, r => by simp only [Nl.strL] at h; cases h; simp only [Reps] at r; exact r
  | y :: ys, ns, vs, h, r => by
    cases y <;> simp only [Nl.strL] at h <;> try cases h
    rename_i i
    cases e : Nl.strL ys with
    | none => rw [e] at h; cases h
    | some ms =>
      rw [e] at h
      cases h
      simp only [Reps] at r
      obtain ⟨v, t, rfl, h1, h2⟩ := r
      simp only [Rep] at h1
      rw [h1, reps_strs e h2]; rfl
theorem reps_bools : ∀ {ys : List Val} {ns : List Bool} {vs : List V}, bools ys = some ns → Reps K N ρ L H ys vs → vs = ns.map V.bl
  | [], ns, vs, h, r => by simp only [bools] at h; cases h; simp only [Reps] at r; exact r
  | y :: ys, ns, vs, h, r => by
    cases y <;> simp only [bools] at h <;> try cases h
    rename_i i
    cases e : bools ys with
    | none => rw [e] at h; cases h
    | some ms =>
      rw [e] at h
      cases h
      simp only [Reps] at r
      obtain ⟨v, t, rfl, h1, h2⟩ := r
      simp only [Rep] at h1
      rw [h1, reps_bools e h2]; rfl
theorem strs_reps : ∀ (ns : List (List Nat)), Reps K N ρ L H (ns.map Val.str) ((ns.map S).map V.str)
  | [] => .nil
  | n :: ns => .cons (by simp only [Rep]) (strs_reps ns)
theorem keys_reps : ∀ {ks : List Val} {kvs : List (Key × V)}, ks.map keyOf = kvs.map (fun q => some q.1) → Reps K N ρ L H ks (kvs.map fun kv => kV kv.1)
  | [], kvs, h => by
    have : kvs = [] := by cases kvs with | nil => rfl | cons _ _ => simp at h
    subst this; exact .nil
  | k :: ks, kvs, h => by
    cases kvs with
    | nil => simp at h
    | cons q kvs =>
      simp only [List.map_cons, List.cons.injEq] at h
      refine .cons ?_ (keys_reps h.2)
      cases k with
      | int i =>
        have e : Sum.inl i = q.1 := Option.some.inj h.1
        simp only [Rep, ← e, kV]
      | str x =>
        have e : Sum.inr (S x) = q.1 := Option.some.inj h.1
        simp only [Rep, ← e, kV]
      | _ => exact absurd h.1 (by simp [keyOf])
end
section
variable {X : Cx} {N : Nm} {T : Tab}
/-- the common beginning: what stands behind -/
theorem bi_start {b : Bi} {vs : List V} {H : Hp} {Q : VK} (h : rBi X.K N T b vs H Q) : ∃ (P : Addr → Prop) (ρ : List Addr) (st : Nl.Store) (ds : List Val) (z : Val), Rel X.K N P ρ st H ∧ ViewsI X.K N ρ (Lv P ρ st) H ds vs ∧ biV T b ds = some z ∧
    (∀ {w}, Rep X.K N ρ (Lv P ρ st) H z w → Q w H) ∧ (∀ {p : Addr} {o : HO} {w}, H p = none → Rep X.K N ρ (Lv P ρ st) (upd H p o) z w → Q w (upd H p o)) := by
  obtain ⟨P, ρ, st, ds, R, rs, z, hz, k⟩ := h
  exact ⟨P, ρ, st, _, z, R, viewsI R rs, hz, fun {w} hw => k ρ H (.refl R) w hw, fun {p o w} hp hw => k ρ _ (.laid R hp) w hw⟩
theorem bi_len : CallR X (.builtin "len") (rBi X.K N T .len) := by
  intro pins s σ H xs us Q I r h
  obtain ⟨P, ρ, st, ds, z, R, vw, hz, done, doneP⟩ := bi_start h
  replace hz : biLen ds = some z := hz
  unfold biLen at hz
  split at hz
  · split at hz
    · rename_i hl
      cases hz
      obtain ⟨v, _, rfl, q, rfl⟩ := vw
      simp only [ViewI, Rep] at q
      subst q
      exact call_len pins s σ H _ us Q I r ⟨_, _, rfl, ⟨by rw [S_len, lineEq]; exact hl, rfl⟩, by rw [S_len]; exact done (by simp only [Rep])⟩
    · cases hz
  · cases hz
    obtain ⟨v, _, rfl, q, rfl⟩ := vw
    simp only [ViewI, Rep] at q
    obtain ⟨a, ws, rfl, e, rr⟩ := q
    exact call_len pins s σ H _ us Q I r ⟨_, _, rfl, .inr ⟨_, e, rfl⟩, by rw [← rr.length]; exact done (by simp only [Rep])⟩
  · cases hz
    obtain ⟨v, _, rfl, q, rfl⟩ := vw
    obtain ⟨a, ws, rfl, e, rr⟩ := q
    exact call_len pins s σ H _ us Q I r ⟨_, _, rfl, .inl ⟨_, .of e, rfl⟩, by rw [← rr.length]; exact done (by simp only [Rep])⟩
  · cases hz
    obtain ⟨v, _, rfl, q, rfl⟩ := vw
    obtain ⟨a, kvs, rfl, e, hk, rr⟩ := q
    have hl : _ = _ := congrArg List.length hk
    simp only [List.length_map] at hl
    exact call_lenD pins s σ H _ us Q I r ⟨_, _, rfl, e, by rw [← hl]; exact done (by simp only [Rep])⟩
  · cases hz
theorem bi_abs : CallR X (.builtin "abs") (rBi X.K N T .abs) := by
  intro pins s σ H xs us Q I r h
  obtain ⟨P, ρ, st, ds, z, R, vw, hz, done, doneP⟩ := bi_start h
  replace hz : biAbs ds = some z := hz
  unfold biAbs at hz
  split at hz
  · cases hz
    obtain ⟨v, _, rfl, q, rfl⟩ := vw
    simp only [ViewI, Rep] at q
    subst q
    exact call_abs pins s σ H _ us Q I r ⟨_, rfl, done (by simp only [Rep])⟩
  · cases hz
theorem bi_min2 (hc : X.calm = true) : CallR X (.builtin "min") (rBi X.K N T .min2) := by
  intro pins s σ H xs us Q I r h
  obtain ⟨P, ρ, st, ds, z, R, vw, hz, done, doneP⟩ := bi_start h
  replace hz : biMin2 ds = some z := hz
  unfold biMin2 at hz
  split at hz
  · cases hz
    obtain ⟨v, _, rfl, q, v2, _, rfl, q2, rfl⟩ := vw
    simp only [ViewI, Rep] at q q2
    subst q q2
    exact call_min2 hc pins s σ H _ us Q I r ⟨_, _, rfl, done (by simp only [Rep])⟩
  · cases hz
theorem bi_max2 (hc : X.calm = true) : CallR X (.builtin "max") (rBi X.K N T .max2) := by
  intro pins s σ H xs us Q I r h
  obtain ⟨P, ρ, st, ds, z, R, vw, hz, done, doneP⟩ := bi_start h
  replace hz : biMax2 ds = some z := hz
  unfold biMax2 at hz
  split at hz
  · cases hz
    obtain ⟨v, _, rfl, q, v2, _, rfl, q2, rfl⟩ := vw
    simp only [ViewI, Rep] at q q2
    subst q q2
    exact call_max2 hc pins s σ H _ us Q I r ⟨_, _, rfl, done (by simp only [Rep])⟩
  · cases hz
theorem bi_tuple : CallR X (.type "tuple") (rBi X.K N T .tuple) := by
  intro pins s σ H xs us Q I r h
  obtain ⟨P, ρ, st, ds, z, R, vw, hz, done, doneP⟩ := bi_start h
  replace hz : biTuple ds = some z := hz
  unfold biTuple at hz
  split at hz
  · cases hz
    obtain ⟨v, _, rfl, q, rfl⟩ := vw
    simp only [ViewI, Rep] at q
    obtain ⟨a, ws, rfl, e, rr⟩ := q
    exact call_tuple_of pins s σ H _ us Q I r ⟨_, _, rfl, .inr ⟨e, done (by simp only [Rep]; exact ⟨a, ws, rfl, e, rr⟩)⟩⟩
  · cases hz
    obtain ⟨v, _, rfl, q, rfl⟩ := vw
    obtain ⟨a, ws, rfl, e, rr⟩ := q
    exact call_tuple_of pins s σ H _ us Q I r ⟨_, _, rfl, .inl ⟨.of e, fun l hl => doneP hl (rep_newTup R hl rr)⟩⟩
  · cases hz
theorem bi_list (hc : X.calm = true) : CallR X (.type "list") (rBi X.K N T .list) := by
  intro pins s σ H xs us Q I r h
  obtain ⟨P, ρ, st, ds, z, R, vw, hz, done, doneP⟩ := bi_start h
  replace hz : biList ds = some z := hz
  unfold biList at hz
  split at hz
  · cases hz
    obtain ⟨v, _, rfl, q, rfl⟩ := vw
    simp only [ViewI, Rep] at q
    obtain ⟨a, ws, rfl, e, rr⟩ := q
    exact call_list_of pins s σ H _ us Q I r ⟨_, _, rfl, .inr e, fun l hl => doneP hl (rep_newLst R hl rr)⟩
  · cases hz
    obtain ⟨v, _, rfl, q, rfl⟩ := vw
    obtain ⟨a, ws, rfl, e, rr⟩ := q
    exact call_list_of pins s σ H _ us Q I r ⟨_, _, rfl, .inl (.of e), fun l hl => doneP hl (rep_newLst R hl rr)⟩
  · split at hz
    · cases hz
      obtain ⟨v, _, rfl, q, rfl⟩ := vw
      obtain ⟨a, kvs, rfl, e, hk, rr⟩ := q
      exact call_listD hc pins s σ H _ us Q I r ⟨_, _, rfl, .inl e, fun l hl => doneP hl (rep_newLst R hl (keys_reps hk))⟩
    · cases hz
  · cases hz
theorem bi_all (hc : X.calm = true) : CallR X (.builtin "all") (rBi X.K N T .all) := by
  intro pins s σ H xs us Q I r h
  obtain ⟨P, ρ, st, ds, z, R, vw, hz, done, doneP⟩ := bi_start h
  replace hz : biAll ds = some z := hz
  unfold biAll at hz
  split at hz
  · rename_i ys
    obtain ⟨v, _, rfl, q, rfl⟩ := vw
    obtain ⟨a, ws, rfl, e, rr⟩ := q
    cases hb : bools ys with
    | none => rw [hb] at hz; cases hz
    | some bs =>
      rw [hb] at hz
      cases hz
      have := reps_bools hb rr
      subst this
      exact cr_all hc pins s σ H _ us Q I r ⟨_, _, rfl, .of e, done (by simp only [Rep])⟩
  · cases hz
theorem bi_any (hc : X.calm = true) : CallR X (.builtin "any") (rBi X.K N T .any) := by
  intro pins s σ H xs us Q I r h
  obtain ⟨P, ρ, st, ds, z, R, vw, hz, done, doneP⟩ := bi_start h
  replace hz : biAny ds = some z := hz
  unfold biAny at hz
  split at hz
  · rename_i ys
    obtain ⟨v, _, rfl, q, rfl⟩ := vw
    obtain ⟨a, ws, rfl, e, rr⟩ := q
    cases hb : bools ys with
    | none => rw [hb] at hz; cases hz
    | some bs =>
      rw [hb] at hz
      cases hz
      have := reps_bools hb rr
      subst this
      exact cr_any hc pins s σ H _ us Q I r ⟨_, _, rfl, .of e, done (by simp only [Rep])⟩
  · cases hz
theorem sumI_eq : ∀ ns : List Int, sumI ns = ns.sum
  | [] => rfl
  | n :: ns => by simp only [sumI, List.sum_cons, sumI_eq ns]
theorem bi_sum (hc : X.calm = true) : CallR X (.builtin "sum") (rBi X.K N T .sum) := by
  intro pins s σ H xs us Q I r h
  obtain ⟨P, ρ, st, ds, z, R, vw, hz, done, doneP⟩ := bi_start h
  replace hz : biSum ds = some z := hz
  unfold biSum at hz
  split at hz
  · rename_i ys
    obtain ⟨v, _, rfl, q, rfl⟩ := vw
    obtain ⟨a, ws, rfl, e, rr⟩ := q
    cases hb : Nl.intL ys with
    | none => rw [hb] at hz; cases hz
    | some bs =>
      rw [hb] at hz
      cases hz
      have := reps_ints hb rr
      subst this
      exact cr_sum hc pins s σ H _ us Q I r ⟨_, _, rfl, .of e, done (by simp only [Rep, sumI_eq])⟩
  · cases hz
theorem bi_str (hnd : ∀ {pins : List (Addr × Obj)} {s : Shared} {σ : L2.St} {H : Hp}, Inv X pins σ H s → s.heap.NoDigits) (hh : X.A.handled = none) : CallR X (.type "str") (rBi X.K N T .str) := by
  intro pins s σ H xs us Q I r h
  obtain ⟨P, ρ, st, ds, z, R, vw, hz, done, doneP⟩ := bi_start h
  replace hz : biStr ds = some z := hz
  unfold biStr at hz
  split at hz
  · split at hz
    · rename_i i hl
      cases hz
      obtain ⟨v, _, rfl, q, rfl⟩ := vw
      simp only [ViewI, Rep] at q
      subst q
      obtain ⟨u, rfl, t, rfl⟩ := vals1 r
      have hsm : i.natAbs < 10 ^ 4300 := small_of_log hl
      refine str_of_int_or hh (hnd I) (fun _ => ?_) (fun hb => absurd hsm (Nat.not_lt.mpr hb))
      exact ⟨.str (S (intStr i)), H, I.tok _, ⟨_, congrArg (Value.str · s.toks) (intStr_eq i)⟩, done (by simp only [Rep])⟩
    · cases hz
  · cases hz
    obtain ⟨v, _, rfl, q, rfl⟩ := vw
    simp only [ViewI, Rep] at q
    subst q
    exact SkE.call_str_str pins s σ H _ us Q I r ⟨_, rfl, done (by simp only [Rep])⟩
  · cases hz
    obtain ⟨v, _, rfl, q, rfl⟩ := vw
    simp only [ViewI, Rep] at q
    subst q
    rename_i k
    obtain ⟨u, rfl, ru⟩ := vals1 r
    obtain rfl := ru
    refine PySem.P.str_of_bool ?_
    refine ⟨.str (S (if k then [84, 114, 117, 101] else [70, 97, 108, 115, 101])), H, I.tok _, ⟨s.toks, ?_⟩, done (by simp only [Rep])⟩
    cases k <;> rfl
  · cases hz
theorem bi_int (hnd : ∀ {pins : List (Addr × Obj)} {s : Shared} {σ : L2.St} {H : Hp}, Inv X pins σ H s → s.heap.NoDigits) : CallR X (.type "int") (rBi X.K N T .int) := by
  intro pins s σ H xs us Q I r h
  obtain ⟨P, ρ, st, ds, z, R, vw, hz, done, doneP⟩ := bi_start h
  replace hz : biInt ds = some z := hz
  unfold biInt at hz
  split at hz
  · cases hz
    obtain ⟨v, _, rfl, q, rfl⟩ := vw
    simp only [ViewI, Rep] at q
    subst q
    exact call_int1 pins s σ H _ us Q I r (.inl ⟨_, rfl, done (by simp only [Rep])⟩)
  · cases hz
    obtain ⟨v, _, rfl, q, rfl⟩ := vw
    simp only [ViewI, Rep] at q
    subst q
    exact call_int1 pins s σ H _ us Q I r (.inr ⟨_, rfl, done (by simp only [Rep])⟩)
  · obtain ⟨v, _, rfl, q, rfl⟩ := vw
    simp only [ViewI, Rep] at q
    subst q
    rename_i x
    cases hi : intOf x with
    | none => rw [hi] at hz; cases hz
    | some i =>
      rw [hi] at hz
      cases hz
      obtain ⟨u, rfl, ru⟩ := vals1 r
      obtain ⟨t, rfl⟩ := ru
      exact call_int_txt (hnd I) (intOf_text hi).1 (intOf_text hi).2 ⟨.int i, H, I.tok _, ⟨_, rfl⟩, done (by simp only [Rep])⟩
  · cases hz
end
end Nlx
end
section
set_option Elab.async false
set_option linter.all false
set_option maxRecDepth 100000
set_option maxHeartbeats 4000000
/-! NlBi2: isinstance and repr. -/
namespace Nlx
open PySem PySem.Spec PyProof.Rows L2 Nl

/-! ### isinstance -/
def tyNm : Ty → String
  | .int => "int" | .bool => "bool" | .str => "str" | .tuple => "tuple" | .list => "list" | .dict => "dict" | .cls _ => ""
def tyC (N : Nm) : Ty → V
  | .cls c => .ref (N.ca c)
  | t => .ty (tyNm t)
def vTy : Val → String
  | .non => "NoneType" | .bl _ => "bool" | .int _ => "int" | .str _ => "str" | .tup _ => "tuple" | .lst _ => "list" | .dct _ _ => "dict" | _ => ""
def flatTys : List String := ["NoneType", "bool", "int", "str", "tuple", "list", "dict"]
/-- a class as isinstance asks it -/
structure ClsI (K : PySem.W.Frag) (C : Addr) : Prop where
  cl : Cls K C
  ha : PySem.W.findIn K (.ref C) "__class__" = some (some (.builtin "object.__class__"))
  hn : PySem.W.specialIn K (.builtin "object.__class__") "__get__" = some (some (.builtin "getset_descriptor.__get__"))
  tk : PySem.W.takesIn K (.builtin "object.__class__") = some true
  hm : PySem.W.mroIn K C (.type "object") = some true
  no : ∀ n ∈ flatTys, PySem.W.kitOne K (.type n) (.ref C) = some false
theorem kit_flat : ∀ a ∈ flatTys, ∀ b ∈ flatTys, kitB a b = some (a == b || (a == "bool" && b == "int")) := by decide +kernel
section
variable {K : PySem.W.Frag} {N : Nm} {ρ : List Addr} {L : Addr → Prop} {H : Hp}
theorem tyx_sqT {a : Addr} {vs : List V} (h : SqT K H a vs) : TyX K H (.ref a) (.type "tuple") := by
  rcases h with (h | ⟨o, h⟩) | ⟨o, its, n, e, c, _⟩
  · exact .base (.tup h)
  · exact .fTuple h
  · exact .kTuple e c
/-- a value of a built-in type -/
theorem flat_ty {d : Val} {v : V} {n : String} (hd : vTy d = n) (hn : n ≠ "")
    (h : ViewI K N ρ L H d v) : TyX K H v (.type n) ∧ n ∈ flatTys := by
  subst hd
  cases d with
  | non => simp only [ViewI, Rep] at h; subst h; exact ⟨.base .non, by simp [vTy, flatTys]⟩
  | bl b => simp only [ViewI, Rep] at h; subst h; exact ⟨.base (.bl b), by simp [vTy, flatTys]⟩
  | int i => simp only [ViewI, Rep] at h; subst h; exact ⟨.base (.int i), by simp [vTy, flatTys]⟩
  | str x => simp only [ViewI, Rep] at h; subst h; exact ⟨.base (.str _), by simp [vTy, flatTys]⟩
  | tup xs => simp only [ViewI, Rep] at h; obtain ⟨a, vs, rfl, q, _⟩ := h; exact ⟨tyx_sqT q, by simp [vTy, flatTys]⟩
  | lst xs => obtain ⟨a, vs, rfl, q, _⟩ := h; exact ⟨.base (.lst q), by simp [vTy, flatTys]⟩
  | dct ks ws => obtain ⟨a, vs, rfl, q, _⟩ := h; exact ⟨.base (.dK q), by simp [vTy, flatTys]⟩
  | obj c fs ws => exact absurd rfl hn
  | ref a => exact absurd rfl hn
  | fn f => exact absurd rfl hn
  | scr xs => exact absurd rfl hn
  | kon ks vs => exact absurd rfl hn
end
section
variable {X : Cx} {N : Nm} {T : Tab}
theorem bi_isI (t : Ty) (hc : ∀ c, t = .cls c → ClsI X.K (N.ca c)) : CallR X (.builtin "isinstance") (fun vs H Q => ∃ v, vs = [v, tyC N t] ∧ rBi X.K N T (.isI t) [v] H Q) := by
  intro pins s σ H xs us Q I r ⟨v, e, h⟩
  subst e
  obtain ⟨P, ρ, st, ds, z, R, vw, hz, done, doneP⟩ := bi_start h
  replace hz : biIsI t ds = some z := hz
  unfold biIsI at hz
  split at hz
  · rename_i d
    obtain ⟨w, _, e1, q, e2⟩ := vw
    subst e2
    cases e1
    -- a value of a built-in type, any class
    have flat : ∀ {n : String} {b : Bool}, vTy d = n → n ≠ "" → z = .bl b →
        (∀ c, t = .cls c → b = false) → (∀ m, tyC N t = .ty m → m ∈ flatTys ∧ b = (n == m || (n == "bool" && m == "int"))) →
        wpAny (model X.prog X.w) X.A (call (.builtin "isinstance") us) (EP X pins σ Q) X.xe s := fun {n b} e1 e2 ez h1 h2 => by
      obtain ⟨ty, hn⟩ := flat_ty e1 e2 q
      have fin : Q (.bl b) H := done (by rw [ez]; simp only [Rep])
      cases ht : t with
      | cls c =>
        have := h1 c ht
        subst this
        rw [ht] at r
        exact call_isi pins s σ H _ us Q I r ⟨v, .ref (N.ca c), _, _, false, rfl, .own _, ty, (hc c ht).no _ hn, fin⟩
      | _ =>
        obtain ⟨hm, eb⟩ := h2 _ (by rw [ht]; rfl)
        rw [ht] at r
        exact call_isi pins s σ H _ us Q I r ⟨v, .ty _, _, _, b, rfl, .ty _, ty, kit_ty (by rw [kit_flat _ hn _ hm, eb]), fin⟩
    cases hb : isTy t d with
    | none => rw [hb] at hz; cases hz
    | some b =>
      rw [hb] at hz
      cases hz
      cases d with
      | obj c fs ws =>
        cases t <;> simp only [isTy] at hb <;> try cases hb
        rename_i c'
        split at hb
        · rename_i ec
          subst ec
          cases hb
          obtain ⟨a, dx, fvs, rfl, ea, _, _⟩ := q
          have C := hc c' rfl
          exact call_isi pins s σ H _ us Q I r ⟨_, .ref (N.ca c'), .ref (N.ca c'), .ref (N.ca c'), true, rfl, .own _, .base (.ins ea C.cl C.ha C.hn C.tk C.hm), by unfold PySem.W.kitOne; rw [if_pos (by simp)], done (by simp only [Rep])⟩
        · cases hb
      | ref a => cases t <;> simp only [isTy] at hb <;> cases hb
      | fn a => cases t <;> simp only [isTy] at hb <;> cases hb
      | scr a => cases t <;> simp only [isTy] at hb <;> cases hb
      | kon a b => cases t <;> simp only [isTy] at hb <;> cases hb
      | _ =>
        refine flat rfl (by simp [vTy]) rfl (fun c ec => ?_) (fun m em => ?_)
        · subst ec
          simp only [isTy] at hb
          exact (Option.some.inj hb).symm
        · cases t <;> simp only [isTy] at hb <;> cases hb <;> simp only [tyC, tyNm, V.ty.injEq, reduceCtorEq] at em <;> subst em <;> exact ⟨by decide, by simp [vTy]⟩
  · cases hz
end
/-! ### repr -/
mutual
def toPy : Val → PyData
  | .non => .none
  | .bl b => .bool b
  | .int i => .int i
  | .str s => .str (S s)
  | .lst xs => .list (toPys xs)
  | .tup xs => .tuple (toPys xs)
  | .dct _ _ | .obj _ _ _ | .ref _ | .fn _ | .scr _ | .kon _ _ => .none
def toPys : List Val → List PyData
  | [] => []
  | x :: xs => toPy x :: toPys xs
end
/-- the text of repr -/
def repT (d : Val) : List Nat := (toPy d).shown.cps.toList
mutual
theorem rep_data : ∀ d : Val, repOk d = true → d.data = true
  | .non, _ | .bl _, _ | .int _, _ | .str _, _ => by simp only [Val.data]
  | .lst xs, h => by simp only [repOk] at h; simp only [Val.data]; exact reps_data xs h
  | .tup xs, h => by simp only [repOk] at h; simp only [Val.data]; exact reps_data xs h
  | .dct _ _, h | .obj _ _ _, h | .ref _, h | .fn _, h | .scr _, h | .kon _ _, h => by simp [repOk] at h
theorem reps_data : ∀ xs : List Val, repOks xs = true → dataAll xs = true
  | [], _ => by simp only [dataAll]
  | x :: xs, h => by
    simp only [repOks, Bool.and_eq_true] at h
    simp only [dataAll, Bool.and_eq_true]
    exact ⟨rep_data x h.1, reps_data xs h.2⟩
end
mutual
theorem py_show : ∀ d : Val, repOk d = true → (toPy d).showable = true ∧ (toPy d).hasDict = false ∧ (toPy d).depth = depthV d
  | .non, _ => ⟨rfl, rfl, rfl⟩
  | .bl _, _ => ⟨rfl, rfl, rfl⟩
  | .int i, h => ⟨by simpa only [repOk, toPy, PyData.showable] using h, rfl, rfl⟩
  | .str _, _ => ⟨rfl, rfl, rfl⟩
  | .lst xs, h => by
    simp only [repOk] at h
    obtain ⟨h1, h2, h3⟩ := pys_show xs h
    exact ⟨by simpa only [toPy, PyData.showable] using h1, by simpa only [toPy, PyData.hasDict] using h2, by simp only [toPy, PyData.depth, depthV, h3]⟩
  | .tup xs, h => by
    simp only [repOk] at h
    obtain ⟨h1, h2, h3⟩ := pys_show xs h
    exact ⟨by simpa only [toPy, PyData.showable] using h1, by simpa only [toPy, PyData.hasDict] using h2, by simp only [toPy, PyData.depth, depthV, h3]⟩
  | .dct _ _, h | .obj _ _ _, h | .ref _, h | .fn _, h | .scr _, h | .kon _ _, h => by simp [repOk] at h
theorem pys_show : ∀ xs : List Val, repOks xs = true → PyData.showableAll (toPys xs) = true ∧ PyData.hasDictAll (toPys xs) = false ∧ PyData.depthAll (toPys xs) = depthVs xs
  | [], _ => ⟨rfl, rfl, rfl⟩
  | x :: xs, h => by
    simp only [repOks, Bool.and_eq_true] at h
    obtain ⟨h1, h2, h3⟩ := py_show x h.1
    obtain ⟨g1, g2, g3⟩ := pys_show xs h.2
    exact ⟨by simp only [toPys, PyData.showableAll, h1, g1, Bool.and_self], by simp only [toPys, PyData.hasDictAll, h2, g2, Bool.or_self], by simp only [toPys, PyData.depthAll, depthVs, h3, g3]⟩
end
theorem len_app (a b : Str) : (a ++ b).length = a.length + b.length := strLen_append a b
theorem textFrom_le : ∀ (ts : List Str) (k : Nat) (acc : Str), (textFrom k acc ts).length ≤ acc.length + (ts.map fun t => t.length + 2).sum
  | [], k, acc => by simp [textFrom]
  | t :: ts, k, acc => by
    have ih := textFrom_le ts (k + 1) (acc ++ (if k > 0 then ", " else "" : String) ++ t)
    have e : (acc ++ (if k > 0 then ", " else "" : String) ++ t).length ≤ acc.length + t.length + 2 := by
      rw [len_app, len_app]
      have : (((if k > 0 then ", " else "" : String) : Str)).length ≤ 2 := by split <;> decide
      omega
    simp only [textFrom, List.map_cons, List.sum_cons]
    omega
theorem join_le : ∀ ts : List Str, (Str.join ", " ts).length ≤ (ts.map fun t => t.length + 2).sum := fun ts => by
  by_cases h : ts = []
  · subst h; decide
  · have := join_length_add ts h
    unfold piled at this
    omega
theorem digs_len (n : Nat) : (digs n).length ≤ n.log2 + 1 := by
  have e : (digs n).length = (Nat.repr n).length := by
    unfold digs
    rw [digs_eq n n (Nat.le_refl n), ← String.length_toList, Nat.toList_repr, List.length_map]
  rw [e]
  refine (Nat.length_repr_le_iff (Nat.succ_pos _)).mpr ?_
  refine Nat.lt_of_lt_of_le (lt_of_log2 (Nat.lt_succ_self _)) (Nat.pow_le_pow_left (by decide) _)
theorem int_len (i : Int) : ((toString i : String) : Str).length ≤ i.natAbs.log2 + 3 := by
  show (Str.ofString (toString i)).length ≤ _
  rw [intStr_eq, S_len]
  cases i with
  | ofNat n => have := digs_len n; show (digs n).length ≤ n.log2 + 3; omega
  | negSucc n => have := digs_len (n + 1); show (45 :: digs (n + 1)).length ≤ (n + 1).log2 + 3; rw [List.length_cons]; omega
mutual
theorem shown_le : ∀ d : Val, repOk d = true → (toPy d).shown.length ≤ repB d
  | .non, _ => by decide
  | .bl b, _ => by cases b <;> decide
  | .int i, _ => by simp only [toPy, PyData.shown, repB]; exact int_len i
  | .str x, h => by
    simp only [toPy, PyData.shown, repB]
    have hx : ∀ c ∈ (S x).cps.toList, c < 16 ^ 8 := fun c hc => by
      rw [S_cps] at hc
      simp only [repOk, List.all_eq_true, decide_eq_true_eq] at h
      exact h c hc
    have := PySem.StrLaws.reprText_len (S x) hx
    rw [S_len] at this
    exact this
  | .lst xs, h => by
    simp only [repOk] at h
    have ih := showns_le xs h
    simp only [toPy, PyData.shown, repB]
    unfold listText
    rw [len_app]
    have := textFrom_le (PyData.shownAll (toPys xs)) 0 "["
    have e1 : (("[" : String) : Str).length = 1 := by decide
    have e2 : (("]" : String) : Str).length = 1 := by decide
    omega
  | .tup xs, h => by
    simp only [repOk] at h
    have ih := showns_le xs h
    simp only [toPy, PyData.shown, repB]
    unfold tupleText
    rw [len_app, len_app]
    have := join_le (PyData.shownAll (toPys xs))
    have e1 : (("(" : String) : Str).length = 1 := by decide
    have e2 : (((if (PyData.shownAll (toPys xs)).length == 1 then ",)" else ")" : String)) : Str).length ≤ 2 := by split <;> decide
    omega
  | .dct _ _, h | .obj _ _ _, h | .ref _, h | .fn _, h | .scr _, h | .kon _ _, h => by simp [repOk] at h
theorem showns_le : ∀ xs : List Val, repOks xs = true → ((PyData.shownAll (toPys xs)).map fun t => t.length + 2).sum ≤ repBs xs
  | [], _ => by simp [toPys, PyData.shownAll]
  | x :: xs, h => by
    simp only [repOks, Bool.and_eq_true] at h
    have h1 := shown_le x h.1
    have h2 := showns_le xs h.2
    simp only [toPys, PyData.shownAll, List.map_cons, List.sum_cons, repBs]
    omega
end
section
variable {X : Cx} {N : Nm} {T : Tab} {pins : List (Addr × Obj)} {σ : L2.St} {H : Hp} {s : Shared}
mutual
theorem reads_of (I : Inv X pins σ H s) : ∀ (d : Val) (v : V) (u : Value), DRep X.K H d v → RelV v u → ∃ as, Reads s.heap u (toPy d) as
  | .non, v, u, h, r => by simp only [DRep] at h; subst h; cases r; exact ⟨_, .none⟩
  | .bl b, v, u, h, r => by simp only [DRep] at h; subst h; cases r; exact ⟨_, .bool b⟩
  | .int i, v, u, h, r => by simp only [DRep] at h; subst h; obtain ⟨t, rfl⟩ := r; exact ⟨_, .int i t⟩
  | .str i, v, u, h, r => by simp only [DRep] at h; subst h; obtain ⟨t, rfl⟩ := r; exact ⟨_, .str _ t⟩
  | .lst xs, v, u, h, r => by
    simp only [DRep] at h
    obtain ⟨a, vs, rfl, q, hs⟩ := h
    obtain rfl := r
    obtain ⟨us, rv, pl, _⟩ := I.list q
    obtain ⟨o, k, e1, e2, _, e3⟩ := pl
    obtain ⟨as, ra⟩ := readss_of I xs vs us hs rv
    exact ⟨_, by simp only [toPy]; exact .list e1 e2 e3 ra⟩
  | .tup xs, v, u, h, r => by
    simp only [DRep] at h
    obtain ⟨a, vs, rfl, q, hs⟩ := h
    obtain rfl := r
    obtain ⟨us, rv, pt, _⟩ := I.tuple q
    obtain ⟨o, e1, e2, k, e3⟩ := pt
    obtain ⟨as, ra⟩ := readss_of I xs vs us hs rv
    exact ⟨_, by simp only [toPy]; exact .tuple e1 e2 e3 ra⟩
  | .dct _ _, _, _, h, _ => by simp [DRep] at h
  | .obj _ _ _, _, _, h, _ => by simp [DRep] at h
  | .ref _, _, _, h, _ => by simp [DRep] at h
  | .fn _, _, _, h, _ => by simp [DRep] at h
  | .scr _, _, _, h, _ => by simp [DRep] at h
  | .kon _ _, _, _, h, _ => by simp [DRep] at h
theorem readss_of (I : Inv X pins σ H s) : ∀ (xs : List Val) (vs : List V) (us : List Value), DReps X.K H xs vs → Vals vs us → ∃ as, ReadsAll s.heap us (toPys xs) as
  | [], vs, us, h, r => by simp only [DReps] at h; subst h; cases r; exact ⟨_, .nil⟩
  | x :: xs, vs, us, h, r => by
    simp only [DReps] at h
    obtain ⟨v, vs', rfl, h1, h2⟩ := h
    cases r with
    | cons r1 r2 =>
      obtain ⟨as, a1⟩ := reads_of I x v _ h1 r1
      obtain ⟨bs, a2⟩ := readss_of I xs vs' _ h2 r2
      exact ⟨_, by simp only [toPys]; exact .cons a1 a2⟩
end
theorem ofViewI {K : PySem.W.Frag} {ρ : List Addr} {L : Addr → Prop} {d : Val} {v : V} (hd : d.data = true) (h : ViewI K N ρ L H d v) : DRep K H d v := by
  refine DRep.ofView (N := N) (ρ := ρ) (L := L) hd ?_
  cases d with
  | obj c fs ws => simp [Val.data] at hd
  | _ => exact h
theorem bi_repr (hg : X.A.guards = some []) (hu : X.A.units + 700 < cLine) (hrep : ∀ d, T.rep d = repT d) : CallR X (.builtin "repr") (rBi X.K N T .repr) := by
  intro pins s σ H xs us Q I r h
  obtain ⟨P, ρ, st, ds, z, R, vw, hz, done, doneP⟩ := bi_start h
  replace hz : biRepr T ds = some z := hz
  unfold biRepr at hz
  split at hz
  · rename_i d
    split at hz
    · rename_i hc
      simp only [Bool.and_eq_true, decide_eq_true_eq] at hc
      obtain ⟨⟨hok, hb⟩, hdp⟩ := hc
      cases hz
      obtain ⟨v, _, rfl, q, rfl⟩ := vw
      obtain ⟨u, rfl, ru⟩ := vals1 r
      have fin : Q (.str (toPy d).shown) H := done (by simp only [Rep, hrep, repT, S_of])
      have hd := rep_data d hok
      have dr := ofViewI hd q
      obtain ⟨p1, p2, p3⟩ := py_show d hok
      have hz := shown_le d hok
      obtain ⟨as, rds⟩ := reads_of I d v u dr ru
      have hz2 : (toPy d).shown.length ≤ sizeLine := by rw [lineEq]; omega
      cases rds' : toPy d with
      | none =>
        rw [rds'] at rds fin
        cases rds
        exact PySem.P.repr_of_none ⟨.str _, H, I.tok _, ⟨_, rfl⟩, fin⟩
      | bool b =>
        rw [rds'] at rds fin
        cases rds
        exact PySem.P.repr_of_bool ⟨.str _, H, I.tok _, ⟨_, rfl⟩, fin⟩
      | int i =>
        rw [rds'] at rds fin p1
        cases rds
        exact PySem.P.repr_of_int (by simpa only [PyData.showable, decide_eq_true_eq] using p1) ⟨.str _, H, I.tok _, ⟨_, rfl⟩, fin⟩
      | str x =>
        rw [rds'] at rds fin hz2
        cases rds
        exact PySem.P.repr_of_str ⟨.str _, H, I.tok _, ⟨_, rfl⟩, fin⟩ hz2
      | list ys =>
        rw [rds'] at rds fin p1 p2 p3 hz2
        obtain ⟨a, rfl⟩ := isRef_of_reads rds rfl
        exact PySem.repr_of_reads' rds p1 (PyData.noDict_hsm p2) hg (by rw [p3]; omega) (fun _ _ e => e) (fun h' u tk hk => ⟨.str _, H, I.kept hk, ⟨_, rfl⟩, fin⟩) hz2
      | tuple ys =>
        rw [rds'] at rds fin p1 p2 p3 hz2
        obtain ⟨a, rfl⟩ := isRef_of_reads rds rfl
        exact PySem.repr_of_reads' rds p1 (PyData.noDict_hsm p2) hg (by rw [p3]; omega) (fun _ _ e => e) (fun h' u tk hk => ⟨.str _, H, I.kept hk, ⟨_, rfl⟩, fin⟩) hz2
      | dict kvs => rw [rds'] at p2; simp [PyData.hasDict] at p2
    · cases hz
  · cases hz
end
end Nlx
end
section
set_option Elab.async false
set_option linter.all false
set_option maxRecDepth 100000
set_option maxHeartbeats 4000000
/-! NlBm: methods of built-in kinds. -/
namespace Nlx
open PySem PySem.Spec PyProof.Rows L2 Nl

def rBm (K : PySem.W.Frag) (N : Nm) (b : Bm) : V → List V → Hp → VK → Prop := fun x vs H Q => ∃ (P : Addr → Prop) (ρ : List Addr) (st : Nl.Store) (d : Val) (ds : List Val), Rel K N P ρ st H ∧ Rep K N ρ (Lv P ρ st) H d x ∧ Reps K N ρ (Lv P ρ st) H ds vs ∧
  ∃ z st', bmV b d ds st = some (z, st') ∧ ∀ ρ' H', Step K N P ρ st H ρ' st' H' → ∀ v, Rep K N ρ' (Lv P ρ' st') H' z v → Q v H'
section
variable {K : PySem.W.Frag} {N : Nm} {P : Addr → Prop} {ρ : List Addr} {st : Nl.Store} {H : Hp} {d : Val} {x : V} {L : Addr → Prop}
theorem rep_ref {i : Nat} (h : Rep K N ρ L H (.ref i) x) : ∃ a, x = .ref a ∧ ρ[i]? = some a := by simpa only [Rep] using h
/-- a list of the store -/
theorem Rel.lstAt (R : Rel K N P ρ st H) {i : Nat} {ys : List Val} (h : Rep K N ρ L H (.ref i) x) (e : st[i]? = some (.lst ys)) : ∃ a vs, x = .ref a ∧ ρ[i]? = some a ∧ H a = some (.lst vs) ∧ Reps K N ρ (Lv P ρ st) H ys vs := by
  obtain ⟨a, rfl, q⟩ := rep_ref h
  obtain ⟨vs, h1, h2⟩ := R.ob i _ a e q
  exact ⟨a, vs, rfl, q, h1, h2⟩
/-- .. is written -/
theorem Rel.putLst (R : Rel K N P ρ st H) {i : Nat} {a : Addr} {ys zs : List Val} {ws : List V} (e : st[i]? = some (.lst ys)) (hr : ρ[i]? = some a) (hz : Reps K N ρ (Lv P ρ st) H zs ws) :
    Step K N P ρ st H ρ (st.set i (.lst zs)) (upd H a (.lst ws)) := by
  refine Step.write R e hr (by simp) ⟨ws, upd_same, ?_⟩
  exact Reps.grow R (Grow.write (b := .lst ys) e hr (by simp)) zs ws hz
end
theorem Step.repOf {K : PySem.W.Frag} {N : Nm} {P : Addr → Prop} {ρ ρ' : List Addr} {st st' : Nl.Store} {H H' : Hp} {d : Val} {x : V} (R : Rel K N P ρ st H) (g : Step K N P ρ st H ρ' st' H') (h : Rep K N ρ (Lv P ρ st) H d x) : Rep K N ρ' (Lv P ρ' st') H' d x :=
  Rep.grow R g.grow d x h
theorem joinS_eq (s : List Nat) : ∀ ts : List (List Nat), joinS s ts = TL.joinL s ts
  | [] => rfl
  | [_] => rfl
  | x :: y :: r => by
    show x ++ s ++ joinS s (y :: r) = x ++ (s ++ TL.joinL s (y :: r))
    rw [joinS_eq s (y :: r), List.append_assoc]
theorem splitC_ne (c : Nat) (s : List Nat) : splitC c s ≠ [] := by
  cases s with
  | nil => simp [splitC]
  | cons d r =>
    unfold splitC
    split
    · simp
    · split <;> simp
theorem splitC_free (c : Nat) : ∀ (s : List Nat) (p : List Nat), p ∈ splitC c s → c ∉ p
  | [], p, h => by simp [splitC] at h; subst h; simp
  | d :: r, p, h => by
    have ih := splitC_free c r
    unfold splitC at h
    split at h
    · rcases List.mem_cons.mp h with e | h
      · subst e; simp
      · exact ih p h
    · rename_i hd
      cases hs : splitC c r with
      | nil => exact absurd hs (splitC_ne c r)
      | cons q rs =>
        rw [hs] at h ih
        rcases List.mem_cons.mp h with e | h
        · subst e
          simp only [List.mem_cons, not_or]
          exact ⟨fun q => hd q.symm, ih q (List.mem_cons_self ..)⟩
        · exact ih p (List.mem_cons_of_mem _ h)
theorem splitC_join (c : Nat) : ∀ s : List Nat, TL.joinL [c] (splitC c s) = s
  | [] => rfl
  | d :: r => by
    have ih := splitC_join c r
    unfold splitC
    cases hs : splitC c r with
    | nil => exact absurd hs (splitC_ne c r)
    | cons q rs =>
      rw [hs] at ih
      split
      · rename_i hd
        subst hd
        show [] ++ ([d] ++ TL.joinL [d] (q :: rs)) = _
        rw [ih]; rfl
      · cases rs with
        | nil => show d :: q = d :: r; rw [show q = r from ih]
        | cons z t => show d :: (q ++ ([c] ++ TL.joinL [c] (z :: t))) = d :: r; rw [show q ++ ([c] ++ TL.joinL [c] (z :: t)) = r from ih]
theorem split_eq (c : Nat) (hc : c < 256) (s : List Nat) : Txt.split (S s) (S [c]) = (splitC c s).map S := by
  have e : S s = Txt.join (S [c]) ((splitC c s).map S) := by
    rw [SX.join_S (a := [c]) (ys := splitC c s) |> fun h => (show Txt.join (S [c]) ((splitC c s).map S) = S (TL.joinL [c] (splitC c s)) from h), splitC_join]
  rw [e]
  refine TL.split_join (s := c) (S := []) rfl (by simp [S, hc]) (by simpa using splitC_ne c s) fun p hp => ?_
  obtain ⟨q, hq, rfl⟩ := List.mem_map.mp hp
  exact fun m => splitC_free c s q hq (by simpa [TL.tl, S] using m)
theorem partC_spec (c : Nat) : ∀ s : List Nat, (c ∉ s ∧ partC c s = (s, [], [])) ∨ (∃ a b, c ∉ a ∧ s = a ++ c :: b ∧ partC c s = (a, [c], b))
  | [] => .inl ⟨by simp, rfl⟩
  | d :: r => by
    unfold partC
    split
    · rename_i hd
      subst hd
      exact .inr ⟨[], r, by simp, rfl, rfl⟩
    · rename_i hd
      rcases partC_spec c r with ⟨h1, h2⟩ | ⟨a, b, h1, h2, h3⟩
      · refine .inl ⟨by simp only [List.mem_cons, not_or]; exact ⟨fun q => hd q.symm, h1⟩, by rw [h2]⟩
      · exact .inr ⟨d :: a, b, by simp only [List.mem_cons, not_or]; exact ⟨fun q => hd q.symm, h1⟩, by rw [h2]; rfl, by rw [h3]⟩
theorem part_eq (c : Nat) (s : List Nat) : Txt.partition (S s) (S [c]) = (S (partC c s).1, S (partC c s).2.1, S (partC c s).2.2) := by
  rcases partC_spec c s with ⟨h1, h2⟩ | ⟨a, b, h1, h2, h3⟩
  · rw [h2]
    exact TL.partition_none (y := S [c]) (s := c) (S := []) rfl (a := S s) (by simpa [TL.tl, S] using h1)
  · rw [h3, h2]
    have e : S (a ++ c :: b) = S a ++ S [c] ++ S b := by rw [S_app, S_app]; simp
    rw [e]
    exact TL.partition_app (y := S [c]) (s := c) (S := []) rfl (a := S a) (b := S b) (by simpa [TL.tl, S] using h1)
section
variable {X : Cx} {N : Nm}

/-- the common beginning -/
theorem bm_start {b : Bm} {x : V} {vs : List V} {H : Hp} {Q : VK} (h : rBm X.K N b x vs H Q) : ∃ (P : Addr → Prop) (ρ : List Addr) (st : Nl.Store) (d : Val) (ds : List Val) (z : Val) (st' : Nl.Store), Rel X.K N P ρ st H ∧ Rep X.K N ρ (Lv P ρ st) H d x ∧ Reps X.K N ρ (Lv P ρ st) H ds vs ∧
    bmV b d ds st = some (z, st') ∧ (∀ {ρ' H'} {v}, Step X.K N P ρ st H ρ' st' H' → Rep X.K N ρ (Lv P ρ st) H z v → Rep X.K N ρ' (Lv P ρ' st') H' z v → Q v H') ∧
    (st' = st → ∀ {w}, Rep X.K N ρ (Lv P ρ st) H z w → Q w H) ∧ (st' = st → ∀ {p : Addr} {o : HO} {w}, H p = none → Rep X.K N ρ (Lv P ρ st) (upd H p o) z w → Q w (upd H p o)) := by
  obtain ⟨P, ρ, st, d, ds, R, r1, r2, z, st', hz, k⟩ := h
  refine ⟨P, ρ, st, d, ds, z, st', R, r1, r2, hz, fun g _ h => k _ _ g _ h, fun e w hw => ?_, fun e p o w hp hw => ?_⟩
  · subst e; exact k _ _ (.refl R) _ hw
  · subst e; exact k _ _ (.laid R hp) _ hw
theorem reps1 {K : PySem.W.Frag} {ρ : List Addr} {L : Addr → Prop} {H : Hp} {d : Val} {vs : List V} (h : Reps K N ρ L H [d] vs) : ∃ v, vs = [v] ∧ Rep K N ρ L H d v := by
  simp only [Reps] at h
  obtain ⟨v, _, rfl, h1, rfl⟩ := h
  exact ⟨v, rfl, h1⟩
theorem reps2 {K : PySem.W.Frag} {ρ : List Addr} {L : Addr → Prop} {H : Hp} {d e : Val} {vs : List V} (h : Reps K N ρ L H [d, e] vs) : ∃ v w, vs = [v, w] ∧ Rep K N ρ L H d v ∧ Rep K N ρ L H e w := by
  simp only [Reps] at h
  obtain ⟨v, _, rfl, h1, w, _, rfl, h2, rfl⟩ := h
  exact ⟨v, w, rfl, h1, h2⟩
theorem bm_append : MtR X "list.append" (rBm X.K N .append) := by
  intro pins s σ H x xs v us Q I rx rs h
  obtain ⟨P, ρ, st, d, ds, z, st', R, r1, r2, hz, put, done, doneP⟩ := bm_start h
  replace hz : bmAppend st d ds = some (z, st') := hz
  unfold bmAppend at hz
  split at hz
  · split at hz
    · split at hz
      · rename_i i y _ ys e hl
        cases hz
        obtain ⟨a, vs, rfl, hr, ha, ra⟩ := R.lstAt r1 e
        obtain ⟨w, rfl, rw1⟩ := reps1 r2
        have g := R.putLst e hr (ra.app (.cons rw1 .nil))
        exact mt_append pins s σ H _ _ v us Q I rx rs ⟨a, vs, w, rfl, rfl, ha, by rw [← ra.length, lineEq]; exact hl, put g (by simp only [Rep]) (by simp only [Rep])⟩
      · cases hz
    · cases hz
  · cases hz
theorem bm_extend : MtR X "list.extend" (rBm X.K N .extend) := by
  intro pins s σ H x xs v us Q I rx rs h
  obtain ⟨P, ρ, st, d, ds, z, st', R, r1, r2, hz, put, done, doneP⟩ := bm_start h
  replace hz : bmExtend st d ds = some (z, st') := hz
  unfold bmExtend at hz
  split at hz
  · split at hz
    · split at hz
      · split at hz
        · rename_i i y _ ys e _ zs e2 hl
          cases hz
          obtain ⟨a, vs, rfl, hr, ha, ra⟩ := R.lstAt r1 e
          obtain ⟨w, rfl, rw1⟩ := reps1 r2
          have vw := view R rw1
          rw [e2] at vw
          obtain ⟨b, ws, rfl, hb, rb⟩ := vw
          have g := R.putLst e hr (ra.app rb)
          exact mt_extend pins s σ H _ _ v us Q I rx rs ⟨a, b, vs, ws, rfl, rfl, ha, hb, by rw [← ra.length, ← rb.length, lineEq]; exact hl, put g (by simp only [Rep]) (by simp only [Rep])⟩
        · cases hz
      · cases hz
    · cases hz
  · cases hz
theorem Reps.dropL {K : PySem.W.Frag} {ρ : List Addr} {L : Addr → Prop} {H : Hp} {xs : List Val} {vs : List V} (h : Reps K N ρ L H xs vs) : Reps K N ρ L H xs.dropLast vs.dropLast := by
  rw [List.dropLast_eq_take, List.dropLast_eq_take, h.length]
  exact h.take _
theorem bm_pop : MtR X "list.pop" (rBm X.K N .pop) := by
  intro pins s σ H x xs v us Q I rx rs h
  obtain ⟨P, ρ, st, d, ds, z, st', R, r1, r2, hz, put, done, doneP⟩ := bm_start h
  replace hz : bmPop st d ds = some (z, st') := hz
  unfold bmPop at hz
  split at hz
  · split at hz
    · rename_i i _ ys e
      obtain ⟨a, vs, rfl, hr, ha, ra⟩ := R.lstAt r1 e
      cases hy : ys[ys.length - 1]? with
      | none => rw [hy] at hz; cases hz
      | some y =>
        rw [hy] at hz
        cases hz
        obtain ⟨w, ew, rw1⟩ := ra.get hy
        simp only [Reps] at r2
        subst r2
        have g := R.putLst e hr ra.dropL
        exact mt_pop pins s σ H _ _ v us Q I rx rs ⟨a, vs, w, rfl, rfl, ha, by rw [← ra.length]; exact ew, put g rw1 (Step.repOf R g rw1)⟩
    · cases hz
  · cases hz
theorem Reps.erase {K : PySem.W.Frag} {ρ : List Addr} {L : Addr → Prop} {H : Hp} {xs : List Val} {vs : List V} (k : Nat) (h : Reps K N ρ L H xs vs) : Reps K N ρ L H (xs.eraseIdx k) (vs.eraseIdx k) := by
  rw [List.eraseIdx_eq_take_drop_succ, List.eraseIdx_eq_take_drop_succ]
  exact (h.take _).app (h.drop _)
theorem seqIx_of {n : Nat} {i : Int} {k : Nat} (h : ixOf n i = some k) : seqIndex? i n = some k := by
  unfold ixOf at h
  unfold seqIndex?
  split at h
  · split at h
    · cases h
      simp only [show ¬ i < 0 from by omega, if_false]
      simp only [show i < n from by omega, show 0 ≤ i from by omega, and_self, if_true]
      try simp
      try omega
    · cases h
  · split at h
    · cases h
      simp only [show i < 0 from by omega, if_true]
      simp only [show i + n < n from by omega, show 0 ≤ i + n from by omega, and_self, if_true]
      try simp
      try omega
    · cases h
theorem bm_popAt : MtR X "list.pop" (rBm X.K N .popAt) := by
  intro pins s σ H x xs v us Q I rx rs h
  obtain ⟨P, ρ, st, d, ds, z, st', R, r1, r2, hz, put, done, doneP⟩ := bm_start h
  replace hz : bmPopAt st d ds = some (z, st') := hz
  unfold bmPopAt at hz
  split at hz
  · split at hz
    · split at hz
      · rename_i i k0 _ ys e hl
        obtain ⟨a, vs, rfl, hr, ha, ra⟩ := R.lstAt r1 e
        cases hk : ixOf ys.length k0 with
        | none => rw [hk] at hz; cases hz
        | some k =>
          rw [hk] at hz
          cases hy : ys[k]? with
          | none => rw [show (some k).bind (fun k => (ys[k]?).map fun y => (y, st.set i (Ob.lst (ys.eraseIdx k)))) = (ys[k]?).map fun y => (y, st.set i (Ob.lst (ys.eraseIdx k))) from rfl, hy] at hz; cases hz
          | some y =>
            rw [show (some k).bind (fun k => (ys[k]?).map fun y => (y, st.set i (Ob.lst (ys.eraseIdx k)))) = (ys[k]?).map fun y => (y, st.set i (Ob.lst (ys.eraseIdx k))) from rfl, hy] at hz
            cases hz
            obtain ⟨w, ew, rw1⟩ := ra.get hy
            obtain ⟨w2, rfl, rw2⟩ := reps1 r2
            simp only [Rep] at rw2
            subst rw2
            have g := R.putLst e hr (ra.erase k)
            have hlt : -(2 ^ 63) ≤ k0 ∧ k0 < 2 ^ 63 ∧ seqIndex? k0 ys.length = some k := by
              have hz := seqIx_of hk
              unfold ixOf at hk
              have : line = 16777216 := rfl
              split at hk
              · split at hk
                · exact ⟨by omega, by omega, hz⟩
                · cases hk
              · split at hk
                · exact ⟨by omega, by omega, hz⟩
                · cases hk
            exact mt_popAt pins s σ H _ _ v us Q I rx rs ⟨a, vs, k0, k, w, rfl, rfl, ha, hlt.1, hlt.2.1, by rw [← ra.length]; exact hlt.2.2, ew, put g rw1 (Step.repOf R g rw1)⟩
      · cases hz
    · cases hz
  · cases hz
theorem sum_S (ts : List (List Nat)) : ((ts.map S).map (·.length)).sum = (ts.map List.length).sum := by
  rw [List.map_map]
  congr 1
theorem join_eqS (s : List Nat) (ts : List (List Nat)) : Txt.join (S s) (ts.map S) = S (joinS s ts) := by
  rw [joinS_eq]
  exact SX.join_S s ts
theorem bm_join : MtR X "str.join" (rBm X.K N .join) := by
  intro pins s σ H x xs v us Q I rx rs h
  obtain ⟨P, ρ, st, d, ds, z, st', R, r1, r2, hz, put, done, doneP⟩ := bm_start h
  replace hz : bmJoin st d ds = some (z, st') := hz
  unfold bmJoin at hz
  split at hz
  · rename_i a0 y
    obtain ⟨w, rfl, rw1⟩ := reps1 r2
    simp only [Rep] at r1
    subst r1
    have vw := view R rw1
    have key : ∀ {ts : List (List Nat)} {ws : List V} {b : Addr}, w = .ref b → (SqL X.K H b ((ts.map S).map V.str) ∨ SqT X.K H b ((ts.map S).map V.str)) →
        (if (ts.map List.length).sum + ts.length * a0.length ≤ line then some (Val.str (joinS a0 ts), st) else none) = some (z, st') → wpAny (model X.prog X.w) X.A (call (.builtin "str.join") (v :: us)) (EP X pins σ Q) X.xe s := fun {ts ws b} ew hb hz => by
      split at hz
      · rename_i hl
        cases hz
        subst ew
        exact mt_join pins s σ H _ _ v us Q I rx rs ⟨S a0, b, ts.map S, rfl, rfl, hb, by rw [sum_S, List.length_map, S_len]; exact hl, by rw [join_eqS]; exact done rfl (by simp only [Rep])⟩
      · cases hz
    split at hz
    · rename_i ys e
      rw [e] at vw
      obtain ⟨b, ws, ew, hb, rb⟩ := vw
      cases hs : Nl.strL ys with
      | none => rw [hs] at hz; cases hz
      | some ts =>
        rw [hs] at hz
        have := reps_strs hs rb
        subst this
        exact key (ws := []) ew (.inl (.of hb)) hz
    · rename_i ys e
      rw [e] at vw
      simp only [View, Rep] at vw
      obtain ⟨b, ws, ew, hb, rb⟩ := vw
      cases hs : Nl.strL ys with
      | none => rw [hs] at hz; cases hz
      | some ts =>
        rw [hs] at hz
        have := reps_strs hs rb
        subst this
        exact key (ws := []) ew (.inr hb) hz
    · cases hz
  · cases hz
theorem bm_split : MtR X "str.split" (rBm X.K N .split) := by
  intro pins s σ H x xs v us Q I rx rs h
  obtain ⟨P, ρ, st, d, ds, z, st', R, r1, r2, hz, put, done, doneP⟩ := bm_start h
  replace hz : bmSplit st d ds = some (z, st') := hz
  unfold bmSplit at hz
  split at hz
  · split at hz
    · rename_i a0 c hl
      cases hz
      obtain ⟨w, rfl, rw1⟩ := reps1 r2
      simp only [Rep] at r1 rw1
      subst r1 rw1
      refine mt_split pins s σ H _ _ v us Q I rx rs ⟨S a0, S [c], rfl, rfl, by simp [S_len], by rw [S_len, lineEq]; exact hl.1, ?_⟩
      rw [split_eq c hl.2]
      intro p hp
      exact doneP rfl hp (rep_newLst R hp (strs_reps _))
    · cases hz
  · cases hz
theorem bm_part : MtR X "str.partition" (rBm X.K N .part) := by
  intro pins s σ H x xs v us Q I rx rs h
  obtain ⟨P, ρ, st, d, ds, z, st', R, r1, r2, hz, put, done, doneP⟩ := bm_start h
  replace hz : bmPart st d ds = some (z, st') := hz
  unfold bmPart at hz
  split at hz
  · split at hz
    · rename_i a0 c hl
      cases hz
      obtain ⟨w, rfl, rw1⟩ := reps1 r2
      simp only [Rep] at r1 rw1
      subst r1 rw1
      refine mt_partition pins s σ H _ _ v us Q I rx rs ⟨S a0, S [c], rfl, rfl, by simp [S_len], by rw [S_len, lineEq]; exact hl, ?_⟩
      rw [part_eq]
      intro p hp
      exact doneP rfl hp (rep_newTup R hp (.cons (by simp only [Rep]) (.cons (by simp only [Rep]) (.cons (by simp only [Rep]) .nil))))
    · cases hz
  · cases hz
theorem bm_get (hu : X.A.units + 150 < cLine) : MtR X "dict.get" (rBm X.K N .get) := by
  intro pins s σ H x xs v us Q I rx rs h
  obtain ⟨P, ρ, st, d, ds, z, st', R, r1, r2, hz, put, done, doneP⟩ := bm_start h
  replace hz : bmGet st d ds = some (z, st') := hz
  unfold bmGet at hz
  split at hz
  · rename_i k0 d0
    obtain ⟨w, w2, rfl, rw1, rw2⟩ := reps2 r2
    have vw := view R r1
    split at hz
    · rename_i ks ws e
      rw [e] at vw
      split at hz
      · rename_i hc
        simp only [Bool.and_eq_true] at hc
        cases hz
        obtain ⟨p, kvs, rfl, q, hk, r⟩ := vw
        obtain rfl := rx
        obtain ⟨u1, u2, rfl, ru1, ru2⟩ := vals2 rs
        obtain ⟨g1, _⟩ := dictIs (x := w) hc.1 (view R rw1 |> fun t => by
          cases k0 <;> first | exact t | simp [inV.keyV] at hc) q hk
        refine d_get2 (by omega) I g1 ru1 ru2 fun w' s' I' rw' => ⟨_, H, I', rw', done rfl ?_⟩
        cases hj : keyIx k0 ks with
        | none => exact rw2
        | some j =>
          have hlt := keyIx_lt hj
          have hl : ks.length = kvs.length := by simpa using congrArg List.length hk
          have hlen := r.length
          have e1 : ws[j]? = some (ws[j]'(by simp at hlen; omega)) := List.getElem?_eq_getElem _
          obtain ⟨y, ey, ry⟩ := r.get (i := j) e1
          show Rep X.K N ρ (Lv P ρ st) H ((ws[j]?).getD d0) (((kvs.map (·.2))[j]?).getD w2)
          rw [e1, ey]
          exact ry
      · cases hz
    · cases hz
  · cases hz
end
end Nlx
end
section
set_option Elab.async false
set_option linter.all false
set_option maxRecDepth 100000
set_option maxHeartbeats 4000000
/-! NlEx: the readings of the core language. -/
namespace Nlx
open PySem PySem.Spec PyProof.Rows L2 Nl

/-! ### fewer places that may change -/
section
variable {K : PySem.W.Frag} {N : Nm} {ρ ρ' : List Addr} {L L' : Addr → Prop} {H H' : Hp} {P P' : Addr → Prop} {st st' : Nl.Store}
mutual
theorem Rep.less (h : ∀ a, L a → L' a) : ∀ (d : Val) (v : V), Rep K N ρ L' H d v → Rep K N ρ L H d v
  | .non, v, q => by simpa only [Rep] using q
  | .bl b, v, q => by simpa only [Rep] using q
  | .int i, v, q => by simpa only [Rep] using q
  | .str s, v, q => by simpa only [Rep] using q
  | .fn f, v, q => by simpa only [Rep] using q
  | .ref i, v, q => by simpa only [Rep] using q
  | .tup xs, v, q => by
    simp only [Rep] at q ⊢
    obtain ⟨a, vs, e, q, r⟩ := q
    exact ⟨a, vs, e, q, Reps.less h xs vs r⟩
  | .lst xs, v, q => by
    simp only [Rep] at q ⊢
    obtain ⟨a, vs, e, q, r⟩ := q
    exact ⟨a, vs, e, ⟨q.1, fun z => q.2 (h a z)⟩, Reps.less h xs vs r⟩
  | .dct ks ws, v, q => by
    simp only [Rep] at q ⊢
    obtain ⟨a, kvs, e, q, e2, r⟩ := q
    exact ⟨a, kvs, e, ⟨q.1, fun z => q.2 (h a z)⟩, e2, Reps.less h ws _ r⟩
  | .obj c fs ws, v, q => by
    simp only [Rep] at q ⊢
    obtain ⟨a, dx, fvs, e, q, e2, r⟩ := q
    exact ⟨a, dx, fvs, e, ⟨q.1, fun z => q.2 (h a z)⟩, e2, Reps.less h ws _ r⟩
  | .scr ns, v, q => by
    simp only [Rep] at q ⊢
    obtain ⟨a, e, q⟩ := q
    exact ⟨a, e, q.imp_left fun q => ⟨q.1, fun z => q.2 (h a z)⟩⟩
  | .kon ks ws, v, q => by
    simp only [Rep] at q ⊢
    obtain ⟨a, es, n, vs, e, q, r, z⟩ := q
    exact ⟨a, es, n, vs, e, q, Reps.less h ws vs r, z⟩
theorem Reps.less (h : ∀ a, L a → L' a) : ∀ (xs : List Val) (vs : List V), Reps K N ρ L' H xs vs → Reps K N ρ L H xs vs
  | [], vs, q => by simpa only [Reps] using q
  | x :: xs, vs, q => by
    simp only [Reps] at q ⊢
    obtain ⟨v, r, e, h1, h2⟩ := q
    exact ⟨v, r, e, Rep.less h x v h1, Reps.less h xs r h2⟩
end
theorem ObRep.less (h : ∀ a, L a → L' a) {o : Ob} {a : Addr} (q : ObRep K N ρ L' H o a) : ObRep K N ρ L H o a := by
  cases o with
  | lst xs => obtain ⟨vs, e, r⟩ := q; exact ⟨vs, e, r.less h xs vs⟩
  | dct ks ws => obtain ⟨kvs, e, e2, r⟩ := q; exact ⟨kvs, e, e2, r.less h ws _⟩
  | ins c fs ws => obtain ⟨dx, fvs, e, e2, r⟩ := q; exact ⟨dx, fvs, e, e2, r.less h ws _⟩
  | gone => trivial
theorem lv_less (h : ∀ a, P a → P' a) : ∀ a, Lv P ρ st a → Lv P' ρ st a := fun a q => q.imp_left (h a)
theorem Rel.less (h : ∀ a, P a → P' a) (R : Rel K N P' ρ st H) : Rel K N P ρ st H :=
  ⟨R.len, R.nd, R.trk, fun a q => R.fo a (h a q), fun i o a e1 e2 => (R.ob i o a e1 e2).less (lv_less h)⟩
theorem Step.less (h : ∀ a, P a → P' a) (g : Step K N P' ρ st H ρ' st' H') : Step K N P ρ st H ρ' st' H' := ⟨g.rel.less h, g.grow⟩
/-- one object more that is not ours -/
theorem Rel.more (R : Rel K N P ρ st H) {D : Addr} {o : HO} (hD : H D = some o) (hn : D ∉ ρ) (hr : ∀ (i : Nat) (b : Ob) (a : Addr), st[i]? = some b → ρ[i]? = some a → ObRep K N ρ (Lv (fun x => P x ∨ x = D) ρ st) H b a) : Rel K N (fun x => P x ∨ x = D) ρ st H :=
  ⟨R.len, R.nd, R.trk, fun a q => q.elim (R.fo a) fun e => e ▸ ⟨⟨o, hD⟩, hn⟩, hr⟩
end
section
variable {K : PySem.W.Frag} {N : Nm} {P P' : Addr → Prop} {α β : Type} {ρ ρ' ρ1 : List Addr} {st st' st1 : Nl.Store} {H H' H1 : Hp} {r : Res α} {Q Q' : α → List Addr → Nl.Store → Hp → Prop} {X X' : Nat → Addr → Hp → Prop}
theorem Post.more (h : ∀ a, P a → P' a) (p : Post K N P ρ st H r Q X) : Post K N P' ρ st H r Q X := by
  cases r with
  | ok a s => exact fun ρ' H' g => p ρ' H' (g.less h)
  | exc c m s => exact fun ρ' H' t g e => p ρ' H' t (g.less h) e
  | stuck => exact p
theorem Post.calm (p : Post K N P ρ st H r.calm Q X) : Post K N P ρ st H r Q X' := by
  cases r with
  | ok a s => exact p
  | exc c m s => exact p.elim
  | stuck => exact p
/-- the wish of exceptions weakened -/
theorem Post.exw (h : ∀ c t H', X c t H' → X' c t H') (p : Post K N P ρ st H r Q X) : Post K N P ρ st H r Q X' := by
  cases r with
  | ok a s => exact p
  | exc c m s => exact fun ρ' H' t g e => h _ _ _ (p ρ' H' t g e)
  | stuck => exact p
end
/-! ### names -/
/-- the places of names hold what the environment tells -/
def EnvRep (K : PySem.W.Frag) (N : Nm) (ρ : List Addr) (L : Addr → Prop) (H : Hp) (env : Nl.Env) (σ : L2.St) : Prop :=
  σ.length = env.length ∧ ∀ (i : Nat) (d : Val), env[i]? = some (some d) → ∃ w, σ[i]? = some (some w) ∧ Rep K N ρ L H d w
section
variable {K : PySem.W.Frag} {N : Nm} {P P' : Addr → Prop} {ρ ρ' : List Addr} {st st' : Nl.Store} {H H' : Hp} {L L' : Addr → Prop} {env : Nl.Env} {σ : L2.St}
theorem EnvRep.step (R : Rel K N P ρ st H) (g : Step K N P ρ st H ρ' st' H') (e : EnvRep K N ρ (Lv P ρ st) H env σ) : EnvRep K N ρ' (Lv P ρ' st') H' env σ :=
  ⟨e.1, fun i d h => let ⟨w, h1, h2⟩ := e.2 i d h; ⟨w, h1, h2.grow R g.grow d w⟩⟩
theorem EnvRep.less (h : ∀ a, L a → L' a) (e : EnvRep K N ρ L' H env σ) : EnvRep K N ρ L H env σ := ⟨e.1, fun i d q => let ⟨w, h1, h2⟩ := e.2 i d q; ⟨w, h1, h2.less h d w⟩⟩
theorem EnvRep.put {d : Val} {w : V} (e : EnvRep K N ρ L H env σ) (i : Nat) (h : Rep K N ρ L H d w) : EnvRep K N ρ L H (env.set i (some d)) (σ.set i (some w)) := by
  refine ⟨by simp [e.1], fun j d' q => ?_⟩
  by_cases hj : i = j
  · subst hj
    have hl : i < env.length := by
      rcases Nat.lt_or_ge i env.length with z | z
      · exact z
      · rw [List.getElem?_eq_none (by simpa using z)] at q; cases q
    rw [List.getElem?_set_self hl] at q
    cases q
    exact ⟨w, List.getElem?_set_self (by rw [e.1]; exact hl), h⟩
  · rw [List.getElem?_set_ne hj] at q
    obtain ⟨w', h1, h2⟩ := e.2 j d' q
    exact ⟨w', by rw [List.getElem?_set_ne hj]; exact h1, h2⟩
theorem EnvRep.forget (e : EnvRep K N ρ L H env σ) (i : Nat) : EnvRep K N ρ L H (env.set i none) (σ.set i none) := by
  refine ⟨by simp [e.1], fun j d' q => ?_⟩
  by_cases hj : i = j
  · subst hj
    rw [List.getElem?_set] at q
    simp at q
  · rw [List.getElem?_set_ne hj] at q
    obtain ⟨w', h1, h2⟩ := e.2 j d' q
    exact ⟨w', by rw [List.getElem?_set_ne hj]; exact h1, h2⟩
end
/-! ### readings -/
abbrev CallS := Nat → List Val → Nl.Store → Res Val
/-- the wish of exceptions, by the class's number -/
def exW (N : Nm) (W : WX) (σ : L2.St) : Nat → Addr → Hp → Prop := fun c t H => W (.ref (N.xa c)) (some t) σ H
def toQ (K : PySem.W.Frag) (N : Nm) (P : Addr → Prop) (Q : VK) : Val → List Addr → Nl.Store → Hp → Prop := fun v ρ st H => ∀ w, Rep K N ρ (Lv P ρ st) H v w → Q w H
section
variable (K : PySem.W.Frag) (N : Nm) (W : WX)
/-- from any computation -/
def tR (f : Nl.Env → Nl.Store → Res Val) : TE := fun σ H Q => ∃ (P : Addr → Prop) (ρ : List Addr) (st : Nl.Store) (env : Nl.Env), Rel K N P ρ st H ∧ EnvRep K N ρ (Lv P ρ st) H env σ ∧ Post K N P ρ st H (f env st) (toQ K N P Q) (exW N W σ)
def tRs (f : Nl.Env → Nl.Store → Res (List Val)) : TA := fun σ H Q => ∃ (P : Addr → Prop) (ρ : List Addr) (st : Nl.Store) (env : Nl.Env), Rel K N P ρ st H ∧ EnvRep K N ρ (Lv P ρ st) H env σ ∧
  Post K N P ρ st H (f env st) (fun vs ρ' st' H' => ∀ ws, Reps K N ρ' (Lv P ρ' st') H' vs ws → Q ws H') (exW N W σ)
def tRb (f : Nl.Env → Nl.Store → Res Bool) : TT := fun σ H Q => ∃ (P : Addr → Prop) (ρ : List Addr) (st : Nl.Store) (env : Nl.Env), Rel K N P ρ st H ∧ EnvRep K N ρ (Lv P ρ st) H env σ ∧ Post K N P ρ st H (f env st) (fun b _ _ H' => Q b H') (exW N W σ)
end
section
variable {K : PySem.W.Frag} {N : Nm} {W : WX} {P : Addr → Prop} {ρ : List Addr} {st : Nl.Store} {H : Hp} {env : Nl.Env} {σ : L2.St} {β : Type}
/-- one part, then the rest -/
theorem tR_bind {g : Nl.Env → Nl.Store → Res Val} {f : Val → Nl.Store → Res β} {Q' : β → List Addr → Nl.Store → Hp → Prop} {Q : VK} (R : Rel K N P ρ st H) (E : EnvRep K N ρ (Lv P ρ st) H env σ) (h : Post K N P ρ st H ((g env st).bind f) Q' (exW N W σ))
    (k : ∀ v ρ' st' H' w, Step K N P ρ st H ρ' st' H' → Rel K N P ρ' st' H' → EnvRep K N ρ' (Lv P ρ' st') H' env σ → Rep K N ρ' (Lv P ρ' st') H' v w → Post K N P ρ' st' H' (f v st') Q' (exW N W σ) → Q w H') : tR K N W g σ H Q :=
  ⟨P, ρ, st, env, R, E, h.bind.mono fun v ρ' st' H' _ g hp w hw => k v ρ' st' H' w g g.rel (E.step R g) hw hp⟩
theorem tRs_bind {g : Nl.Env → Nl.Store → Res (List Val)} {f : List Val → Nl.Store → Res β} {Q' : β → List Addr → Nl.Store → Hp → Prop} {Q : List V → Hp → Prop} (R : Rel K N P ρ st H) (E : EnvRep K N ρ (Lv P ρ st) H env σ) (h : Post K N P ρ st H ((g env st).bind f) Q' (exW N W σ))
    (k : ∀ v ρ' st' H' w, Step K N P ρ st H ρ' st' H' → Rel K N P ρ' st' H' → EnvRep K N ρ' (Lv P ρ' st') H' env σ → Reps K N ρ' (Lv P ρ' st') H' v w → Post K N P ρ' st' H' (f v st') Q' (exW N W σ) → Q w H') : tRs K N W g σ H Q :=
  ⟨P, ρ, st, env, R, E, h.bind.mono fun v ρ' st' H' _ g hp w hw => k v ρ' st' H' w g g.rel (E.step R g) hw hp⟩
theorem tRb_bind {g : Nl.Env → Nl.Store → Res Bool} {f : Bool → Nl.Store → Res β} {Q' : β → List Addr → Nl.Store → Hp → Prop} {Q : Bool → Hp → Prop} (R : Rel K N P ρ st H) (E : EnvRep K N ρ (Lv P ρ st) H env σ) (h : Post K N P ρ st H ((g env st).bind f) Q' (exW N W σ))
    (k : ∀ v ρ' st' H', Step K N P ρ st H ρ' st' H' → Rel K N P ρ' st' H' → EnvRep K N ρ' (Lv P ρ' st') H' env σ → Post K N P ρ' st' H' (f v st') Q' (exW N W σ) → Q v H') : tRb K N W g σ H Q :=
  ⟨P, ρ, st, env, R, E, h.bind.mono fun v ρ' st' H' _ g hp => k v ρ' st' H' g g.rel (E.step R g) hp⟩
/-- the last part -/
theorem tR_last {g : Nl.Env → Nl.Store → Res Val} {Q : VK} (R : Rel K N P ρ st H) (E : EnvRep K N ρ (Lv P ρ st) H env σ) (h : Post K N P ρ st H (g env st) (toQ K N P Q) (exW N W σ)) : tR K N W g σ H Q := ⟨P, ρ, st, env, R, E, h⟩
/-- a value that is there -/
theorem Post.okv {d : Val} {Q : VK} {X : Nat → Addr → Hp → Prop} (R : Rel K N P ρ st H) (h : Post K N P ρ st H (.ok d st) (toQ K N P Q) X) {w : V} (hw : Rep K N ρ (Lv P ρ st) H d w) : Q w H := h ρ H (.refl R) w hw
theorem Post.optv {o : Option Val} {Q : VK} {X : Nat → Addr → Hp → Prop} (h : Post K N P ρ st H (Res.opt o st) (toQ K N P Q) X) : ∃ z, o = some z ∧ ∀ ρ' H', Step K N P ρ st H ρ' st H' → ∀ w, Rep K N ρ' (Lv P ρ' st) H' z w → Q w H' := Post.opt h
end
theorem _root_.L2.PE.imp {X : Cx} {e : Expr} {t t' : TE} (h : PE X e t) (k : ∀ σ H Q, t' σ H Q → t σ H Q) : PE X e t' := ⟨fun pins s σ H Q I q => h.run pins s σ H Q I (k σ H Q q)⟩
theorem _root_.L2.PT.imp {X : Cx} {e : Expr} {t t' : TT} (h : PT X e t) (k : ∀ σ H Q, t' σ H Q → t σ H Q) : PT X e t' := ⟨fun pins s σ H Q I q => h.run pins s σ H Q I (k σ H Q q)⟩
theorem _root_.L2.PW.imp {X : Cx} {e : Expr} {t t' : TT} (h : PW X e t) (k : ∀ σ H Q, t' σ H Q → t σ H Q) : PW X e t' := ⟨fun whole pins s σ H Q I q => h.run whole pins s σ H Q I (k σ H Q q)⟩
theorem _root_.L2.PA.imp {X : Cx} {es : List Expr} {t t' : TA} (h : PA X es t) (k : ∀ σ H Q, t' σ H Q → t σ H Q) : PA X es t' := ⟨fun pos pins s σ H Q I q => h.run pos pins s σ H Q I (k σ H Q q)⟩
theorem _root_.L2.PS.imp {X : Cx} {s : Stmt} {t t' : TS} (h : PS X s t) (k : ∀ D σ H, t' D σ H → t D σ H) : PS X s t' := ⟨fun pins z σ H D I q => h.run pins z σ H D I (k D σ H q)⟩
theorem _root_.L2.PSs.imp {X : Cx} {s : List Stmt} {t t' : TS} (h : PSs X s t) (k : ∀ D σ H, t' D σ H → t D σ H) : PSs X s t' := ⟨fun pins z σ H D I q => h.run pins z σ H D I (k D σ H q)⟩
theorem _root_.L2.PI.imp {X : Cx} {tg e : Expr} {t t' : TI} (h : PI X tg e t) (k : ∀ σ H Q, t' σ H Q → t σ H Q) : PI X tg e t' := ⟨fun pins s σ H R I q => h.run pins s σ H R I (k σ H R q)⟩
end Nlx
end
section
set_option Elab.async false
set_option linter.all false
set_option maxRecDepth 100000
set_option maxHeartbeats 4000000
/-! NlChk: the checker: a text of the core language against the row's own text. -/
namespace Nlx
open PySem PySem.Spec PyProof.Rows L2 Nl

/-- what the names of the module stand for -/
structure Md where
  glo : List (Str × Nat)
  dfn : List (Str × Nat)
  cln : List (Str × Nat)
  mths : List (Str × Nat)
  flds : List (Str × Nat)
  blt : List Str
  exn : List (Str × Nat)

def isVis (sc : Scope) (n : Str) : Bool := match sc.names.lookup n with
  | some .local | some .cell | some .free => true
  | _ => false
def isLoc (sc : Scope) (n : Str) : Bool := match sc.names.lookup n with
  | some .local | some .cell => true
  | _ => false
def isGl (sc : Scope) (n : Str) : Bool := match sc.names.lookup n with
  | some .globalImplicit => true
  | _ => false
def nmOk (n : Str) : Bool := !(n == ("__debug__" : Str)) && !(n == ("__classdict__" : Str))
def gnOk (M : Md) (sc : Scope) (n : Str) : Bool := isGl sc n && !(n == ("__debug__" : Str))
def bnOk (M : Md) (sc : Scope) (n : Str) : Bool := isGl sc n && !(n == ("__debug__" : Str)) && !(n == ("__name__" : Str)) && M.blt.contains n
def cstB (v : Val) : Expr → Bool
  | .Constant .none _ _ => match v with | .non => true | _ => false
  | .Constant (.bool b) _ _ => match v with | .bl c => b == c | _ => false
  | .Constant (.int i) _ _ => match v with | .int j => decide (i = j) | _ => false
  | .Constant (.str s) _ _ => match v with | .str t => decide (s.cps.toList = t) | _ => false
  | _ => false
def notStar : Expr → Bool
  | .Starred _ _ => false
  | _ => true
def notSet : Expr → Bool
  | .Set _ _ _ => false
  | _ => true
def isTup : Expr → Bool
  | .Tuple _ _ _ => true
  | _ => false
def notSlice : Expr → Bool
  | .Slice _ _ _ _ => false
  | _ => true
def plainBase : Expr → Bool
  | .Call (.Name _ _) [] [] _ => false
  | _ => true
def biName : Bi → Str
  | .len => "len" | .abs => "abs" | .int => "int" | .str => "str" | .tuple => "tuple" | .list => "list" | .all => "all" | .any => "any" | .min2 => "min" | .max2 => "max" | .sum => "sum" | .repr => "repr"
  | .isI _ => "isinstance" | .range => "range" | .enum => "enumerate"
  | _ => ""
def bmName : Bm → Str
  | .append => "append" | .extend => "extend" | .pop => "pop" | .popAt => "pop" | .join => "join" | .split => "split" | .part => "partition" | .get => "get"
  | _ => ""
def tgNames : List Nat → List Expr → Option (List (Str × Nat))
  | [], [] => some []
  | i :: is, .Name n _ :: es => (tgNames is es).map ((n, i) :: ·)
  | _, _ => none
/-- the names of a target with their places -/
def tgOf (t : List Nat) (one : Bool) : Expr → Option (List (Str × Nat))
  | .Name n _ => if one then (match t with | [i] => some [(n, i)] | _ => none) else none
  | .Tuple es _ _ => if one then none else tgNames t es
  | _ => none
def tgOk (L : List Str) (sc : Scope) (own : List (Str × Nat)) : Bool := own.all fun p => decide (L[p.2]? = some p.1) && isLoc sc p.1
def cmB (o : Cop) (p : CmpOp) : Bool := decide (copOf o = p)
def opB (o : Bop) (p : Operator) : Bool := decide (bopOf o = p)
def isNonC : Ex → Bool
  | .cst .non => true
  | _ => false
def isTrueC : Ex → Bool
  | .cst (.bl true) => true
  | _ => false
/-- only walked -/
def walkB : Bi → Bool
  | .range | .enum | .zip => true
  | _ => false
def walkE : Ex → Bool
  | .bi b _ => walkB b
  | _ => false
def enumTg (it : Ex) (tg : Expr) : Bool := match it with
  | .bi .enum _ => isTup tg
  | .bi .zip _ => false
  | _ => true
def isPop : Bm → Bool
  | .pop => true
  | _ => false
def tyOk (M : Md) (sc : Scope) (t : Ty) (c : Str) : Bool := match t with
  | .cls k => decide (M.cln.lookup c = some k) && gnOk M sc c
  | t => decide (c = (tyNm t : Str)) && bnOk M sc c
def bmOk : Bm → Bool
  | .index | .count | .strip | .keys => false
  | _ => true
def biOk : Bi → Bool
  | .maxL | .sorted | .lenset | .sortset | .rev | .zip => false
  | _ => true
def isComp : Expr → Bool
  | .ListComp _ _ _ _ | .SetComp _ _ _ _ | .DictComp _ _ _ _ _ => true
  | _ => false
/-- what may be a test -/
def tstOk : Ex → Bool
  | .ife _ _ _ => false
  | .and a b | .or a b => tstOk a && tstOk b
  | .not a | .frz a => tstOk a
  | _ => true
section
variable (M : Md) (L : List Str)
mutual
def chkE : Ex → Bool → Scope → Expr → Bool
  | .var i, false, sc, .Name n _ => decide (L[i]? = some n) && isVis sc n && nmOk n
  | .cst v, false, _, e => cstB v e
  | .glo g, false, sc, .Name n _ => decide (M.glo.lookup n = some g) && gnOk M sc n
  | .bin o a b, false, sc, .BinOp a' p b' _ => opB o p && chkE a false sc a' && chkE b false sc b'
  | .neg a, false, sc, .UnaryOp .USub a' _ => chkE a false sc a'
  | .cmp o a b, false, sc, .Compare a' [p] [b'] _ => cmB o p && !(behindInMarks p b') && chkE a false sc a' && chkE b false sc b'
  | .chn o o2 a b c, false, sc, .Compare a' [p, p2] [b', c'] _ => cmB o p && cmB o2 p2 && !(lastMarks [p, p2] [b', c']) && chkE a false sc a' && chkE b false sc b' && chkE c false sc c'
  | .and a b, false, sc, .BoolOp .And (a' :: b' :: rest) pos => chkE a false sc a' && chkE b false sc (if rest.isEmpty then b' else .BoolOp .And (b' :: rest) pos)
  | .or a b, false, sc, .BoolOp .Or (a' :: b' :: rest) pos => chkE a false sc a' && chkE b false sc (if rest.isEmpty then b' else .BoolOp .Or (b' :: rest) pos)
  | .not a, false, sc, .UnaryOp .Not a' _ => chkE a false sc a'
  | .ife c a b, false, sc, .IfExp c' a' b' _ => tstOk c && chkE c false sc c' && chkE a false sc a' && chkE b false sc b'
  | .tup xs, false, sc, .Tuple es _ _ => decide (xs.length ≤ 1000) && chkEs xs sc es
  | .lst xs, false, sc, .List es _ => decide (xs.length ≤ 1000) && chkEs xs sc es
  | .dct kvs, false, sc, .Dict keys values _ => decide (kvs.length ≤ 30) && chkPs kvs sc keys values
  | .idx a i, false, sc, .Subscript a' i' _ => notSlice i' && chkE a false sc a' && chkE i false sc i'
  | .slc a lo hi, false, sc, .Subscript a' (.Slice lo' hi' none _) _ => chkE a false sc a' &&
      (match lo' with | none => isNonC lo | some e => chkE lo false sc e) && (match hi' with | none => isNonC hi | some e => chkE hi false sc e)
  | .fld a f, false, sc, .Attribute a' n _ => decide (M.flds.lookup n = some f) && plainBase a' && chkE a false sc a'
  | .call f xs, false, sc, .Call (.Name n _) es [] _ => decide (M.dfn.lookup n = some f) && gnOk M sc n && chkEs xs sc es
  | .mk c xs, false, sc, .Call (.Name n _) es [] _ => decide (M.cln.lookup n = some c) && gnOk M sc n && chkEs xs sc es
  | .met m o xs, false, sc, .Call (.Attribute o' n apos) es [] pos => decide (M.mths.lookup n = some m) && plainBase o' && (apos.endLine == pos.line) && decide (es.length < 30) && chkE o false sc o' && chkEs xs sc es
  | .bi b xs, w, sc, .Call (.Name n _) es [] _ => decide (n = biName b) && biOk b && bnOk M sc n && !es.isEmpty && (walkB b == w) && (match b with
      | .isI t => (match es with
        | [e, .Name c _] => notStar e && chkEs xs sc [e] && tyOk M sc t c
        | _ => false)
      | .range => decide (es.length ≤ 3) && chkEs xs sc es
      | .enum => decide (es.length = 1) && chkEs xs sc es
      | _ => chkEs xs sc es)
  | .bm b o xs, false, sc, .Call (.Attribute o' n apos) es [] pos => decide (n = bmName b) && bmOk b && plainBase o' && (apos.endLine == pos.line) && decide (es.length < 30) && (isPop b == es.isEmpty) && chkE o false sc o' && chkEs xs sc es
  | .cp1 e t one it c, false, sc, .ListComp e' [⟨tg, it', ifs, as⟩] scope _ => (match tgOf t one tg with
      | some own => blkC L sc scope own && tgOk L scope own && decide (as = 0) && notSet it' && enumTg it tg && chkE it (walkE it) sc it' && chkE e false scope e' && (match ifs with
        | [] => isTrueC c
        | [c'] => tstOk c && chkE c false scope c'
        | _ => false)
      | none => false)
  | .new (.lst xs), false, sc, .List es _ => decide (xs.length ≤ 1000) && chkEs xs sc es
  | .frz a, false, sc, e => !(isComp e) && chkE a false sc e
  | _, _, _, _ => false
def chkPs : List Ex → Scope → List (Option Expr) → List Expr → Bool
  | [], _, [], [] => true
  | k :: v :: r, sc, some ke :: ks, ve :: vs => chkE k false sc ke && chkE v false sc ve && chkPs r sc ks vs
  | _, _, _, _ => false
def chkEs : List Ex → Scope → List Expr → Bool
  | [], _, [] => true
  | x :: xs, sc, e :: es => notStar e && chkE x false sc e && chkEs xs sc es
  | _, _, _ => false
end
/-- what is walked -/
def chkI (it : Ex) (sc : Scope) (tg it' : Expr) : Bool := notSet it' && enumTg it tg && chkE M L it (walkE it) sc it'
end
end Nlx
end
section
set_option Elab.async false
set_option linter.all false
set_option maxRecDepth 100000
set_option maxHeartbeats 4000000
/-! NlSnd: expressions of the core language are kept by the machine. -/
namespace Nlx
open PySem PySem.Spec PyProof.Rows L2 Nl

/-- an exception's class -/
structure ExnI (K : PySem.W.Frag) (C : Addr) : Prop where
  kp : PySem.W.keepIn K (.ref C) = true
  sb : PySem.W.subIn K (.ref C) (.type "BaseException") = some true
  ty : PySem.W.typeIn K (.ref C) = some (.type "type")
  st : PySem.W.findIn K (.ref C) "__str__" = some (some (.builtin "BaseException.__str__"))
  mkx : ∃ (B newId initId : String) (bmB : List Value), PySem.ExcBaseFacts B newId initId bmB ∧ PySem.W.excIn K C bmB newId = true
/-- the facts of the module -/
structure Fm (w : World) (K : PySem.W.Frag) (mg : Str → Option Value) (base : Heap) (N : Nm) (T : Tab) (M : Md) : Prop where
  hw : N.w = w
  nodig : base.NoDigits
  frep : ∀ d, T.rep d = repT d
  glo : ∀ n g, M.glo.lookup n = some g → ∃ d v u, T.glo[g]? = some d ∧ mg n = some u ∧ RelV v u ∧ ∀ ρ L H, Rep K N ρ L H d v
  dfn : ∀ n f, M.dfn.lookup n = some f → mg n = some (.ref (N.fa f)) ∧ PySem.W.keepIn K (.ref (N.fa f)) = true
  cln : ∀ n c, M.cln.lookup n = some c → mg n = some (.ref (N.ca c)) ∧ PySem.W.keepIn K (.ref (N.ca c)) = true ∧ ClsI K (N.ca c)
  blt : ∀ n, n ∈ M.blt → mg n = none
  mth : ∀ n m c f, M.mths.lookup n = some m → look2 c m T.mth = some f → Cls K (N.ca c) ∧ Meth K (N.ca c) n (N.fa f)
  mno : ∀ n m i, M.mths.lookup n = some m → N.fl i ≠ n
  fld : ∀ n f, M.flds.lookup n = some f → N.fl f = n ∧ ∀ c, Cls K (N.ca c) ∧ NoAttr K (N.ca c) n
  finj : ∀ i j, N.fl i = N.fl j → i = j
  exn : ∀ n c, M.exn.lookup n = some c → mg n = some (.ref (N.xa c)) ∧ ExnI K (N.xa c)
  exm : ∀ d c, T.exs.contains d = true → c ∈ M.exn.map (·.2) → PySem.W.exmOne K (.ref (N.xa d)) (.ref (N.xa c)) = some (T.sub.contains (d, c))
/-- the names stand as sc tells, but that a block's captured ones may be cells -/
def SameSc (sc sc' : Scope) : Prop := ∀ n, sc'.names.lookup n = sc.names.lookup n ∨ (sc.names.lookup n = some .free ∧ sc'.names.lookup n = some .cell)
theorem SameSc.refl (sc : Scope) : SameSc sc sc := fun _ => .inl rfl
theorem lookup_kinds (f : Str × NameKind → Str × NameKind) (h1 : ∀ p, (f p).1 = p.1) (h2 : ∀ p, (f p).2 = p.2 ∨ (p.2 = .free ∧ (f p).2 = .cell)) (n : Str) : ∀ l : List (Str × NameKind), (l.map f).lookup n = l.lookup n ∨ (l.lookup n = some .free ∧ (l.map f).lookup n = some .cell)
  | [] => .inl rfl
  | (m, q) :: l => by
    have e : f (m, q) = (m, (f (m, q)).2) := Prod.ext (h1 (m, q)) rfl
    rw [List.map_cons, e, List.lookup_cons, List.lookup_cons]
    cases n == m with
    | true =>
      rcases h2 (m, q) with z | ⟨z1, z2⟩
      · exact .inl (congrArg some z)
      · exact .inr ⟨congrArg some z1, congrArg some z2⟩
    | false => exact lookup_kinds f h1 h2 n l
theorem SameSc.relabel (sc : Scope) (env : PySem.Env) : SameSc sc (PySem.relabel sc env) := fun n => by
  refine lookup_kinds _ (fun p => ?_) (fun p => ?_) n sc.names
  · obtain ⟨m, q⟩ := p
    dsimp only
    split <;> rfl
  · obtain ⟨m, q⟩ := p
    dsimp only
    split
    · rename_i hq
      simp only [Bool.and_eq_true, beq_iff_eq] at hq
      exact .inr ⟨hq.1.1, rfl⟩
    · exact .inl rfl
/-- a body's context -/
structure XOk (X : Cx) (M : Md) (L : List Str) (sc : Scope) (W : WX) (k : Nat) : Prop where
  nm : X.N = L
  nd : L.Nodup
  hsc : SameSc sc X.env.scope
  calm : X.calm = true
  room : Room k X.A
  air : Caught X W
  fnc : ∀ n, sc.names.lookup n = some .cell → X.fn n = true
  gd : ("repr" : Str) ∈ M.blt → X.A.guards = some [] ∧ X.A.units + 700 < cLine
def rCl (K : PySem.W.Frag) (N : Nm) (c : List Val → Nl.Store → Res Val) (W : WX) (σ : L2.St) : List V → Hp → VK → Prop := fun vs H Q => ∃ (P : Addr → Prop) (ρ : List Addr) (st : Nl.Store) (ds : List Val), Rel K N P ρ st H ∧ Reps K N ρ (Lv P ρ st) H ds vs ∧
  Post K N P ρ st H (c ds st) (toQ K N P Q) (exW N W σ)
/-- calls keep their promises in every context -/
def CallOk (P : Program) (w : World) (K : PySem.W.Frag) (mg : Str → Option Value) (base : Heap) (N : Nm) (k : Nat) (tgt : Nat → Addr) (cl : CallS) : Prop :=
  ∀ (X : Cx) (W : WX), X.prog = P → X.w = w → X.K = K → X.mg = mg → X.base = base → Room k X.A → Caught X W →
    ∀ (f : Nat) (pins : List (Addr × Obj)) (s : Shared) (σ : L2.St) (H : Hp) (vs : List V) (us : List Value) (Q : VK), Inv X pins σ H s → Vals vs us → rCl K N (cl f) W σ vs H Q →
      wpAny (model X.prog X.w) X.A (call (.ref (tgt f)) us) (EP X pins σ Q) X.xe s

/-! ### shapes -/
theorem star_cons {e : Expr} (h : notStar e = true) (es : List Expr) (env : PySem.Env) : starEach (e :: es) env = (false, eval e env) :: starEach es env := by
  cases e <;> first | rfl | (simp [notStar] at h)
theorem star_all {M : Md} {L : List Str} : ∀ {xs : List Ex} {sc : Scope} {es : List Expr}, chkEs M L xs sc es = true → ∀ env : PySem.Env, starEach es env = es.map (fun e => (false, eval e env)) := by
  intro xs
  induction xs with
  | nil =>
    intro sc es h env
    cases es with
    | nil => rfl
    | cons e es => simp [chkEs] at h
  | cons x xs ih =>
    intro sc es h env
    cases es with
    | nil => simp [chkEs] at h
    | cons e es =>
      simp only [chkEs, Bool.and_eq_true] at h
      rw [star_cons h.1.1, ih h.2]; rfl
theorem plain_any {M : Md} {L : List Str} {xs : List Ex} {sc : Scope} {es : List Expr} (h : chkEs M L xs sc es = true) (env : PySem.Env) (pos : Pos) : (backTo pos (starEach es env)).any (·.1) = false := by
  rw [star_all h]
  unfold backTo
  induction es <;> simp_all
theorem base_plain {o : Expr} (h : plainBase o = true) (a : Str) (env : PySem.Env) (whole : Sem Value) : attributeBase o a env whole = whole := by
  unfold attributeBase
  split
  · simp [plainBase] at h
  · rfl
theorem plain_ix {i : Expr} (h : notSlice i = true) : PlainIx i := by
  intro o v
  cases i <;> first | rfl | (simp [notSlice] at h)
theorem not_set {e : Expr} (h : notSet e = true) (env : PySem.Env) (x : Value) : foldedSetIterable e env x = pure x := by
  unfold foldedSetIterable
  cases e <;> first | rfl | (simp [notSet] at h)
theorem vis_of {sc : Scope} {n : Str} (h : isVis sc n = true) : Vis sc n := by
  unfold isVis at h
  split at h
  · exact .inl (by assumption)
  · exact .inr (.inl (by assumption))
  · exact .inr (.inr (by assumption))
  · cases h
theorem loc_of {sc : Scope} {n : Str} (h : isLoc sc n = true) : Loc sc n := by
  unfold isLoc at h
  split at h
  · exact .inl (by assumption)
  · exact .inr (by assumption)
  · cases h
theorem gl_of {X : Cx} {sc : Scope} {n : Str} (hs : SameSc sc X.env.scope) (h : isGl sc n = true) : Gl X n := by
  unfold isGl at h
  show X.env.scope.names.lookup n = _
  split at h
  · rename_i e
    rcases hs n with q | ⟨q, _⟩
    · rw [q]; exact e
    · rw [e] at q; cases q
  · cases h
theorem SameSc.vis {sc sc' : Scope} {n : Str} (hs : SameSc sc sc') (h : isVis sc n = true) : Vis sc' n := by
  rcases hs n with q | ⟨_, q⟩
  · rcases vis_of h with z | z | z
    · exact .inl (q.trans z)
    · exact .inr (.inl (q.trans z))
    · exact .inr (.inr (q.trans z))
  · exact .inr (.inl q)
theorem SameSc.loc {sc sc' : Scope} {n : Str} (hs : SameSc sc sc') (h : isLoc sc n = true) : sc'.names.lookup n = some .local ∨ (sc.names.lookup n = some .cell ∧ sc'.names.lookup n = some .cell) := by
  rcases loc_of h with z | z
  · rcases hs n with q | ⟨q, _⟩
    · exact .inl (q.trans z)
    · rw [z] at q; cases q
  · rcases hs n with q | ⟨q, _⟩
    · exact .inr ⟨z, q.trans z⟩
    · rw [z] at q; cases q
theorem opB_of {o : Bop} {p : Operator} (h : opB o p = true) : bopOf o = p := of_decide_eq_true h
theorem cmB_of {o : Cop} {p : CmpOp} (h : cmB o p = true) : copOf o = p := of_decide_eq_true h
/-- o.m(..), its tree -/
theorem call_tree {M : Md} {L : List Str} {xs : List Ex} {sc : Scope} {o : Expr} {m : Str} {apos pos : Pos} {es : List Expr} {env : PySem.Env} (hb : plainBase o = true) (hl : (apos.endLine == pos.line) = true) (hn : es.length < 30) (hs : chkEs M L xs sc es = true) :
    eval (.Call (.Attribute o m apos) es [] pos) env = (do
      let ov ← eval o env
      standAt apos.atName
      let (f, first) ← holding [ov] (getMethod ov m (do return (← importBound o env).getD true))
      callWith pos f first (backTo pos (starEach es env)) (backToKw pos (keywordEach [] env))) := by
  rw [arm_eval_Call, base_plain hb]
  have hf : methodCallForm (es.length + ([] : List Keyword).length) (backTo pos (starEach es env)) (backToKw pos (keywordEach [] env)) = true := by
    unfold methodCallForm
    rw [star_all hs]
    have e1 : (backTo pos (es.map fun e => (false, eval e env))).all (fun x => !x.1) = true := by
      unfold backTo
      induction es <;> simp_all
    rw [e1]
    simp [backToKw, keywordEach, hn]
  have hp : methodCallPos true o env apos pos = pure pos := by
    unfold methodCallPos
    simp [hl]
  unfold methodCall
  rw [hf, hp]
  simp only [calleeOf, if_true, pure_bind]
theorem getF_look {K : PySem.W.Frag} {N : Nm} {ρ : List Addr} {L : Addr → Prop} {H : Hp} (inj : ∀ i j, N.fl i = N.fl j → i = j) {f : Nat} {d : Val} : ∀ {fs : List Nat} {ws : List Val} {fvs : List (Str × V)}, fvs.map (·.1) = fs.map N.fl → Reps K N ρ L H ws (fvs.map (·.2)) → getF f fs ws = some d →
    ∃ v, fvs.lookup (N.fl f) = some v ∧ Rep K N ρ L H d v
  | [], ws, fvs, e, r, h => by simp [getF] at h
  | g :: fs, [], fvs, e, r, h => by simp [getF] at h
  | g :: fs, w :: ws, [], e, r, h => by simp at e
  | g :: fs, w :: ws, (n, v) :: fvs, e, r, h => by
    simp only [List.map_cons, List.cons.injEq] at e
    simp only [List.map_cons, Reps, List.cons.injEq] at r
    obtain ⟨v', r', ⟨rfl, rfl⟩, h1, h2⟩ := r
    unfold getF at h
    split at h
    · rename_i eg
      cases h
      refine ⟨v, ?_, h1⟩
      rw [List.lookup_cons, e.1, eg]
      simp
    · rename_i ng
      obtain ⟨v2, e2, r2⟩ := getF_look inj e.2 h2 h
      refine ⟨v2, ?_, r2⟩
      rw [List.lookup_cons, e.1]
      have : (N.fl f == N.fl g) = false := beq_eq_false_iff_ne.mpr fun q => ng (inj _ _ q).symm
      rw [this]
      exact e2
theorem no_look {fvs : List (Str × V)} {n : Str} (h : n ∉ fvs.map (·.1)) : fvs.lookup n = none := by
  induction fvs with
  | nil => rfl
  | cons p fvs ih =>
    simp only [List.map_cons, List.mem_cons, not_or] at h
    obtain ⟨x, y⟩ := p
    rw [List.lookup_cons, beq_eq_false_iff_ne.mpr h.1]
    exact ih h.2
end Nlx
end
section
set_option Elab.async false
set_option linter.all false
set_option maxRecDepth 100000
set_option maxHeartbeats 8000000
/-! NlSnd2: calls and methods, the rules with wishes. -/
namespace Nlx
open PySem PySem.Spec PyProof.Rows L2 Nl
theorem chk_nil {M : Md} {L : List Str} {xs : List Ex} {sc : Scope} (h : chkEs M L xs sc [] = true) : xs = [] := by cases xs <;> simp [chkEs] at h ⊢
theorem star_of {M : Md} {L : List Str} {xs : List Ex} {sc : Scope} {e : Expr} {es : List Expr} (h : chkEs M L xs sc (e :: es) = true) (env : PySem.Env) (pos : Pos) :
    starEach (e :: es) env = (false, eval e env) :: starEach es env ∧ (backTo pos (starEach es env)).any (·.1) = false := by
  cases xs with
  | nil => simp [chkEs] at h
  | cons x xs =>
    simp only [chkEs, Bool.and_eq_true] at h
    exact ⟨star_cons h.1.1 _ _, plain_any h.2 _ _⟩
section
variable {X : Cx} {N : Nm} {T : Tab} {M : Md} {L : List Str} {sc : Scope} {W : WX} {k : Nat} {cl mk : CallS} {xs : List Ex} {es : List Expr} {p pos apos : Pos} {x : Str}
/-- what stands behind an argument list -/
theorem args_then {K : PySem.W.Frag} {R : List V → Hp → Prop} {P : Addr → Prop} {ρ : List Addr} {st : Nl.Store} {H : Hp} {env : Nl.Env} {σ : L2.St} {β : Type} {f : List Val → Nl.Store → Res β} {Q' : β → List Addr → Nl.Store → Hp → Prop}
    (Rl : Rel K N P ρ st H) (E : EnvRep K N ρ (Lv P ρ st) H env σ) (h : Post K N P ρ st H ((evs T cl mk xs env st).bind f) Q' (exW N W σ))
    (k : ∀ v ρ' st' H' w, Step K N P ρ st H ρ' st' H' → Rel K N P ρ' st' H' → EnvRep K N ρ' (Lv P ρ' st') H' env σ → Reps K N ρ' (Lv P ρ' st') H' v w → Post K N P ρ' st' H' (f v st') Q' (exW N W σ) → R w H') :
    tRs K N W (evs T cl mk xs) σ H R ∧ (xs = [] → R [] H) := by
  refine ⟨tRs_bind Rl E h k, fun e => ?_⟩
  subst e
  exact k [] ρ st H [] (.refl Rl) Rl E .nil (by simpa only [evs, Res.bind_ok] using h)
/-- f(..) of the module -/
theorem pe_callN {f : Addr} {c : List Val → Nl.Store → Res Val} (hg : Gl X x) (hm : X.mg x = some (.ref f)) (hk : PySem.W.keepIn X.K (.ref f) = true) (hdb : (x == ("__debug__" : Str)) = false)
    (hc : ∀ (pins : List (Addr × Obj)) (s : Shared) (σ : L2.St) (H : Hp) (vs : List V) (us : List Value) (Q : VK), Inv X pins σ H s → Vals vs us → rCl X.K N c W σ vs H Q → wpAny (model X.prog X.w) X.A (call (.ref f) us) (EP X pins σ Q) X.xe s)
    (hs : chkEs M L xs sc es = true) (ha : PA X es (tRs X.K N W (evs T cl mk xs))) : PE X (.Call (.Name x p) es [] pos) (tR X.K N W fun env st => (evs T cl mk xs env st).bind c) := by
  refine ⟨fun pins s σ H Q I ⟨P, ρ, st, env, R, E, h⟩ => ?_⟩
  refine wpAny_Call_Name_kw (ld_glob I hg hm ?_ hdb)
  obtain ⟨ta, t0⟩ := args_then (R := fun vs H1 => rCl X.K N c W σ vs H1 Q) R E h fun v ρ' st' H' w _ R' _ hw hp => ⟨P, ρ', st', v, R', hw, hp⟩
  cases es with
  | nil => exact PySem.W.callWith_K0 I.kIn hk (hc pins s σ H [] [] Q I .nil (t0 (chk_nil hs)))
  | cons e es =>
    obtain ⟨he, hp⟩ := star_of hs X.env pos
    exact PySem.W.callWith_K (h₀ := X.base) I.ok.mod.kin hk (thn (ha.run pos pins s σ H _ I ta) fun us s1 ⟨vs, H1, I1, r, q⟩ => ⟨I1.kIn, hc pins s1 σ H1 vs us Q I1 r q⟩) he hp
/-- a built-in function -/
theorem pe_bif {id : String} {b : Bi} (hcb : CallR X (.builtin id) (rBi X.K N T b)) (hg : Gl X x) (hm : X.mg x = none) (hv : bootBuiltins x = some (.builtin id)) (hn : x ≠ "__name__") (hdb : (x == ("__debug__" : Str)) = false) (hne : es ≠ [])
    (hs : chkEs M L xs sc es = true) (ha : PA X es (tRs X.K N W (evs T cl mk xs))) : PE X (.Call (.Name x p) es [] pos) (tR X.K N W (ev T cl mk (.bi b xs))) := by
  cases es with
  | nil => exact absurd rfl hne
  | cons e es =>
    obtain ⟨he, hp⟩ := star_of hs X.env pos
    refine (pe_callB hcb hg hm hv ha hn hdb he hp).imp fun σ H Q ⟨P, ρ, st, env, R, E, h⟩ => ?_
    simp only [ev] at h
    exact tRs_bind R E h fun v ρ' st' H' w _ R' _ hw hp => let ⟨z, hz, hk⟩ := hp.opt; ⟨P, ρ', st', v, R', hw, z, hz, fun ρ2 H2 g v2 h2 => hk ρ2 H2 g v2 h2⟩
/-- a built-in type -/
theorem pe_bit {id : String} {b : Bi} (hcb : CallR X (.type id) (rBi X.K N T b)) (hg : Gl X x) (hm : X.mg x = none) (hv : bootBuiltins x = some (.type id)) (hn : x ≠ "__name__") (hdb : (x == ("__debug__" : Str)) = false) (hne : es ≠ [])
    (hs : chkEs M L xs sc es = true) (ha : PA X es (tRs X.K N W (evs T cl mk xs))) : PE X (.Call (.Name x p) es [] pos) (tR X.K N W (ev T cl mk (.bi b xs))) := by
  cases es with
  | nil => exact absurd rfl hne
  | cons e es =>
    obtain ⟨he, hp⟩ := star_of hs X.env pos
    refine (pe_callTy hcb hg hm hv ha hn hdb he hp).imp fun σ H Q ⟨P, ρ, st, env, R, E, h⟩ => ?_
    simp only [ev] at h
    exact tRs_bind R E h fun v ρ' st' H' w _ R' _ hw hp => let ⟨z, hz, hk⟩ := hp.opt; ⟨P, ρ', st', v, R', hw, z, hz, fun ρ2 H2 g v2 h2 => hk ρ2 H2 g v2 h2⟩
/-- o.m(..) of an own class -/
theorem pe_methN {o : Expr} {m : Nat} {ox : Ex} (F : Fm X.w X.K X.mg X.base N T M) (hcl : ∀ (f : Nat) (pins : List (Addr × Obj)) (s : Shared) (σ : L2.St) (H : Hp) (vs : List V) (us : List Value) (Q : VK), Inv X pins σ H s → Vals vs us → rCl X.K N (cl f) W σ vs H Q → wpAny (model X.prog X.w) X.A (call (.ref (N.fa f)) us) (EP X pins σ Q) X.xe s)
    (hm : M.mths.lookup x = some m) (hb : plainBase o = true) (hl : (apos.endLine == pos.line) = true) (h30 : es.length < 30) (hs : chkEs M L xs sc es = true) (ho : PE X o (tR X.K N W (ev T cl mk ox))) (ha : PA X es (tRs X.K N W (evs T cl mk xs))) :
    PE X (.Call (.Attribute o x apos) es [] pos) (tR X.K N W (ev T cl mk (.met m ox xs))) := by
  refine ⟨fun pins s σ H Q I ⟨P, ρ, st, env, R, E, h⟩ => ?_⟩
  simp only [ev] at h
  refine PySem.W.methodCall_KW (thn (ho.run pins s σ H (fun x0 H1 => ∃ a c dx fs f, x0 = .ref a ∧ H1 a = some (.ins (N.ca c) dx fs) ∧ fs.lookup x = none ∧ look2 c m T.mth = some f ∧
      (tRs X.K N W (evs T cl mk xs) σ H1 (fun vs H2 => rCl X.K N (cl f) W σ (.ref a :: vs) H2 Q) ∧ (xs = [] → rCl X.K N (cl f) W σ [.ref a] H1 Q))) I (tR_bind R E h fun v ρ' st' H' w0 _ R' E' hw hp => ?_)) fun u s1 ⟨x0, H1, I1, rx, a, c, dx, fs, f, ex, ea, ln, lk, q⟩ => ?_) (call_tree hb hl h30 hs)
  · cases hc : (clsV st' v).bind fun c => look2 c m T.mth with
    | none => rw [hc] at hp; exact hp.elim
    | some f =>
      rw [hc] at hp
      obtain ⟨c, hc1, hc2⟩ := Option.bind_eq_some_iff.mp hc
      have at_ : ∃ a dx fs, w0 = .ref a ∧ H' a = some (.ins (N.ca c) dx fs) ∧ fs.lookup x = none := by
        have nl : ∀ {fvs : List (Str × V)} {fs : List Nat}, fvs.map (·.1) = fs.map N.fl → fvs.lookup x = none := fun {fvs fs} e => no_look (by
          rw [e]
          intro q
          obtain ⟨i, _, e2⟩ := List.mem_map.mp q
          exact F.mno x m i hm e2)
        unfold clsV at hc1
        split at hc1
        · cases hc1
          simp only [Rep] at hw
          obtain ⟨a, dx, fvs, rfl, q, e2, _⟩ := hw
          exact ⟨a, dx, fvs, rfl, q.1, nl e2⟩
        · split at hc1
          · rename_i hst
            cases hc1
            obtain ⟨a, rfl, q⟩ := rep_ref hw
            obtain ⟨dx, fvs, e1, e2, _⟩ := R'.ob _ _ _ hst q
            exact ⟨a, dx, fvs, rfl, e1, nl e2⟩
          · cases hc1
        · cases hc1
      obtain ⟨a, dx, fs, rfl, ea, ln⟩ := at_
      refine ⟨a, c, dx, fs, f, rfl, ea, ln, hc2, ?_⟩
      exact args_then R' E' hp fun vs ρ2 st2 H2 ws g2 R2 _ hws hp2 => ⟨P, ρ2, st2, v :: vs, R2, .cons (hw.grow R' g2.grow _ _) hws, hp2⟩
  · subst ex
    obtain rfl : u = Value.ref a := rx
    obtain ⟨C, Mt⟩ := F.mth x m c f hm lk
    refine getmeth_ok I1 ea C Mt ln ?_
    cases es with
    | nil => exact PySem.W.callWith_K0 (first := [.ref a]) I1.kIn Mt.kp (hcl f pins s1 σ H1 [.ref a] [.ref a] Q I1 (.cons rfl .nil) (q.2 (chk_nil hs)))
    | cons e es =>
      obtain ⟨he, hp⟩ := star_of hs X.env pos
      exact PySem.W.callWith_K (first := [.ref a]) (h₀ := X.base) I1.ok.mod.kin Mt.kp (thn (ha.run pos pins s1 σ H1 _ I1 q.1) fun us s2 ⟨vs, H2, I2, r, q2⟩ => ⟨I2.kIn, hcl f pins s2 σ H2 (.ref a :: vs) (.ref a :: us) Q I2 (.cons rfl r) q2⟩) he hp
/-- the receiver of a built-in method -/
def rcvTy : Bm → String
  | .append | .extend | .pop | .popAt | .index | .count => "list"
  | .get | .keys => "dict"
  | _ => "str"
theorem rcv_ty {K : PySem.W.Frag} {ρ : List Addr} {Lx : Addr → Prop} {H : Hp} {b : Bm} {d : Val} {w : V} (h : rcvT b d = true) (v : View K N ρ Lx H d w) : tyV K (rcvTy b) w H := by
  cases d with
  | lst ys =>
    obtain ⟨a, vs, rfl, q, _⟩ := v
    cases b <;> simp [rcvT] at h <;> exact .inl ⟨rfl, vs, .of q⟩
  | str y =>
    simp only [View, Rep] at v
    subst v
    cases b <;> simp [rcvT] at h <;> rfl
  | dct ks ws =>
    obtain ⟨a, kvs, rfl, q, _⟩ := v
    cases b <;> simp [rcvT] at h <;> exact .inr (.inr (.inl ⟨rfl, .inl ⟨kvs, q⟩⟩))
  | _ => cases b <;> simp [rcvT] at h
theorem pe_bmN {o : Expr} {ox : Ex} {b : Bm} {id : String} (pa : PlainAttrs (rcvTy b)) (slot : Slot (rcvTy b) x id) (hty : typeOf (.builtin id) = pure (.type "method_descriptor")) (hmt : MtR X id (rBm X.K N b))
    (hb : plainBase o = true) (hl : (apos.endLine == pos.line) = true) (h30 : es.length < 30) (hs : chkEs M L xs sc es = true) (ho : PE X o (tR X.K N W (ev T cl mk ox))) (ha : PA X es (tRs X.K N W (evs T cl mk xs))) :
    PE X (.Call (.Attribute o x apos) es [] pos) (tR X.K N W (ev T cl mk (.bm b ox xs))) := by
  have go : ∀ σ H (Q : VK), tR X.K N W (ev T cl mk (.bm b ox xs)) σ H Q → tR X.K N W (ev T cl mk ox) σ H fun x0 H1 => tyV X.K (rcvTy b) x0 H1 ∧ (tRs X.K N W (evs T cl mk xs) σ H1 (fun vs H2 => rBm X.K N b x0 vs H2 Q) ∧ (xs = [] → rBm X.K N b x0 [] H1 Q)) := by
    intro σ H Q ⟨P, ρ, st, env, R, E, h⟩
    simp only [ev] at h
    refine tR_bind R E h fun v ρ' st' H' w0 _ R' E' hw hp => ?_
    split at hp
    · rename_i hr
      refine ⟨rcv_ty hr (view R' hw), args_then R' E' hp fun vs ρ2 st2 H2 ws g2 R2 _ hws hp2 => ?_⟩
      split at hp2
      · rename_i z st3 hz
        exact ⟨P, ρ2, st2, v, vs, R2, hw.grow R' g2.grow _ _, hws, z, st3, hz, hp2⟩
      · exact hp2.elim
    · exact hp.elim
  cases es with
  | nil =>
    refine (pe_bm0 pa slot hty hmt ho (base_plain hb _ _ _) hl).imp fun σ H Q h => ?_
    obtain ⟨P, ρ, st, env, R, E, hh⟩ := go σ H Q h
    exact ⟨P, ρ, st, env, R, E, hh.mono fun v ρ' st' H' _ _ hq w hw => ⟨(hq w hw).1, (hq w hw).2.2 (chk_nil hs)⟩⟩
  | cons e es =>
    obtain ⟨he, hp⟩ := star_of hs X.env pos
    refine (pe_bm pa slot hty hmt ho ha (base_plain hb _ _ _) ?_ hl he hp).imp fun σ H Q h => ?_
    · rw [star_all hs]
      have e1 : (backTo pos ((e :: es).map fun e => (false, eval e X.env))).all (fun x => !x.1) = true := by
        unfold backTo
        generalize (e :: es) = l
        induction l <;> simp_all
      rw [e1]
      simp [backToKw, keywordEach, h30]
      simpa using h30
    · obtain ⟨P, ρ, st, env, R, E, hh⟩ := go σ H Q h
      exact ⟨P, ρ, st, env, R, E, hh.mono fun v ρ' st' H' _ _ hq w hw => ⟨(hq w hw).1, (hq w hw).2.1⟩⟩
end
end Nlx
end
section
set_option Elab.async false
set_option linter.all false
set_option maxRecDepth 100000
set_option maxHeartbeats 8000000
/-! NlWalk: what loops and comprehensions walk. -/
namespace Nlx
open PySem PySem.Spec PyProof.Rows L2 Nl
section
variable {K : PySem.W.Frag} {N : Nm} {ρ ρ' : List Addr} {L L' : Addr → Prop} {H H' : Hp}
mutual
theorem Rep.move (pre : ρ <+: ρ') (k : ∀ a o, H a = some o → ¬ L a → H' a = some o ∧ ¬ L' a) (kt : ∀ a vs, SqT K H a vs → SqT K H' a vs) : ∀ (d : Val) (v : V), Rep K N ρ L H d v → Rep K N ρ' L' H' d v
  | .non, v, q => by simpa only [Rep] using q
  | .bl b, v, q => by simpa only [Rep] using q
  | .int i, v, q => by simpa only [Rep] using q
  | .str s, v, q => by simpa only [Rep] using q
  | .fn f, v, q => by simpa only [Rep] using q
  | .ref i, v, q => by
    simp only [Rep] at q ⊢
    obtain ⟨a, e, q⟩ := q
    obtain ⟨t, rfl⟩ := pre
    exact ⟨a, e, by rw [List.getElem?_append_left]; exact q; exact (List.getElem?_eq_some_iff.mp q).1⟩
  | .tup xs, v, q => by
    simp only [Rep] at q ⊢
    obtain ⟨a, vs, e, q, r⟩ := q
    exact ⟨a, vs, e, kt _ _ q, Reps.move pre k kt xs vs r⟩
  | .lst xs, v, q => by
    simp only [Rep] at q ⊢
    obtain ⟨a, vs, e, q, r⟩ := q
    exact ⟨a, vs, e, k _ _ q.1 q.2, Reps.move pre k kt xs vs r⟩
  | .dct ks ws, v, q => by
    simp only [Rep] at q ⊢
    obtain ⟨a, kvs, e, q, e2, r⟩ := q
    exact ⟨a, kvs, e, k _ _ q.1 q.2, e2, Reps.move pre k kt ws _ r⟩
  | .obj c fs ws, v, q => by
    simp only [Rep] at q ⊢
    obtain ⟨a, dx, fvs, e, q, e2, r⟩ := q
    exact ⟨a, dx, fvs, e, k _ _ q.1 q.2, e2, Reps.move pre k kt ws _ r⟩
  | .scr ns, v, q => by
    simp only [Rep] at q ⊢
    obtain ⟨a, e, q⟩ := q
    refine ⟨a, e, ?_⟩
    rcases q with ⟨q | ⟨o, q⟩, n⟩ | q
    · exact .inl ⟨.inl (k _ _ q n).1, (k _ _ q n).2⟩
    · exact .inl ⟨.inr ⟨o, (k _ _ q n).1⟩, (k _ _ q n).2⟩
    · exact .inr q
  | .kon ks ws, v, q => by
    simp only [Rep] at q ⊢
    obtain ⟨a, es, n, vs, e, q, r, z⟩ := q
    exact ⟨a, es, n, vs, e, q, Reps.move pre k kt ws vs r, z⟩
theorem Reps.move (pre : ρ <+: ρ') (k : ∀ a o, H a = some o → ¬ L a → H' a = some o ∧ ¬ L' a) (kt : ∀ a vs, SqT K H a vs → SqT K H' a vs) : ∀ (xs : List Val) (vs : List V), Reps K N ρ L H xs vs → Reps K N ρ' L' H' xs vs
  | [], vs, q => by simpa only [Reps] using q
  | x :: xs, vs, q => by
    simp only [Reps] at q ⊢
    obtain ⟨v, r, e, h1, h2⟩ := q
    exact ⟨v, r, e, Rep.move pre k kt x v h1, Reps.move pre k kt xs r h2⟩
end
theorem ObRep.move (pre : ρ <+: ρ') (k : ∀ a o, H a = some o → ¬ L a → H' a = some o ∧ ¬ L' a) (kt : ∀ a vs, SqT K H a vs → SqT K H' a vs) {o : Ob} {a : Addr} (h : ObRep K N ρ L H o a) (s : ∀ x, H a = some x → H' a = some x) : ObRep K N ρ' L' H' o a := by
  cases o with
  | lst xs => obtain ⟨vs, e, r⟩ := h; exact ⟨vs, s _ e, r.move pre k kt xs vs⟩
  | dct ks ws => obtain ⟨kvs, e, e2, r⟩ := h; exact ⟨kvs, s _ e, e2, r.move pre k kt ws _⟩
  | ins c fs ws => obtain ⟨dx, fvs, e, e2, r⟩ := h; exact ⟨dx, fvs, s _ e, e2, r.move pre k kt ws _⟩
  | gone => trivial
end
section
variable {K : PySem.W.Frag} {N : Nm} {P P' : Addr → Prop} {ρ ρ' ρ1 : List Addr} {st st' st1 : Nl.Store} {H H' H1 : Hp}
/-- what stood at the beginning, seen later and by more that is not ours -/
theorem far_k (g : Grow ρ1 st1 H1 ρ st H) (hP : ∀ a, P' a → P a ∨ H1 a = none) : ∀ a o, H1 a = some o → ¬ Lv P ρ1 st1 a → H a = some o ∧ ¬ Lv P' ρ st a := fun a o e n => by
  refine ⟨g.kept a o (fun l => n (.inr l)) e, fun l => ?_⟩
  rcases l with l | l
  · rcases hP a l with q | q
    · exact n (.inl q)
    · rw [e] at q; cases q
  · rcases g.live a l with q | q
    · exact n (.inr q)
    · rw [e] at q; cases q
theorem Rep.far (R : Rel K N P ρ1 st1 H1) (g : Grow ρ1 st1 H1 ρ st H) (hP : ∀ a, P' a → P a ∨ H1 a = none) {d : Val} {v : V} (h : Rep K N ρ1 (Lv P ρ1 st1) H1 d v) : Rep K N ρ (Lv P' ρ st) H d v :=
  h.move g.pre (far_k g hP) (fun a vs q => g.sqT R q) d v
theorem Reps.far (R : Rel K N P ρ1 st1 H1) (g : Grow ρ1 st1 H1 ρ st H) (hP : ∀ a, P' a → P a ∨ H1 a = none) {d : List Val} {v : List V} (h : Reps K N ρ1 (Lv P ρ1 st1) H1 d v) : Reps K N ρ (Lv P' ρ st) H d v :=
  h.move g.pre (far_k g hP) (fun a vs q => g.sqT R q) d v
theorem EnvRep.far {env : Nl.Env} {σ : L2.St} (R : Rel K N P ρ1 st1 H1) (g : Grow ρ1 st1 H1 ρ st H) (hP : ∀ a, P' a → P a ∨ H1 a = none) (h : EnvRep K N ρ1 (Lv P ρ1 st1) H1 env σ) : EnvRep K N ρ (Lv P' ρ st) H env σ :=
  ⟨h.1, fun i d e => let ⟨w, h1, h2⟩ := h.2 i d e; ⟨w, h1, h2.far R g hP⟩⟩
/-- J walks xs, whatever has happened since -/
def Walk (K : PySem.W.Frag) (N : Nm) (P : Addr → Prop) (J : It) (g : Option Nat) (xs : List Val) (ρ1 : List Addr) (st1 : Nl.Store) (H1 : Hp) : Prop :=
  ∀ (P' : Addr → Prop) (i : Nat) (ρ : List Addr) (st : Nl.Store) (H : Hp), (∀ a, P' a → P a ∨ H1 a = none) → Grow ρ1 st1 H1 ρ st H → Rel K N P' ρ st H → stands g xs st →
    (∀ d, xs[i]? = some d → J.go i H ∧ ∀ x H', J.yld i H x H' → Step K N P' ρ st H ρ st H' ∧ Rep K N ρ (Lv P' ρ st) H' d x) ∧ (i = xs.length → J.stop i H)
theorem walk_lst (R : Rel K N P ρ1 st1 H1) {xs : List Val} {w : V} (h : Rep K N ρ1 (Lv P ρ1 st1) H1 (.lst xs) w) : ∃ a, w = .ref a ∧ (∃ vs, SqL K H1 a vs) ∧ Walk K N P (Itl K a) none xs ρ1 st1 H1 := by
  simp only [Rep] at h
  obtain ⟨a, vs, rfl, q, r⟩ := h
  refine ⟨a, rfl, ⟨vs, .of q.1⟩, ?_⟩
  intro P' i ρ st H hP g R' _
  have ha := (far_k (P' := P') g hP a _ q.1 q.2).1
  have hr := r.far R g hP
  refine ⟨fun d e => ?_, fun e => ⟨vs, .of ha, by rw [e, r.length]; exact Nat.le_refl _⟩⟩
  obtain ⟨v, ev, rv⟩ := hr.get e
  refine ⟨⟨vs, v, .of ha, ev⟩, fun x H' y => ?_⟩
  obtain ⟨rfl, y⟩ := y
  have := y vs (.of ha)
  rw [ev] at this
  cases this
  exact ⟨.refl R', rv⟩
theorem walk_ref (R : Rel K N P ρ1 st1 H1) {j : Nat} {xs : List Val} {w : V} (e : st1[j]? = some (.lst xs)) (h : Rep K N ρ1 (Lv P ρ1 st1) H1 (.ref j) w) : ∃ a, w = .ref a ∧ (∃ vs, SqL K H1 a vs) ∧ Walk K N P (Itl K a) (some j) xs ρ1 st1 H1 := by
  obtain ⟨a, rfl, q⟩ := rep_ref h
  obtain ⟨vs, h1, _⟩ := R.ob j _ a e q
  refine ⟨a, rfl, ⟨vs, .of h1⟩, ?_⟩
  intro P' i ρ st H hP g R' sd
  have e2 := sd j rfl
  have q2 : ρ[j]? = some a := by
    obtain ⟨t, rfl⟩ := g.pre
    rw [List.getElem?_append_left]
    · exact q
    · exact (List.getElem?_eq_some_iff.mp q).1
  obtain ⟨us, h2, hr⟩ := R'.ob j _ a e2 q2
  refine ⟨fun d e => ?_, fun e => ⟨us, .of h2, by rw [e, hr.length]; exact Nat.le_refl _⟩⟩
  obtain ⟨v, ev, rv⟩ := hr.get e
  refine ⟨⟨us, v, .of h2, ev⟩, fun x H' y => ?_⟩
  obtain ⟨rfl, y⟩ := y
  have := y us (.of h2)
  rw [ev] at this
  cases this
  exact ⟨.refl R', rv⟩
theorem walk_tup (R : Rel K N P ρ1 st1 H1) {xs : List Val} {w : V} (h : Rep K N ρ1 (Lv P ρ1 st1) H1 (.tup xs) w) : ∃ a, w = .ref a ∧ (∃ vs, SqT K H1 a vs) ∧ Walk K N P (Itt K a) none xs ρ1 st1 H1 := by
  simp only [Rep] at h
  obtain ⟨a, vs, rfl, q, r⟩ := h
  refine ⟨a, rfl, ⟨vs, q⟩, ?_⟩
  intro P' i ρ st H hP g R' _
  have ha := g.sqT R q
  have hr := r.far R g hP
  refine ⟨fun d e => ?_, fun e => ⟨vs, ha, by rw [e, r.length]; exact Nat.le_refl _⟩⟩
  obtain ⟨v, ev, rv⟩ := hr.get e
  refine ⟨⟨vs, v, ha, ev⟩, fun x H' y => ?_⟩
  obtain ⟨rfl, y⟩ := y
  have := y vs ha
  rw [ev] at this
  cases this
  exact ⟨.refl R', rv⟩
theorem walk_str {s : List Nat} : Walk K N P (Its (S s)) none (s.map fun c => .str [c]) ρ1 st1 H1 := by
  intro P' i ρ st H hP g R' _
  have hsz : (S s).cps.size = s.length := by simp [S]
  refine ⟨fun d e => ?_, fun e => by show (S s).cps.size ≤ i; rw [hsz, e, List.length_map]; exact Nat.le_refl _⟩
  rw [List.getElem?_map] at e
  cases hc : s[i]? with
  | none => rw [hc] at e; cases e
  | some c =>
    rw [hc] at e
    cases e
    refine ⟨by show i < (S s).cps.size; rw [hsz]; exact (List.getElem?_eq_some_iff.mp hc).1, fun x H' y => ?_⟩
    obtain ⟨rfl, c', hc', rfl⟩ := y
    have : (S s).cps[i]? = s[i]? := by simp [S]
    rw [this, hc] at hc'
    cases hc'
    exact ⟨.refl R', by simp only [Rep]; rfl⟩
theorem range_at (lo c : Int) : ∀ (n i : Nat), (rangeN lo c n)[i]? = if i < n then some (.int (lo + (i : Nat) * c)) else none
  | 0, i => by simp [rangeN]
  | n + 1, 0 => by simp [rangeN]
  | n + 1, i + 1 => by
    rw [rangeN, List.getElem?_cons_succ, range_at (lo + c) c n i]
    by_cases h : i < n
    · rw [if_pos h, if_pos (by omega)]
      congr 2
      have : ((i + 1 : Nat) : Int) = (i : Int) + 1 := by omega
      rw [this, Int.add_mul]; omega
    · rw [if_neg h, if_neg (by omega)]
theorem range_len (lo c : Int) : ∀ n : Nat, (rangeN lo c n).length = n
  | 0 => rfl
  | n + 1 => by simp [rangeN, range_len (lo + c) c n]
theorem walk_rng {lo : Int} {n : Nat} : Walk K N P (Itr lo n) none (rangeN lo 1 n) ρ1 st1 H1 := by
  intro P' i ρ st H hP g R' _
  refine ⟨fun d e => ?_, fun e => by show n ≤ i; rw [e, range_len]; exact Nat.le_refl _⟩
  rw [range_at] at e
  split at e
  · rename_i hi
    cases e
    refine ⟨hi, fun x H' y => ?_⟩
    obtain ⟨rfl, rfl⟩ := y
    exact ⟨.refl R', by simp only [Rep, Int.mul_one]⟩
  · cases e
theorem walk_rngC {lo c : Int} {n : Nat} : Walk K N P (Itc lo c n) none (rangeN lo c n) ρ1 st1 H1 := by
  intro P' i ρ st H hP g R' _
  refine ⟨fun d e => ?_, fun e => by show n ≤ i; rw [e, range_len]; exact Nat.le_refl _⟩
  rw [range_at] at e
  split at e
  · rename_i hi
    cases e
    refine ⟨hi, fun x H' y => ?_⟩
    obtain ⟨rfl, rfl⟩ := y
    exact ⟨.refl R', by simp only [Rep]⟩
  · cases e
end
/-! ### enumerate(text) -/
def Ites (x : Str) : It :=
  ⟨fun i _ => i < x.cps.size, fun i H v H' => ∃ T c, x.cps[i]? = some c ∧ v = .ref T ∧ H T = none ∧ H' = upd H T (.tup [.int (i : Nat), .str ⟨#[c]⟩]), fun i _ => i = x.cps.size⟩
theorem turn_enums {P : Program} {w : World} {K : PySem.W.Frag} {elts : List Expr} {kk : Nat} {tpos : Pos} (x : Str) (t : Tok) (e it : Addr) :
    Turn P w K (.Tuple elts kk tpos) (Ites x) [e, it] e (fun i h => (∃ old, IsEnum h e it ((i : Nat) : Int) old) ∧ h.IsStrIter it (strIterType x) x t i ∧ e ≠ it) where
  mem := List.mem_cons_self
  obj := fun i h st b hb => by
    obtain ⟨⟨old, he⟩, ⟨o, ho, hc, hd⟩, _⟩ := st
    simp only [List.mem_cons, List.not_mem_nil, or_false] at hb
    rcases hb with rfl | rfl
    · exact ⟨_, he, fun v q => nomatch q⟩
    · exact ⟨o, ho, fun v q => by rw [hd] at q; cases q⟩
  keep := fun i h h' st k => by
    obtain ⟨⟨old, he⟩, ⟨o, ho, r⟩, hne⟩ := st
    exact ⟨⟨old, k e (by simp) _ he⟩, ⟨o, k it (by simp) o ho, r⟩, hne⟩
  item := by
    intro X hP hw hK hc i pins s σ H E I hf st hg
    subst hP hw hK
    obtain ⟨⟨old, he⟩, hit, hne⟩ := st
    have D : Draws X.prog X.w X.A.in1 it [it] x.cps.size (fun i v => ∃ c u, x.cps[i]? = some c ∧ v = .str ⟨#[c]⟩ u) (fun i h => h.IsStrIter it (strIterType x) x t i) := by
      unfold strIterType
      split
      · exact Draws.strAscii (A := X.A.in1) (I.ok.hd hc) it x t
      · exact Draws.strWide (A := X.A.in1) (I.ok.hd hc) it x t
    have hel : e < s.heap.objs.size := Heap.lt_size he
    have hil : it < s.heap.objs.size := let ⟨_, q, _⟩ := hit; Heap.lt_size q
    refine wpAny_pyNext_enum_itemD D he hit hg hne (by simp [hne]) fun v h' tk hv ho hit' hT hsz hk => ?_
    obtain ⟨c, u, hcx, rfl⟩ := hv
    refine ⟨_, rfl, wpAny_letOwnedTupleGo_enum (s := { s with heap := h', toks := tk + 1 }) ho fun h'' he' sb => ?_⟩
    have hT2 := (sb.2 _ (Nat.ne_of_gt hel)).trans hT
    have new : ObjOk X.prog X.w (upd H s.heap.objs.size (.tup [.int (i : Nat), .str ⟨#[c]⟩])) h'' s.heap.objs.size (.tup [.int (i : Nat), .str ⟨#[c]⟩]) :=
      ⟨by show 2 ≤ sizeLine; decide, [.int i tk, .str ⟨#[c]⟩ u], .cons ⟨_, rfl⟩ (.cons ⟨_, rfl⟩ .nil), ⟨_, hT2, rfl, _, rfl⟩⟩
    have I1 : Inv X pins σ (upd H s.heap.objs.size (.tup [.int (i : Nat), .str ⟨#[c]⟩])) { s with heap := h'', toks := tk + 1 } :=
      I.turnedNew (ch := [e, it]) (fun b ob hb q => (sb.2 b (fun z => hb (by simp [z]))).trans (hk b ob (fun z => hb (by simp [z])) (fun z => hb (by simp [z])) q)) hf (Nat.le_refl _) new
    refine ⟨.ref s.heap.objs.size, _, I1, rfl, ⟨_, c, hcx, rfl, I.hok.fresh (Nat.le_refl _), rfl⟩, ⟨⟨.str ⟨#[c]⟩ u, ?_⟩, ?_, hne⟩, fun b hb => ?_⟩
    · rw [show ((i + 1 : Nat) : Int) = (i : Int) + 1 from by omega]; exact he'
    · obtain ⟨o, q1, q2⟩ := hit'
      exact ⟨o, (sb.2 it (Ne.symm hne)).trans q1, q2⟩
    · have hb' : b < s.heap.objs.size := by
        simp only [List.mem_cons, List.not_mem_nil, or_false] at hb
        rcases hb with rfl | rfl
        · exact hel
        · exact hil
      rw [upd_ne (Nat.ne_of_lt hb')]
      exact (hf b hb).1
  done := by
    intro X hP hw hK hc i pins s σ H E I hf st hg
    subst hP hw hK
    obtain ⟨⟨old, he⟩, hit, hne⟩ := st
    have D : Draws X.prog X.w X.A.in1 it [it] x.cps.size (fun i v => ∃ c u, x.cps[i]? = some c ∧ v = .str ⟨#[c]⟩ u) (fun i h => h.IsStrIter it (strIterType x) x t i) := by
      unfold strIterType
      split
      · exact Draws.strAscii (A := X.A.in1) (I.ok.hd hc) it x t
      · exact Draws.strWide (A := X.A.in1) (I.ok.hd hc) it x t
    obtain ⟨f0, f1, f2, f3, f4, f5⟩ := hf it (by simp)
    have hg' : i = x.cps.size := hg
    exact wpAny_pyNext_enum_endD D he (by rw [← hg']; exact hit) fun h' eb => ⟨rfl, I.turned (t' := s.toks) (fun b o hb q => eb b o hb q) f0 f1 f3 f4 f5⟩
  self := fun A i s Q E st h => by
    obtain ⟨⟨_, he⟩, _⟩ := st
    exact wpAny_pyIter_enum he h
theorem enum_at : ∀ (xs : List Val) (k : Int) (i : Nat), (enumN k xs)[i]? = (xs[i]?).map fun x => .tup [.int (k + (i : Nat)), x]
  | [], k, i => by simp [enumN]
  | x :: xs, k, 0 => by simp [enumN]
  | x :: xs, k, i + 1 => by
    rw [enumN, List.getElem?_cons_succ, enum_at xs (k + 1) i, List.getElem?_cons_succ]
    have : k + 1 + (i : Int) = k + ((i + 1 : Nat) : Int) := by omega
    rw [this]
theorem enum_len : ∀ (xs : List Val) (k : Int), (enumN k xs).length = xs.length
  | [], k => rfl
  | x :: xs, k => by simp [enumN, enum_len xs (k + 1)]
section
variable {K : PySem.W.Frag} {N : Nm} {P : Addr → Prop} {ρ1 : List Addr} {st1 : Nl.Store} {H1 : Hp}
theorem walk_enums {s : List Nat} : Walk K N P (Ites (S s)) none (enumN 0 (s.map fun c => .str [c])) ρ1 st1 H1 := by
  intro P' i ρ st H hP g R' _
  have hsz : (S s).cps.size = s.length := by simp [S]
  refine ⟨fun d e => ?_, fun e => by show i = (S s).cps.size; rw [hsz, e, enum_len, List.length_map]⟩
  rw [enum_at, List.getElem?_map] at e
  cases hc : s[i]? with
  | none => rw [hc] at e; cases e
  | some c =>
    rw [hc] at e
    cases e
    refine ⟨by show i < (S s).cps.size; rw [hsz]; exact (List.getElem?_eq_some_iff.mp hc).1, fun x H' y => ?_⟩
    obtain ⟨T, c', hc', rfl, hT, rfl⟩ := y
    have : (S s).cps[i]? = s[i]? := by simp [S]
    rw [this, hc] at hc'
    cases hc'
    refine ⟨.laid R' hT, ?_⟩
    have := rep_newTup R' hT (xs := [.int ((i : Nat) : Int), .str [c]]) (vs := [.int ((i : Nat) : Int), .str (S [c])]) (.cons (by simp only [Rep]) (.cons (by simp only [Rep]) .nil))
    rw [Int.zero_add]
    exact this
end
/-! ### what is walked, as a reading -/
def tW (K : PySem.W.Frag) (N : Nm) (W : WX) (f : Nl.Env → Nl.Store → Res Val) : TI := fun σ H R => ∃ (P : Addr → Prop) (ρ : List Addr) (st : Nl.Store) (env : Nl.Env), Rel K N P ρ st H ∧ EnvRep K N ρ (Lv P ρ st) H env σ ∧
  Post K N P ρ st H (f env st) (fun v ρ' st' H' => ∃ g xs, walked st' v = some (g, xs) ∧ ∀ J, Walk K N P J g xs ρ' st' H' → R J H') (exW N W σ)
section
variable {X : Cx} {N : Nm} {T : Tab} {M : Md} {L : List Str} {sc : Scope} {W : WX} {cl mk : CallS} {tg e : Expr}
theorem pi_val {f : Nl.Env → Nl.Store → Res Val} (he : PE X e (tR X.K N W f)) : PI X tg e (tW X.K N W f) := by
  refine ⟨fun pins s σ H R I ⟨P, ρ, st, env, Rl, E, h⟩ => ?_⟩
  refine thn (he.run pins s σ H (fun w H1 => (∃ a, w = .ref a ∧ (∃ vs, SqL X.K H1 a vs) ∧ R (Itl X.K a) H1) ∨ (∃ a, w = .ref a ∧ (∃ vs, SqT X.K H1 a vs) ∧ R (Itt X.K a) H1) ∨ (∃ x, w = .str x ∧ R (Its x) H1)) I ⟨P, ρ, st, env, Rl, E, h.mono fun v ρ' st' H' _ g ⟨gx, xs, ew, k⟩ w hw => ?_⟩) fun v s1 ⟨w, H1, I1, r1, q⟩ => ?_
  · unfold walked at ew
    split at ew
    · split at ew
      · rename_i hst
        cases ew
        obtain ⟨a, rfl, q, wk⟩ := walk_ref g.rel hst hw
        exact .inl ⟨a, rfl, q, k _ wk⟩
      · cases ew
    · cases ew
      obtain ⟨a, rfl, q, wk⟩ := walk_tup g.rel hw
      exact .inr (.inl ⟨a, rfl, q, k _ wk⟩)
    · cases ew
      obtain ⟨a, rfl, q, wk⟩ := walk_lst g.rel hw
      exact .inl ⟨a, rfl, q, k _ wk⟩
    · cases ew
      simp only [Rep] at hw
      exact .inr (.inr ⟨_, hw, k _ walk_str⟩)
    · cases ew
  · have one : ∀ (o : Obj) {J : It} {tn : Nat → Heap → Prop}, Turn X.prog X.w X.K tg J [s1.heap.objs.size] s1.heap.objs.size tn → tn 0 (s1.heap.push o) → R J H1 → PIE X pins σ tg R (.ref s1.heap.objs.size) { s1 with heap := s1.heap.push o } :=
      fun o {J tn} tt st q => pi_one (tk := s1.toks) I1 o tt st q
    rcases q with ⟨a, rfl, ⟨vs, hv⟩, q⟩ | ⟨a, rfl, ⟨vs, hv⟩, q⟩ | ⟨x, rfl, q⟩
    · obtain rfl := r1
      obtain ⟨its, rv, p, hz⟩ := I1.list hv
      exact wpAny_pyIter_list p.isList (one _ (turn_list a _) ⟨_, Heap.get?_push_size _ rfl, rfl, rfl⟩ q)
    · obtain rfl := r1
      obtain ⟨its, rv, p, hz⟩ := I1.tuple hv
      exact wpAny_pyIter_tuple (show s1.heap.IsTuple a its.toArray from p) (one _ (turn_tuple a _) ⟨_, Heap.get?_push_size _ rfl, rfl, rfl⟩ q)
    · obtain ⟨t, rfl⟩ := r1
      cases ha : x.cps.all (· < 128)
      · exact wpAny_pyIter_wide ha (one _ (turn_str _ x t "str_iterator" (.inr rfl)) ⟨_, Heap.get?_push_size _ rfl, rfl, rfl⟩ q)
      · exact wpAny_pyIter_ascii ha (one _ (turn_str _ x t "str_ascii_iterator" (.inl rfl)) ⟨_, Heap.get?_push_size _ rfl, rfl, rfl⟩ q)
/-- enumerate(e) -/
theorem pi_enumN {x : Ex} {p pos : Pos} (ht : isTup tg = true) (hg : Gl X "enumerate") (hm : X.mg "enumerate" = none) (hst : notStar e = true) (ha : PA X [e] (tRs X.K N W (evs T cl mk [x]))) :
    PI X tg (.Call (.Name "enumerate" p) [e] [] pos) (tW X.K N W (ev T cl mk (.bi .enum [x]))) := by
  cases tg with
  | Tuple elts kk tpos =>
    refine ⟨fun pins s σ H R I ⟨P, ρ, st, env, Rl, E, h⟩ => ?_⟩
    simp only [ev] at h
    have ta : tRs X.K N W (evs T cl mk [x]) σ H (fun vs H1 => ∃ y, vs = [.str y] ∧ R (Ites y) H1) := tRs_bind Rl E h fun v ρ' st' H' w g R' _ hw hp => by
      obtain ⟨z, hz, hk⟩ := hp.opt
      replace hz : biEnum (v.map (rdI st')) = some z := hz
      obtain ⟨gx, xs, e1, e2⟩ := hk ρ' H' (.refl R')
      cases v with
      | nil => cases hz
      | cons v0 vr =>
        cases vr with
        | cons _ _ => simp [biEnum] at hz
        | nil =>
          simp only [Reps] at hw
          obtain ⟨w0, _, rfl, hw0, rfl⟩ := hw
          have vi := viewI R' hw0
          replace hz : biEnum [rdI st' v0] = some z := hz
          revert vi hz
          generalize rdI st' v0 = y
          intro vi hz
          unfold biEnum at hz
          split at hz
          · rename_i y0 ey
            cases ey
            cases hz
            cases e1
            simp only [ViewI, Rep] at vi
            subst vi
            exact ⟨_, rfl, e2 _ walk_enums⟩
          · cases hz
    have hs : starEach [e] X.env = [(false, eval e X.env)] := star_cons hst [] X.env
    refine Call_ (ld_blt I hg hm boot_enumerate (PyProof.Rows.callWith_type1 (thn (ha.run pos pins s σ H _ I ta) fun us s1 ⟨vs, H1, I1, r1, q1⟩ => ?_) hs rfl))
    · obtain ⟨y, ex, q⟩ := q1
      subst ex
      obtain ⟨u, rfl, ru⟩ := vals1 r1
      obtain ⟨t, rfl⟩ := ru
      refine call_enumerate_str fun h' he hit hsz hk => wpAny_pyIter_enum he ?_
      have I2 : Inv X pins σ H1 { s1 with heap := h' } := I1.kept (t' := s1.toks) hk
      refine ⟨s1.heap.objs.size + 1, [s1.heap.objs.size + 1, s1.heap.objs.size], _, _, H1, rfl, I2, turn_enums y t (s1.heap.objs.size + 1) s1.heap.objs.size, ⟨⟨.none, he⟩, hit, Nat.succ_ne_self _⟩, fun b hb => ?_, q⟩
      have hle : s1.heap.objs.size ≤ b := by
        simp only [List.mem_cons, List.not_mem_nil, or_false] at hb
        rcases hb with rfl | rfl
        · exact Nat.le_succ _
        · exact Nat.le_refl _
      exact I1.fpOk hle (I1.hok.fresh hle)
  | _ => simp [isTup] at ht
end
end Nlx
end
section
set_option Elab.async false
set_option linter.all false
set_option maxRecDepth 100000
set_option maxHeartbeats 8000000
/-! NlSnd3: expressions of the core language are kept by the machine. -/
namespace Nlx
open PySem PySem.Spec PyProof.Rows L2 Nl
structure Hy (X : Cx) (N : Nm) (T : Tab) (M : Md) (L : List Str) (sc : Scope) (W : WX) (k : Nat) (cl mk : CallS) : Prop where
  F : Fm X.w X.K X.mg X.base N T M
  cal : CallOk X.prog X.w X.K X.mg X.base N k N.fa cl
  mak : CallOk X.prog X.w X.K X.mg X.base N k N.ca mk
  ok : XOk X M L sc W k
section
variable (N : Nm) (T : Tab) (M : Md) (L : List Str) (k : Nat) (cl mk : CallS)
def GE (x : Ex) : Prop := ∀ (X : Cx) (sc : Scope) (W : WX) (e : Expr), Hy X N T M L sc W k cl mk → chkE M L x false sc e = true → PE X e (tR X.K N W (ev T cl mk x)) ∧ (tstOk x = true → PT X e (tRb X.K N W fun env st => (ev T cl mk x env st).bind asBool))
def GW (x : Ex) : Prop := ∀ (X : Cx) (sc : Scope) (W : WX) (e tg : Expr), Hy X N T M L sc W k cl mk → chkE M L x true sc e = true → enumTg x tg = true → PI X tg e (tW X.K N W (ev T cl mk x))
def GS (xs : List Ex) : Prop := ∀ (X : Cx) (sc : Scope) (W : WX) (es : List Expr), Hy X N T M L sc W k cl mk → chkEs M L xs sc es = true → PA X es (tRs X.K N W (evs T cl mk xs))
end
section
variable {X : Cx} {N : Nm} {T : Tab} {M : Md} {L : List Str} {sc : Scope} {W : WX} {k : Nat} {cl mk : CallS} {e : Expr}
theorem asBool_post {K : PySem.W.Frag} {P : Addr → Prop} {ρ : List Addr} {st : Nl.Store} {H : Hp} {d : Val} {w : V} {β : Type} {f : Bool → Nl.Store → Res β} {Q : β → List Addr → Nl.Store → Hp → Prop} {X : Nat → Addr → Hp → Prop} {Lx : Addr → Prop} (hw : Rep K N ρ Lx H d w) (h : Post K N P ρ st H ((asBool d st).bind f) Q X) : ∃ b, w = .bl b ∧ d = .bl b ∧ Post K N P ρ st H (f b st) Q X := by
  cases d with
  | bl b => simp only [Rep] at hw; exact ⟨b, hw, rfl, h⟩
  | _ => exact h.elim
theorem asBool_last {K : PySem.W.Frag} {P : Addr → Prop} {ρ : List Addr} {st : Nl.Store} {H : Hp} {d : Val} {w : V} {Q : Bool → List Addr → Nl.Store → Hp → Prop} {X : Nat → Addr → Hp → Prop} {Lx : Addr → Prop} (R : Rel K N P ρ st H) (hw : Rep K N ρ Lx H d w) (h : Post K N P ρ st H (asBool d st) Q X) : ∃ b, w = .bl b ∧ d = .bl b ∧ Q b ρ st H := by
  cases d with
  | bl b => simp only [Rep] at hw; exact ⟨b, hw, rfl, h ρ H (.refl R)⟩
  | _ => exact h.elim
theorem pt_of {f : Nl.Env → Nl.Store → Res Val} (h : PE X e (tR X.K N W f)) (he : ∀ whole, isTrue e X.env whole = (do let v ← whole; standAt e.pos; holding [v] (truthy v))) : PT X e (tRb X.K N W fun env st => (f env st).bind asBool) :=
  (pt_val h he).imp fun σ H Q ⟨P, ρ, st, env, R, E, hh⟩ => tR_bind R E hh fun v ρ' st' H' w _ R' _ hw hp => let ⟨b, e1, _, e3⟩ := asBool_last R' hw hp; ⟨b, e1, e3⟩
theorem g_neg {a : Ex} (ha : GE N T M L k cl mk a) : GE N T M L k cl mk (.neg a) := by
  intro X sc W e h c
  cases e <;> (try (simp only [chkE, Bool.false_eq_true] at c; done))
  rename_i op a' pos
  cases op <;> (try (simp only [chkE, Bool.false_eq_true] at c; done))
  simp only [chkE] at c
  have key : PE X (.UnaryOp .USub a' pos) (tR X.K N W (ev T cl mk (.neg a))) := (pe_un un_neg (ha X sc W a' h c).1).imp fun σ H Q ⟨P, ρ, st, env, R, E, hh⟩ => by
    simp only [ev] at hh
    refine tR_bind R E hh fun v ρ' st' H' w _ R' _ hw hp => ?_
    split at hp
    · simp only [Rep] at hw
      exact ⟨_, hw, hp.okv R' (by simp only [Rep])⟩
    · exact hp.elim
  exact ⟨key, fun _ => pt_of key fun _ => rfl⟩

theorem g_var {i : Nat} : GE N T M L k cl mk (.var i) := by
  intro X sc W e h c
  cases e <;> (try (simp only [chkE, Bool.false_eq_true] at c; done))
  rename_i n pos
  simp only [chkE, Bool.and_eq_true, decide_eq_true_eq] at c
  obtain ⟨⟨c1, c2⟩, c3⟩ := c
  unfold nmOk at c3
  simp only [Bool.and_eq_true, Bool.not_eq_true'] at c3
  have key : PE X (.Name n pos) (tR X.K N W (ev T cl mk (.var i))) := (pe_var (i := i) (by rw [h.ok.nm]; exact c1) (h.ok.hsc.vis c2) c3.1 c3.2).imp fun σ H Q ⟨P, ρ, st, env, R, E, hh⟩ => by
    simp only [ev] at hh
    split at hh
    · rename_i v hv
      obtain ⟨w, e1, e2⟩ := E.2 i v hv
      exact ⟨w, e1, hh.okv R e2⟩
    · exact hh.elim
  exact ⟨key, fun _ => pt_of key fun _ => rfl⟩
theorem g_cst {v : Val} : GE N T M L k cl mk (.cst v) := by
  intro X sc W e h c
  have fin : ∀ {w : V} {σ : L2.St} {H : Hp} {Q : VK}, (∀ ρ L H, Rep X.K N ρ L H v w) → tR X.K N W (ev T cl mk (.cst v)) σ H Q → tC w σ H Q := fun {w σ H Q} hw ⟨P, ρ, st, env, R, E, hh⟩ => by
    simp only [ev] at hh
    exact hh.okv R (hw _ _ _)
  replace c : cstB v e = true := by simpa only [chkE] using c
  cases e <;> (try (simp only [cstB, Bool.false_eq_true] at c; done))
  rename_i q k0 pos
  have key : PE X (.Constant q k0 pos) (tR X.K N W (ev T cl mk (.cst v))) := by
    cases q <;> (try (simp only [cstB, Bool.false_eq_true] at c; done))
    · cases v <;> (try (simp only [cstB, Bool.false_eq_true] at c; done))
      exact pe_non.imp fun σ H Q q => fin (fun _ _ _ => by simp only [Rep]) q
    · rename_i b
      cases v <;> (try (simp only [cstB, Bool.false_eq_true] at c; done))
      simp only [cstB, beq_iff_eq] at c
      subst c
      exact pe_bl.imp fun σ H Q q => fin (fun _ _ _ => by simp only [Rep]) q
    · rename_i b
      cases v <;> (try (simp only [cstB, Bool.false_eq_true] at c; done))
      simp only [cstB, decide_eq_true_eq] at c
      subst c
      exact pe_int.imp fun σ H Q q => fin (fun _ _ _ => by simp only [Rep]) q
    · rename_i b
      cases v <;> (try (simp only [cstB, Bool.false_eq_true] at c; done))
      simp only [cstB, decide_eq_true_eq] at c
      subst c
      exact pe_str.imp fun σ H Q q => fin (fun _ _ _ => by simp only [Rep, S_of]) q
  exact ⟨key, fun _ => pt_of key fun _ => rfl⟩
theorem g_glo {g : Nat} : GE N T M L k cl mk (.glo g) := by
  intro X sc W e h c
  cases e <;> (try (simp only [chkE, Bool.false_eq_true] at c; done))
  rename_i n pos
  simp only [chkE, gnOk, Bool.and_eq_true, decide_eq_true_eq, Bool.not_eq_true'] at c
  obtain ⟨c1, c2, c3⟩ := c
  obtain ⟨d, v, u, e1, e2, e3, e4⟩ := h.F.glo n g c1
  have key : PE X (.Name n pos) (tR X.K N W (ev T cl mk (.glo g))) := (pe_glob (gl_of h.ok.hsc c2) e2 e3 c3).imp fun σ H Q ⟨P, ρ, st, env, R, E, hh⟩ => by
    simp only [ev, e1, Res.opt_some] at hh
    exact hh.okv R (e4 _ _ _)
  exact ⟨key, fun _ => pt_of key fun _ => rfl⟩
theorem g_bin {o : Bop} {a b : Ex} (ha : GE N T M L k cl mk a) (hb : GE N T M L k cl mk b) : GE N T M L k cl mk (.bin o a b) := by
  intro X sc W e h c
  cases e <;> (try (simp only [chkE, Bool.false_eq_true] at c; done))
  rename_i a' p b' pos
  simp only [chkE, Bool.and_eq_true] at c
  obtain ⟨⟨c1, c2⟩, c3⟩ := c
  have := opB_of c1
  subst this
  have key : PE X (.BinOp a' (bopOf o) b' pos) (tR X.K N W (ev T cl mk (.bin o a b))) := (pe_op (op_bin o) (ha X sc W a' h c2).1 (hb X sc W b' h c3).1).imp fun σ H Q ⟨P, ρ, st, env, R, E, hh⟩ => by
    simp only [ev] at hh
    refine tR_bind R E hh fun v ρ' st' H' w g R' E' hw hp => tR_bind R' E' hp fun v2 ρ2 st2 H2 w2 g2 R2 E2 hw2 hp2 => ?_
    obtain ⟨z, hz, hk⟩ := hp2.optv
    exact ⟨P, ρ2, st2, v, v2, R2, hw.grow R' g2.grow _ _, hw2, z, hz, hk⟩
  exact ⟨key, fun _ => pt_of key fun _ => rfl⟩
theorem g_cmp {o : Cop} {a b : Ex} (ha : GE N T M L k cl mk a) (hb : GE N T M L k cl mk b) : GE N T M L k cl mk (.cmp o a b) := by
  intro X sc W e h c
  cases e <;> (try (simp only [chkE, Bool.false_eq_true] at c; done))
  rename_i a' ops es pos
  cases ops <;> (try (simp only [chkE, Bool.false_eq_true] at c; done))
  rename_i p ops
  cases ops <;> (try (simp only [chkE, Bool.false_eq_true] at c; done))
  cases es <;> (try (simp only [chkE, Bool.false_eq_true] at c; done))
  rename_i b' es
  cases es <;> (try (simp only [chkE, Bool.false_eq_true] at c; done))
  simp only [chkE, Bool.and_eq_true, Bool.not_eq_true'] at c
  obtain ⟨⟨⟨c1, c2⟩, c3⟩, c4⟩ := c
  have := cmB_of c1
  subst this
  have hu : X.A.units + 150 < cLine := by have := h.ok.room.un; omega
  have red : ∀ {σ H} {Q : VK}, tR X.K N W (ev T cl mk (.cmp o a b)) σ H Q → tOp (rVal X.K N fun st d e => (cmpV o (rd st d) (rd st e)).map .bl) (tR X.K N W (ev T cl mk a)) (tR X.K N W (ev T cl mk b)) σ H Q := fun {σ H Q} ⟨P, ρ, st, env, R, E, hh⟩ => by
    simp only [ev] at hh
    refine tR_bind R E hh fun v ρ' st' H' w g R' E' hw hp => tR_bind R' E' hp fun v2 ρ2 st2 H2 w2 g2 R2 E2 hw2 hp2 => ?_
    obtain ⟨z, hz, hk⟩ := hp2.optv
    exact ⟨P, ρ2, st2, v, v2, R2, hw.grow R' g2.grow _ _, hw2, z, hz, hk⟩
  refine ⟨(pe_cmpR (op_cmp h.F.hw hu o) (ha X sc W a' h c3).1 (hb X sc W b' h c4).1 c2).imp fun σ H Q q => red q, fun _ => (pt_cmpR (op_cmp h.F.hw hu o) (ha X sc W a' h c3).1 (hb X sc W b' h c4).1 c2).imp fun σ H Q ⟨P, ρ, st, env, R, E, hh⟩ => ?_⟩
  exact red (tR_bind R E hh fun v ρ' st' H' w g R' E' hw hp => let ⟨b, e1, _, e3⟩ := asBool_last R' hw hp; ⟨b, e1, e3⟩)
theorem g_chn {o o2 : Cop} {a b d : Ex} (ha : GE N T M L k cl mk a) (hb : GE N T M L k cl mk b) (hd : GE N T M L k cl mk d) : GE N T M L k cl mk (.chn o o2 a b d) := by
  intro X sc W e h c
  cases e <;> (try (simp only [chkE, Bool.false_eq_true] at c; done))
  rename_i a' ops es pos
  cases ops <;> (try (simp only [chkE, Bool.false_eq_true] at c; done))
  rename_i p ops
  cases ops <;> (try (simp only [chkE, Bool.false_eq_true] at c; done))
  rename_i p2 ops
  cases ops <;> (try (simp only [chkE, Bool.false_eq_true] at c; done))
  cases es <;> (try (simp only [chkE, Bool.false_eq_true] at c; done))
  rename_i b' es
  cases es <;> (try (simp only [chkE, Bool.false_eq_true] at c; done))
  rename_i d' es
  cases es <;> (try (simp only [chkE, Bool.false_eq_true] at c; done))
  simp only [chkE, Bool.and_eq_true, Bool.not_eq_true'] at c
  obtain ⟨⟨⟨⟨⟨c1, c0⟩, c2⟩, c3⟩, c4⟩, c5⟩ := c
  have := cmB_of c1
  subst this
  have := cmB_of c0
  subst this
  have hu : X.A.units + 150 < cLine := by have := h.ok.room.un; omega
  have red : ∀ {σ H} {Q : VK}, tR X.K N W (ev T cl mk (.chn o o2 a b d)) σ H Q → tChain (rVal X.K N fun st d e => (cmpV o (rd st d) (rd st e)).map .bl) (rVal X.K N fun st d e => (cmpV o2 (rd st d) (rd st e)).map .bl) (tR X.K N W (ev T cl mk a)) (tR X.K N W (ev T cl mk b)) (tR X.K N W (ev T cl mk d)) σ H Q := fun {σ H Q} ⟨P, ρ, st, env, R, E, hh⟩ => by
    simp only [ev] at hh
    refine tR_bind R E hh fun v ρ' st' H' w g R' E' hw hp => tR_bind R' E' hp fun v2 ρ2 st2 H2 w2 g2 R2 E2 hw2 hp2 => ?_
    have hw' := hw.grow R' g2.grow _ _
    refine ⟨P, ρ2, st2, v, v2, R2, hw', hw2, ?_⟩
    split at hp2
    · rename_i hcm
      refine ⟨.bl true, by show (cmpV o (rd st2 v) (rd st2 v2)).map Val.bl = _; rw [hcm]; rfl, fun ρ3 H3 g3 w3 hw3 => ?_⟩
      simp only [Rep] at hw3
      subst hw3
      refine ⟨true, rfl, ?_⟩
      rw [if_pos rfl]
      refine tR_bind g3.rel (E2.step R2 g3) (hp2.frm g3) fun v4 ρ4 st4 H4 w4 g4 R4 E4 hw4 hp4 => ?_
      obtain ⟨z, hz, hk⟩ := hp4.optv
      exact ⟨P, ρ4, st4, v2, v4, R4, (hw2.grow R2 g3.grow _ _).grow g3.rel g4.grow _ _, hw4, z, hz, hk⟩
    · rename_i hcm
      refine ⟨.bl false, by show (cmpV o (rd st2 v) (rd st2 v2)).map Val.bl = _; rw [hcm]; rfl, fun ρ3 H3 g3 w3 hw3 => ?_⟩
      simp only [Rep] at hw3
      subst hw3
      refine ⟨false, rfl, ?_⟩
      rw [if_neg Bool.false_ne_true]
      exact hp2 ρ3 H3 g3 _ (by simp only [Rep])
    · exact hp2.elim
  refine ⟨(pe_chain (op_cmp h.F.hw hu o) (op_cmp h.F.hw hu o2) (ha X sc W a' h c3).1 (hb X sc W b' h c4).1 (hd X sc W d' h c5).1 c2).imp fun σ H Q q => red q, fun _ => (pt_chain (op_cmp h.F.hw hu o) (op_cmp h.F.hw hu o2) (ha X sc W a' h c3).1 (hb X sc W b' h c4).1 (hd X sc W d' h c5).1 c2).imp fun σ H Q ⟨P, ρ, st, env, R, E, hh⟩ => ?_⟩
  exact red (tR_bind R E hh fun v ρ' st' H' w g R' E' hw hp => let ⟨b, e1, _, e3⟩ := asBool_last R' hw hp; ⟨b, e1, e3⟩)
theorem g_not {a : Ex} (ha : GE N T M L k cl mk a) : GE N T M L k cl mk (.not a) := by
  intro X sc W e h c
  cases e <;> (try (simp only [chkE, Bool.false_eq_true] at c; done))
  rename_i op a' pos
  cases op <;> (try (simp only [chkE, Bool.false_eq_true] at c; done))
  simp only [chkE] at c
  obtain ⟨h1, h2⟩ := ha X sc W a' h c
  refine ⟨(pe_not h1).imp fun σ H Q ⟨P, ρ, st, env, R, E, hh⟩ => ?_, fun ht => (pt_not (h2 ht)).imp fun σ H Q ⟨P, ρ, st, env, R, E, hh⟩ => ?_⟩
  · simp only [ev] at hh
    refine tR_bind R E hh fun v ρ' st' H' w _ R' _ hw hp => ?_
    obtain ⟨b, e1, _, e3⟩ := asBool_post hw hp
    exact ⟨b, e1, e3.okv R' (by simp only [Rep])⟩
  · simp only [ev] at hh
    refine ⟨P, ρ, st, env, R, E, ?_⟩
    have : (((ev T cl mk a env st).bind fun x s => (asBool x s).bind fun k s => Res.ok (Val.bl !k) s).bind asBool) = ((ev T cl mk a env st).bind asBool).bind fun k s => Res.ok (!k) s := by
      cases ev T cl mk a env st with
      | ok v s => cases v <;> rfl
      | exc _ _ _ => rfl
      | stuck => rfl
    rw [this] at hh
    exact hh.bind.mono fun b ρ' st' H' _ g q => q ρ' H' (.refl g.rel)
theorem boolop_pw {op : BoolOp} {vs : List Expr} {pos : Pos} {t : TT} (h : PT X (.BoolOp op vs pos) t) : PW X (.BoolOp op vs pos) t := ⟨fun whole pins s σ H Q I q => h.run pins s σ H Q I q⟩
theorem and_bind {a b : Ex} {env : Nl.Env} {st : Nl.Store} : (ev T cl mk (.and a b) env st).bind asBool = ((ev T cl mk a env st).bind asBool).bind fun k s => if k then (ev T cl mk b env s).bind asBool else .ok false s := by
  simp only [ev]
  cases ev T cl mk a env st with
  | ok v s =>
    cases v with
    | bl b => cases b <;> rfl
    | _ => rfl
  | exc _ _ _ => rfl
  | stuck => rfl
theorem or_bind {a b : Ex} {env : Nl.Env} {st : Nl.Store} : (ev T cl mk (.or a b) env st).bind asBool = ((ev T cl mk a env st).bind asBool).bind fun k s => if k then .ok true s else (ev T cl mk b env s).bind asBool := by
  simp only [ev]
  cases ev T cl mk a env st with
  | ok v s =>
    cases v with
    | bl b => cases b <;> rfl
    | _ => rfl
  | exc _ _ _ => rfl
  | stuck => rfl
theorem g_and {a b : Ex} (ha : GE N T M L k cl mk a) (hb : GE N T M L k cl mk b) : GE N T M L k cl mk (.and a b) := by
  intro X sc W e h c
  cases e <;> (try (simp only [chkE, Bool.false_eq_true] at c; done))
  rename_i op vs pos
  cases op <;> (try (simp only [chkE, Bool.false_eq_true] at c; done))
  cases vs <;> (try (simp only [chkE, Bool.false_eq_true] at c; done))
  rename_i a' vs
  cases vs <;> (try (simp only [chkE, Bool.false_eq_true] at c; done))
  rename_i b' rest
  simp only [chkE, Bool.and_eq_true] at c
  obtain ⟨h1, h2⟩ := ha X sc W a' h c.1
  have hB : PE X (.BoolOp .And (b' :: rest) pos) (tR X.K N W (ev T cl mk b)) ∧ (tstOk b = true → PW X (.BoolOp .And (b' :: rest) pos) (tRb X.K N W fun env st => (ev T cl mk b env st).bind asBool)) := by
    cases rest with
    | nil => exact ⟨pe_one (hb X sc W _ h c.2).1, fun ht => pw_and1 ((hb X sc W _ h c.2).2 ht)⟩
    | cons r rs => exact ⟨(hb X sc W _ h c.2).1, fun ht => boolop_pw ((hb X sc W _ h c.2).2 ht)⟩
  refine ⟨(pe_and h1 hB.1).imp fun σ H Q ⟨P, ρ, st, env, R, E, hh⟩ => ?_, fun ht => ?_⟩
  · simp only [ev] at hh
    refine tR_bind R E hh fun v ρ' st' H' w g R' E' hw hp => ?_
    obtain ⟨d, e1, _, e3⟩ := asBool_post hw hp
    refine ⟨d, e1, ?_⟩
    cases d with
    | true => exact tR_last R' E' e3
    | false => exact e3.okv R' (by simp only [Rep])
  · simp only [tstOk, Bool.and_eq_true] at ht
    refine (pw_and (h2 ht.1) (hB.2 ht.2)).pt.imp fun σ H Q ⟨P, ρ, st, env, R, E, hh⟩ => ?_
    dsimp only at hh
    rw [and_bind] at hh
    refine tRb_bind R E hh fun d ρ' st' H' g R' E' hp => ?_
    cases d with
    | true => exact ⟨P, ρ', st', env, R', E', hp⟩
    | false => exact hp ρ' H' (.refl R')
theorem g_or {a b : Ex} (ha : GE N T M L k cl mk a) (hb : GE N T M L k cl mk b) : GE N T M L k cl mk (.or a b) := by
  intro X sc W e h c
  cases e <;> (try (simp only [chkE, Bool.false_eq_true] at c; done))
  rename_i op vs pos
  cases op <;> (try (simp only [chkE, Bool.false_eq_true] at c; done))
  cases vs <;> (try (simp only [chkE, Bool.false_eq_true] at c; done))
  rename_i a' vs
  cases vs <;> (try (simp only [chkE, Bool.false_eq_true] at c; done))
  rename_i b' rest
  simp only [chkE, Bool.and_eq_true] at c
  obtain ⟨h1, h2⟩ := ha X sc W a' h c.1
  have hB : PE X (.BoolOp .Or (b' :: rest) pos) (tR X.K N W (ev T cl mk b)) ∧ (tstOk b = true → PW X (.BoolOp .Or (b' :: rest) pos) (tRb X.K N W fun env st => (ev T cl mk b env st).bind asBool)) := by
    cases rest with
    | nil => exact ⟨pe_one (hb X sc W _ h c.2).1, fun ht => pw_or1 ((hb X sc W _ h c.2).2 ht)⟩
    | cons r rs => exact ⟨(hb X sc W _ h c.2).1, fun ht => boolop_pw ((hb X sc W _ h c.2).2 ht)⟩
  refine ⟨(pe_or h1 hB.1).imp fun σ H Q ⟨P, ρ, st, env, R, E, hh⟩ => ?_, fun ht => ?_⟩
  · simp only [ev] at hh
    refine tR_bind R E hh fun v ρ' st' H' w g R' E' hw hp => ?_
    obtain ⟨d, e1, _, e3⟩ := asBool_post hw hp
    refine ⟨d, e1, ?_⟩
    cases d with
    | false => exact tR_last R' E' e3
    | true => exact e3.okv R' (by simp only [Rep])
  · simp only [tstOk, Bool.and_eq_true] at ht
    refine (pw_or (h2 ht.1) (hB.2 ht.2)).pt.imp fun σ H Q ⟨P, ρ, st, env, R, E, hh⟩ => ?_
    dsimp only at hh
    rw [or_bind] at hh
    refine tRb_bind R E hh fun d ρ' st' H' g R' E' hp => ?_
    cases d with
    | false => exact ⟨P, ρ', st', env, R', E', hp⟩
    | true => exact hp ρ' H' (.refl R')
theorem g_ife {q a b : Ex} (hq : GE N T M L k cl mk q) (ha : GE N T M L k cl mk a) (hb : GE N T M L k cl mk b) : GE N T M L k cl mk (.ife q a b) := by
  intro X sc W e h c
  cases e <;> (try (simp only [chkE, Bool.false_eq_true] at c; done))
  rename_i q' a' b' pos
  simp only [chkE, Bool.and_eq_true] at c
  obtain ⟨⟨⟨c0, c1⟩, c2⟩, c3⟩ := c
  refine ⟨(pe_ifExp ((hq X sc W q' h c1).2 c0) (ha X sc W a' h c2).1 (hb X sc W b' h c3).1).imp fun σ H Q ⟨P, ρ, st, env, R, E, hh⟩ => ?_, fun ht => by simp [tstOk] at ht⟩
  simp only [ev] at hh
  have : ((ev T cl mk q env st).bind fun x s => (asBool x s).bind fun k s => if k = true then ev T cl mk a env s else ev T cl mk b env s) = ((ev T cl mk q env st).bind asBool).bind fun k s => if k = true then ev T cl mk a env s else ev T cl mk b env s := by
    cases ev T cl mk q env st with
    | ok v s => cases v <;> rfl
    | exc _ _ _ => rfl
    | stuck => rfl
  rw [this] at hh
  refine tRb_bind R E hh fun d ρ' st' H' g R' E' hp => ?_
  cases d with
  | true => exact tR_last R' E' hp
  | false => exact tR_last R' E' hp
end
end Nlx
end
section
set_option Elab.async false
set_option linter.all false
set_option maxRecDepth 100000
set_option maxHeartbeats 8000000
/-! NlSnd4: displays, subscripts, fields, calls. -/
namespace Nlx
open PySem PySem.Spec PyProof.Rows L2 Nl
section
variable {X : Cx} {N : Nm} {T : Tab} {M : Md} {L : List Str} {sc : Scope} {W : WX} {k : Nat} {cl mk : CallS} {e : Expr}
theorem evs_len : ∀ {xs : List Ex} {env : Nl.Env} {st : Nl.Store} {vs : List Val} {s : Nl.Store}, evs T cl mk xs env st = .ok vs s → vs.length = xs.length
  | [], env, st, vs, s, h => by simp only [evs] at h; cases h; rfl
  | x :: xs, env, st, vs, s, h => by
    simp only [evs] at h
    cases h1 : ev T cl mk x env st with
    | ok v s1 =>
      rw [h1] at h
      simp only [Res.bind_ok] at h
      cases h2 : evs T cl mk xs env s1 with
      | ok ws s2 =>
        rw [h2] at h
        simp only [Res.bind_ok] at h
        cases h
        simp [evs_len h2]
      | exc _ _ _ => rw [h2] at h; cases h
      | stuck => rw [h2] at h; cases h
    | exc _ _ _ => rw [h1] at h; cases h
    | stuck => rw [h1] at h; cases h
theorem tRs_bindE {K : PySem.W.Frag} {P : Addr → Prop} {ρ : List Addr} {st : Nl.Store} {H : Hp} {env : Nl.Env} {σ : L2.St} {β : Type} {g : Nl.Env → Nl.Store → Res (List Val)} {f : List Val → Nl.Store → Res β} {Q' : β → List Addr → Nl.Store → Hp → Prop} {Q : List V → Hp → Prop} (R : Rel K N P ρ st H) (E : EnvRep K N ρ (Lv P ρ st) H env σ) (h : Post K N P ρ st H ((g env st).bind f) Q' (exW N W σ))
    (k : ∀ v ρ' st' H' w, g env st = .ok v st' → Step K N P ρ st H ρ' st' H' → Rel K N P ρ' st' H' → EnvRep K N ρ' (Lv P ρ' st') H' env σ → Reps K N ρ' (Lv P ρ' st') H' v w → Post K N P ρ' st' H' (f v st') Q' (exW N W σ) → Q w H') : tRs K N W g σ H Q :=
  ⟨P, ρ, st, env, R, E, h.bind.mono fun v ρ' st' H' e g hp w hw => k v ρ' st' H' w e g g.rel (E.step R g) hw hp⟩
theorem size1000 {n : Nat} (h : n ≤ 1000) : n ≤ sizeLine := Nat.le_trans h (by rw [sizeLine_eq]; decide)
theorem g_nil : GS N T M L k cl mk [] := by
  intro X sc W es h c
  cases es with
  | cons e es => simp [chkEs] at c
  | nil =>
    refine pa_nil.imp fun σ H Q ⟨P, ρ, st, env, R, E, hh⟩ => ?_
    simp only [evs] at hh
    exact hh ρ H (.refl R) [] .nil
theorem g_cons {x : Ex} {xs : List Ex} (hx : GE N T M L k cl mk x) (hxs : GS N T M L k cl mk xs) : GS N T M L k cl mk (x :: xs) := by
  intro X sc W es h c
  cases es with
  | nil => simp [chkEs] at c
  | cons e es =>
    simp only [chkEs, Bool.and_eq_true] at c
    obtain ⟨⟨c1, c2⟩, c3⟩ := c
    exact (pa_cons (hx X sc W e h c2).1 (hxs X sc W es h c3) (star_cons c1 _ _)).imp fun σ H Q ⟨P, ρ, st, env, R, E, hh⟩ => by
      simp only [evs] at hh
      refine tR_bind R E hh fun v ρ' st' H' w g R' E' hw hp => tRs_bind R' E' hp fun vs ρ2 st2 H2 ws g2 R2 E2 hws hp2 => ?_
      exact hp2 ρ2 H2 (.refl R2) (w :: ws) (.cons (hw.grow R' g2.grow _ _) hws)
theorem g_tup {xs : List Ex} (hxs : GS N T M L k cl mk xs) : GE N T M L k cl mk (.tup xs) := by
  intro X sc W e h c
  cases e <;> (try (simp only [chkE, Bool.false_eq_true] at c; done))
  rename_i es k0 pos
  simp only [chkE, Bool.and_eq_true, decide_eq_true_eq] at c
  have key : PE X (.Tuple es k0 pos) (tR X.K N W (ev T cl mk (.tup xs))) := (pe_tup (hxs X sc W es h c.2)).imp fun σ H Q ⟨P, ρ, st, env, R, E, hh⟩ => by
    simp only [ev] at hh
    refine tRs_bindE R E hh fun v ρ' st' H' w ee g R' E' hw hp => ⟨by rw [← hw.length, evs_len ee]; exact size1000 c.1, fun p hp0 => hp ρ' _ (.laid R' hp0) _ (rep_newTup R' hp0 hw)⟩
  exact ⟨key, fun _ => pt_of key fun _ => rfl⟩
theorem g_lst {xs : List Ex} (hxs : GS N T M L k cl mk xs) : GE N T M L k cl mk (.lst xs) := by
  intro X sc W e h c
  cases e <;> (try (simp only [chkE, Bool.false_eq_true] at c; done))
  rename_i es pos
  simp only [chkE, Bool.and_eq_true, decide_eq_true_eq] at c
  have key : PE X (.List es pos) (tR X.K N W (ev T cl mk (.lst xs))) := (pe_lst (hxs X sc W es h c.2)).imp fun σ H Q ⟨P, ρ, st, env, R, E, hh⟩ => by
    simp only [ev] at hh
    refine tRs_bindE R E hh fun v ρ' st' H' w ee g R' E' hw hp => ⟨by rw [← hw.length, evs_len ee]; exact size1000 c.1, fun p hp0 => hp ρ' _ (.laid R' hp0) _ (rep_newLst R' hp0 hw)⟩
  exact ⟨key, fun _ => pt_of key fun _ => rfl⟩
/-- a list that may change -/
theorem g_newLst {xs : List Ex} (hxs : GS N T M L k cl mk xs) : GE N T M L k cl mk (.new (.lst xs)) := by
  intro X sc W e h c
  cases e <;> (try (simp only [chkE, Bool.false_eq_true] at c; done))
  rename_i es pos
  simp only [chkE, Bool.and_eq_true, decide_eq_true_eq] at c
  have key : PE X (.List es pos) (tR X.K N W (ev T cl mk (.new (.lst xs)))) := (pe_lst (hxs X sc W es h c.2)).imp fun σ H Q ⟨P, ρ, st, env, R, E, hh⟩ => by
    have this : ev T cl mk (.new (.lst xs)) env st = (evs T cl mk xs env st).bind fun vs s => Res.ok (Val.ref s.length) (s ++ [Ob.lst vs]) := by
      simp only [ev]
      cases evs T cl mk xs env st <;> rfl
    rw [this] at hh
    refine tRs_bindE R E hh fun v ρ' st' H' w ee g R' E' hw hp => ⟨by rw [← hw.length, evs_len ee]; exact size1000 c.1, fun p hp0 => hp (ρ' ++ [p]) _ (.push R' hp0 ⟨w, upd_same, ?_⟩) _ ?_⟩
    · exact hw.grow R' (Grow.push R' hp0) _ _
    · simp only [Rep]
      exact ⟨p, rfl, by rw [← R'.len]; simp⟩
  exact ⟨key, fun _ => pt_of key fun _ => rfl⟩
theorem g_frz {a : Ex} (ha : GE N T M L k cl mk a) : GE N T M L k cl mk (.frz a) := by
  intro X sc W e h c
  simp only [chkE, Bool.and_eq_true] at c
  replace c := c.2
  obtain ⟨h1, h2⟩ := ha X sc W e h c
  refine ⟨h1.imp fun σ H Q ⟨P, ρ, st, env, R, E, hh⟩ => ?_, fun ht => (h2 ht).imp fun σ H Q ⟨P, ρ, st, env, R, E, hh⟩ => ?_⟩
  · simp only [ev] at hh
    refine tR_bind R E hh fun v ρ' st' H' w g R' E' hw hp => ?_
    unfold frzV at hp
    split at hp
    · obtain ⟨a, rfl, q⟩ := rep_ref hw
      split at hp
      · rename_i hst
        obtain ⟨vs, e1, e2⟩ := R'.ob _ _ _ hst q
        refine hp ρ' H' (.giveUp R' _) _ ?_
        simp only [Rep]
        exact ⟨a, vs, rfl, ⟨e1, giveUp_dead R' q⟩, e2.grow R' Grow.giveUp _ _⟩
      · rename_i hst
        obtain ⟨kvs, e1, e2, e3⟩ := R'.ob _ _ _ hst q
        refine hp ρ' H' (.giveUp R' _) _ ?_
        simp only [Rep]
        exact ⟨a, kvs, rfl, ⟨e1, giveUp_dead R' q⟩, e2, e3.grow R' Grow.giveUp _ _⟩
      · rename_i hst
        obtain ⟨dx, fvs, e1, e2, e3⟩ := R'.ob _ _ _ hst q
        refine hp ρ' H' (.giveUp R' _) _ ?_
        simp only [Rep]
        exact ⟨a, dx, fvs, rfl, ⟨e1, giveUp_dead R' q⟩, e2, e3.grow R' Grow.giveUp _ _⟩
      · exact hp.elim
    · exact hp.okv R' hw
  · simp only [ev] at hh
    have : ((ev T cl mk a env st).bind fun x s => frzV s x).bind asBool = (ev T cl mk a env st).bind fun x s => (frzV s x).bind asBool := by
      cases ev T cl mk a env st <;> rfl
    rw [this] at hh
    refine ⟨P, ρ, st, env, R, E, ?_⟩
    show Post X.K N P ρ st H ((ev T cl mk a env st).bind asBool) _ _
    revert hh
    cases ev T cl mk a env st with
    | ok v s =>
      intro hh
      cases v with
      | ref i =>
        simp only [Res.bind_ok, frzV] at hh
        exfalso
        revert hh
        split <;> (intro hh; exact hh)
      | _ => exact hh
    | exc _ _ _ => exact fun hh => hh
    | stuck => exact fun hh => hh
theorem g_idx {a i : Ex} (ha : GE N T M L k cl mk a) (hi : GE N T M L k cl mk i) : GE N T M L k cl mk (.idx a i) := by
  intro X sc W e h c
  cases e <;> (try (simp only [chkE, Bool.false_eq_true] at c; done))
  rename_i a' i' pos
  have c' : notSlice i' = true ∧ chkE M L a false sc a' = true ∧ chkE M L i false sc i' = true := by
    simp only [chkE, Bool.and_eq_true] at c
    exact ⟨c.1.1, c.1.2, c.2⟩
  obtain ⟨c1, c2, c3⟩ := c'
  have hu : X.A.units + 150 < cLine := by have := h.ok.room.un; omega
  have key : PE X (.Subscript a' i' pos) (tR X.K N W (ev T cl mk (.idx a i))) := (pe_ix (ix_val h.F.hw hu) (ha X sc W a' h c2).1 (hi X sc W i' h c3).1 (plain_ix c1)).imp fun σ H Q ⟨P, ρ, st, env, R, E, hh⟩ => by
    simp only [ev] at hh
    refine tR_bind R E hh fun v ρ' st' H' w g R' E' hw hp => tR_bind R' E' hp fun v2 ρ2 st2 H2 w2 g2 R2 E2 hw2 hp2 => ?_
    obtain ⟨z, hz, hk⟩ := hp2.optv
    exact ⟨P, ρ2, st2, v, v2, R2, hw.grow R' g2.grow _ _, hw2, z, hz, hk⟩
  exact ⟨key, fun _ => pt_of key fun _ => rfl⟩
theorem g_slc {a lo hi : Ex} (ha : GE N T M L k cl mk a) (hl : GE N T M L k cl mk lo) (hh : GE N T M L k cl mk hi) : GE N T M L k cl mk (.slc a lo hi) := by
  intro X sc W e h c
  cases e <;> (try (simp only [chkE, Bool.false_eq_true] at c; done))
  rename_i a' i' pos
  cases i' <;> (try (simp only [chkE, Bool.false_eq_true] at c; done))
  rename_i lo' hi' st' p2
  cases st' <;> (try (simp only [chkE, Bool.false_eq_true] at c; done))
  simp only [chkE, Bool.and_eq_true] at c
  obtain ⟨⟨c1, c2⟩, c3⟩ := c
  have part : ∀ {y : Ex} {y' : Option Expr}, GE N T M L k cl mk y → (match y' with | none => isNonC y | some e => chkE M L y false sc e) = true → PO X y' (fun σ H Q => ∃ (P : Addr → Prop) (ρ : List Addr) (st : Nl.Store) (env : Nl.Env), Rel X.K N P ρ st H ∧ EnvRep X.K N ρ (Lv P ρ st) H env σ ∧
      Post X.K N P ρ st H (ev T cl mk y env st) (fun v _ _ H' => ∃ o, optI v = some o ∧ Q o H') (exW N W σ)) := fun {y y'} hy cy => by
    cases y' with
    | none =>
      refine ⟨fun pins s σ H Q I ⟨P, ρ, st, env, R, E, q⟩ => po_none.run pins s σ H Q I ?_⟩
      replace cy : isNonC y = true := cy
      have ey : y = .cst .non := by
        unfold isNonC at cy
        split at cy
        · rfl
        · cases cy
      subst ey
      simp only [ev] at q
      obtain ⟨o, e1, e2⟩ := q ρ H (.refl R)
      cases e1
      exact e2
    | some e =>
      refine ⟨fun pins s σ H Q I ⟨P, ρ, st, env, R, E, q⟩ => ?_⟩
      rw [evalPart_some]
      refine thn ((hy X sc W e h cy).1.run pins s σ H (fun w H1 => ∃ o, ((w = .non ∧ o = none) ∨ ∃ i, w = .int i ∧ o = some i) ∧ Q o H1) I ⟨P, ρ, st, env, R, E, q.mono fun v ρ' st' H' _ _ ⟨o, e1, e2⟩ w hw => ⟨o, ?_, e2⟩⟩) fun u s1 ⟨w, H1, I1, r1, o, ho, q1⟩ => ?_
      · cases v with
        | int i => cases e1; simp only [Rep] at hw; exact .inr ⟨i, hw, rfl⟩
        | non => cases e1; simp only [Rep] at hw; exact .inl ⟨hw, rfl⟩
        | _ => cases e1
      · rcases ho with ⟨rfl, rfl⟩ | ⟨i, rfl, rfl⟩
        · obtain rfl := r1
          exact ⟨none, H1, I1, .none, q1⟩
        · obtain ⟨t, rfl⟩ := r1
          exact ⟨some i, H1, I1, .int i t, q1⟩
  have key : PE X (.Subscript a' (.Slice lo' hi' none p2) pos) (tR X.K N W (ev T cl mk (.slc a lo hi))) := (pe_slice sl_val (ha X sc W a' h c1).1 (part hl c2) (part hh c3)).imp fun σ H Q ⟨P, ρ, st, env, R, E, hq⟩ => by
    simp only [ev] at hq
    refine tR_bind R E hq fun v ρ' st' H' w g R' E' hw hp => ⟨P, ρ', st', env, R', E', hp.bind.mono fun v2 ρ2 st2 H2 _ g2 hp2 => ?_⟩
    have R2 := g2.rel
    have E2 := E'.step R' g2
    cases ho : optI v2 with
    | none => rw [ho] at hp2; exact hp2.elim
    | some l =>
      rw [ho] at hp2
      replace hp2 : Post X.K N P ρ2 st2 H2 ((ev T cl mk hi env st2).bind fun z s => Res.opt (slcV (rd s v) v2 z) s) (toQ X.K N P Q) (exW N W σ) := hp2
      refine ⟨l, rfl, P, ρ2, st2, env, R2, E2, hp2.bind.mono fun v3 ρ3 st3 H3 _ g3 hp3 => ?_⟩
      obtain ⟨z, hz, hk⟩ := hp3.optv
      unfold slcV at hz
      rw [ho] at hz
      cases hu : optI v3 with
      | none => rw [hu] at hz; cases hz
      | some u =>
        rw [hu] at hz
        exact ⟨u, rfl, P, ρ3, st3, v, g3.rel, (hw.grow R' g2.grow _ _).grow R2 g3.grow _ _, z, hz, hk⟩
  exact ⟨key, fun _ => pt_of key fun _ => rfl⟩
end
end Nlx
end
section
set_option Elab.async false
set_option linter.all false
set_option maxRecDepth 100000
set_option maxHeartbeats 8000000
/-! NlSnd5: fields, calls, built-ins. -/
namespace Nlx
open PySem PySem.Spec PyProof.Rows L2 Nl
section
variable {X : Cx} {N : Nm} {T : Tab} {M : Md} {L : List Str} {sc : Scope} {W : WX} {k : Nat} {cl mk : CallS} {e : Expr}
theorem g_fld {a : Ex} {f : Nat} (ha : GE N T M L k cl mk a) : GE N T M L k cl mk (.fld a f) := by
  intro X sc W e h c
  cases e <;> (try (simp only [chkE, Bool.false_eq_true] at c; done))
  rename_i a' n pos
  simp only [chkE, Bool.and_eq_true, decide_eq_true_eq] at c
  obtain ⟨⟨c1, c2⟩, c3⟩ := c
  obtain ⟨ef, hc⟩ := h.F.fld n f c1
  have key : PE X (.Attribute a' n pos) (tR X.K N W (ev T cl mk (.fld a f))) := (pe_fld (ha X sc W a' h c3).1 (base_plain c2 _ _ _)).imp fun σ H Q ⟨P, ρ, st, env, R, E, hh⟩ => by
    simp only [ev] at hh
    refine tR_bind R E hh fun v ρ' st' H' w g R' E' hw hp => ?_
    obtain ⟨z, hz, hk⟩ := hp.optv
    unfold fldV at hz
    split at hz
    · simp only [Rep] at hw
      obtain ⟨a, dx, fvs, rfl, q, e2, r⟩ := hw
      obtain ⟨y, e3, ry⟩ := getF_look h.F.finj e2 r hz
      rw [ef] at e3
      exact ⟨a, _, dx, fvs, y, rfl, q.1, (hc _).1, (hc _).2, e3, hk ρ' H' (.refl R') _ ry⟩
    · split at hz
      · rename_i hst
        obtain ⟨a, rfl, q⟩ := rep_ref hw
        obtain ⟨dx, fvs, e1, e2, r⟩ := R'.ob _ _ _ hst q
        obtain ⟨y, e3, ry⟩ := getF_look h.F.finj e2 r hz
        rw [ef] at e3
        exact ⟨a, _, dx, fvs, y, rfl, e1, (hc _).1, (hc _).2, e3, hk ρ' H' (.refl R') _ ry⟩
      · cases hz
    · cases hz
  exact ⟨key, fun _ => pt_of key fun _ => rfl⟩
theorem g_call {f : Nat} {xs : List Ex} (hxs : GS N T M L k cl mk xs) : GE N T M L k cl mk (.call f xs) := by
  intro X sc W e h c
  cases e <;> (try (simp only [chkE, Bool.false_eq_true] at c; done))
  rename_i fe es ks pos
  cases fe <;> (try (simp only [chkE, Bool.false_eq_true] at c; done))
  cases ks <;> (try (simp only [chkE, Bool.false_eq_true] at c; done))
  rename_i n p
  simp only [chkE, gnOk, Bool.and_eq_true, decide_eq_true_eq, Bool.not_eq_true'] at c
  obtain ⟨⟨c1, c2, c3⟩, c4⟩ := c
  obtain ⟨m1, m2⟩ := h.F.dfn n f c1
  have key : PE X (.Call (.Name n p) es [] pos) (tR X.K N W (ev T cl mk (.call f xs))) :=
    (pe_callN (gl_of h.ok.hsc c2) m1 m2 c3 (fun pins s σ H vs us Q I r q => h.cal X W rfl rfl rfl rfl rfl h.ok.room h.ok.air f pins s σ H vs us Q I r q) c4 (hxs X sc W es h c4)).imp fun σ H Q q => by simpa only [ev] using q
  exact ⟨key, fun _ => pt_of key fun _ => rfl⟩
theorem g_mk {f : Nat} {xs : List Ex} (hxs : GS N T M L k cl mk xs) : GE N T M L k cl mk (.mk f xs) := by
  intro X sc W e h c
  cases e <;> (try (simp only [chkE, Bool.false_eq_true] at c; done))
  rename_i fe es ks pos
  cases fe <;> (try (simp only [chkE, Bool.false_eq_true] at c; done))
  cases ks <;> (try (simp only [chkE, Bool.false_eq_true] at c; done))
  rename_i n p
  simp only [chkE, gnOk, Bool.and_eq_true, decide_eq_true_eq, Bool.not_eq_true'] at c
  obtain ⟨⟨c1, c2, c3⟩, c4⟩ := c
  obtain ⟨m1, m2, _⟩ := h.F.cln n f c1
  have key : PE X (.Call (.Name n p) es [] pos) (tR X.K N W (ev T cl mk (.mk f xs))) :=
    (pe_callN (gl_of h.ok.hsc c2) m1 m2 c3 (fun pins s σ H vs us Q I r q => h.mak X W rfl rfl rfl rfl rfl h.ok.room h.ok.air f pins s σ H vs us Q I r q) c4 (hxs X sc W es h c4)).imp fun σ H Q q => by simpa only [ev] using q
  exact ⟨key, fun _ => pt_of key fun _ => rfl⟩
theorem g_met {m : Nat} {o : Ex} {xs : List Ex} (ho : GE N T M L k cl mk o) (hxs : GS N T M L k cl mk xs) : GE N T M L k cl mk (.met m o xs) := by
  intro X sc W e h c
  cases e <;> (try (simp only [chkE, Bool.false_eq_true] at c; done))
  rename_i fe es ks pos
  cases fe <;> (try (simp only [chkE, Bool.false_eq_true] at c; done))
  cases ks <;> (try (simp only [chkE, Bool.false_eq_true] at c; done))
  rename_i o' n apos
  simp only [chkE, Bool.and_eq_true, decide_eq_true_eq] at c
  obtain ⟨⟨⟨⟨⟨c1, c2⟩, c3⟩, c4⟩, c5⟩, c6⟩ := c
  have key : PE X (.Call (.Attribute o' n apos) es [] pos) (tR X.K N W (ev T cl mk (.met m o xs))) :=
    pe_methN h.F (fun f pins s σ H vs us Q I r q => h.cal X W rfl rfl rfl rfl rfl h.ok.room h.ok.air f pins s σ H vs us Q I r q) c1 c2 c3 c4 c6 (ho X sc W o' h c5).1 (hxs X sc W es h c6)
  exact ⟨key, fun _ => pt_of key fun _ => rfl⟩
theorem g_bm {b : Bm} {o : Ex} {xs : List Ex} (ho : GE N T M L k cl mk o) (hxs : GS N T M L k cl mk xs) : GE N T M L k cl mk (.bm b o xs) := by
  intro X sc W e h c
  cases e <;> (try (simp only [chkE, Bool.false_eq_true] at c; done))
  rename_i fe es ks pos
  cases fe <;> (try (simp only [chkE, Bool.false_eq_true] at c; done))
  cases ks <;> (try (simp only [chkE, Bool.false_eq_true] at c; done))
  rename_i o' n apos
  simp only [chkE, Bool.and_eq_true, decide_eq_true_eq] at c
  obtain ⟨⟨⟨⟨⟨⟨⟨c1, c0⟩, c2⟩, c3⟩, c4⟩, c5⟩, c6⟩, c7⟩ := c
  have hu : X.A.units + 150 < cLine := by have := h.ok.room.un; omega
  have key : PE X (.Call (.Attribute o' n apos) es [] pos) (tR X.K N W (ev T cl mk (.bm b o xs))) := by
    subst c1
    cases b with
    | append => exact pe_bmN PySem.F.plainAttrs_list PySem.F.slot_list_append PySem.F.type_list_append bm_append c2 c3 c4 c7 (ho X sc W o' h c6).1 (hxs X sc W es h c7)
    | extend => exact pe_bmN PySem.F.plainAttrs_list PySem.F.slot_list_extend PySem.F.type_list_extend bm_extend c2 c3 c4 c7 (ho X sc W o' h c6).1 (hxs X sc W es h c7)
    | pop => exact pe_bmN PySem.F.plainAttrs_list PySem.F.slot_list_pop PySem.F.type_list_pop bm_pop c2 c3 c4 c7 (ho X sc W o' h c6).1 (hxs X sc W es h c7)
    | popAt => exact pe_bmN PySem.F.plainAttrs_list PySem.F.slot_list_pop PySem.F.type_list_pop bm_popAt c2 c3 c4 c7 (ho X sc W o' h c6).1 (hxs X sc W es h c7)
    | join => exact pe_bmN PySem.F.plainAttrs_str PySem.F.slot_str_join PySem.F.type_str_join bm_join c2 c3 c4 c7 (ho X sc W o' h c6).1 (hxs X sc W es h c7)
    | split => exact pe_bmN PySem.F.plainAttrs_str PySem.F.slot_str_split PySem.F.type_str_split bm_split c2 c3 c4 c7 (ho X sc W o' h c6).1 (hxs X sc W es h c7)
    | part => exact pe_bmN PySem.F.plainAttrs_str PySem.F.slot_str_partition PySem.F.type_str_partition bm_part c2 c3 c4 c7 (ho X sc W o' h c6).1 (hxs X sc W es h c7)
    | get => exact pe_bmN PySem.F.plainAttrs_dict PySem.F.slot_dict_get PySem.F.type_dict_get (bm_get hu) c2 c3 c4 c7 (ho X sc W o' h c6).1 (hxs X sc W es h c7)
    | _ => simp [bmOk] at c0
  exact ⟨key, fun _ => pt_of key fun _ => rfl⟩
theorem ne_isEmpty {es : List Expr} (h : (!es.isEmpty) = true) : es ≠ [] := by
  intro z
  subst z
  simp at h
theorem nodig {X : Cx} (hn : X.base.NoDigits) {pins : List (Addr × Obj)} {s : Shared} {σ : L2.St} {H : Hp} (I : Inv X pins σ H s) : s.heap.NoDigits := hn.keeps fun b o e => (I.bs b o e).1
theorem g_bi {b : Bi} {xs : List Ex} (hxs : GS N T M L k cl mk xs) (h1 : ∀ x, xs = [x] → GE N T M L k cl mk x) : GE N T M L k cl mk (.bi b xs) := by
  intro X sc W e h c
  cases e <;> (try (simp only [chkE, Bool.false_eq_true] at c; done))
  rename_i fe es ks pos
  cases fe <;> (try (simp only [chkE, Bool.false_eq_true] at c; done))
  cases ks <;> (try (simp only [chkE, Bool.false_eq_true] at c; done))
  rename_i n p
  simp only [chkE, bnOk, Bool.and_eq_true, decide_eq_true_eq, Bool.not_eq_true', List.contains_iff_mem, beq_iff_eq] at c
  obtain ⟨⟨⟨⟨⟨c1, c0⟩, ⟨⟨c2, c3⟩, c4⟩, c5⟩, c6⟩, c7⟩, c8⟩ := c
  have hne : es ≠ [] := by intro z; subst z; simp at c6
  have hg := gl_of h.ok.hsc c2
  have hm := h.F.blt n c5
  have hn : n ≠ "__name__" := by simpa using c4
  have hc := h.ok.calm
  have hu : X.A.units + 150 < cLine := by have := h.ok.room.un; omega
  have key : PE X (.Call (.Name n p) es [] pos) (tR X.K N W (ev T cl mk (.bi b xs))) := by
    subst c1
    cases b with
    | len => exact pe_bif bi_len hg hm (by decide +kernel) hn c3 hne c8 (hxs X sc W es h c8)
    | abs => exact pe_bif bi_abs hg hm (by decide +kernel) hn c3 hne c8 (hxs X sc W es h c8)
    | int => exact pe_bit (bi_int (nodig h.F.nodig)) hg hm (by decide +kernel) hn c3 hne c8 (hxs X sc W es h c8)
    | str => exact pe_bit (bi_str (nodig h.F.nodig) h.ok.room.hd) hg hm (by decide +kernel) hn c3 hne c8 (hxs X sc W es h c8)
    | tuple => exact pe_bit bi_tuple hg hm (by decide +kernel) hn c3 hne c8 (hxs X sc W es h c8)
    | list => exact pe_bit (bi_list hc) hg hm (by decide +kernel) hn c3 hne c8 (hxs X sc W es h c8)
    | all => exact pe_bif (bi_all hc) hg hm (by decide +kernel) hn c3 hne c8 (hxs X sc W es h c8)
    | any => exact pe_bif (bi_any hc) hg hm (by decide +kernel) hn c3 hne c8 (hxs X sc W es h c8)
    | min2 => exact pe_bif (bi_min2 hc) hg hm (by decide +kernel) hn c3 hne c8 (hxs X sc W es h c8)
    | max2 => exact pe_bif (bi_max2 hc) hg hm (by decide +kernel) hn c3 hne c8 (hxs X sc W es h c8)
    | sum => exact pe_bif (bi_sum hc) hg hm (by decide +kernel) hn c3 hne c8 (hxs X sc W es h c8)
    | repr => exact pe_bif (bi_repr (h.ok.gd c5).1 (h.ok.gd c5).2 h.F.frep) hg hm (by decide +kernel) hn c3 hne c8 (hxs X sc W es h c8)
    | isI t =>
      have c9 : ∃ e1 cn p1, es = [e1, .Name cn p1] ∧ notStar e1 = true ∧ chkEs M L xs sc [e1] = true ∧ tyOk M sc t cn = true := by
        simp only at c8
        split at c8
        · rename_i e1 cn p1
          simp only [Bool.and_eq_true] at c8
          exact ⟨e1, cn, p1, rfl, c8.1.1, c8.1.2, c8.2⟩
        · cases c8
      obtain ⟨e1, cn, p1, rfl, d1, d2, d3⟩ := c9
      have hT : ∃ tv : V, tv = tyC N t ∧ PE X (.Name cn p1) (tC tv) ∧ ∀ c, t = .cls c → ClsI X.K (N.ca c) := by
        refine ⟨_, rfl, ?_⟩
        cases t with
        | cls c =>
          simp only [tyOk, gnOk, Bool.and_eq_true, decide_eq_true_eq, Bool.not_eq_true'] at d3
          obtain ⟨m1, m2, m3⟩ := h.F.cln cn c d3.1
          exact ⟨pe_glob (gl_of h.ok.hsc d3.2.1) m1 rfl d3.2.2, fun c' e => by cases e; exact m3⟩
        | _ =>
          simp only [tyOk, bnOk, Bool.and_eq_true, decide_eq_true_eq, Bool.not_eq_true', List.contains_iff_mem] at d3
          obtain ⟨d4, ⟨⟨d5, d6⟩, d7⟩, d8⟩ := d3
          refine ⟨pe_bltn (u := .type _) (gl_of h.ok.hsc d5) (h.F.blt cn d8) (by rw [d4]; decide +kernel) rfl (by simpa using d7) d6, fun c e => by cases e⟩
      obtain ⟨tv, rfl, hT, hcls⟩ := hT
      have hx1 : ∃ x, xs = [x] ∧ chkE M L x false sc e1 = true := by
        cases xs with
        | nil => simp [chkEs] at d2
        | cons x xs =>
          cases xs with
          | nil =>
            simp only [chkEs, Bool.and_eq_true] at d2
            exact ⟨x, rfl, d2.1.2⟩
          | cons _ _ => simp [chkEs] at d2
      obtain ⟨x, rfl, hx2⟩ := hx1
      refine (pe_callB (bi_isI (T := T) t hcls) hg hm (show bootBuiltins "isinstance" = some (.builtin "isinstance") by decide +kernel) (pa_cons (h1 x rfl X sc W e1 h hx2).1 (pa_cons hT pa_nil rfl) (star_cons d1 _ _)) hn c3 (star_cons d1 _ _) rfl).imp fun σ H Q ⟨P, ρ, st, env, R, E, hh⟩ => ?_
      have this : ev T cl mk (.bi (.isI t) [x]) env st = (ev T cl mk x env st).bind fun v s => Res.opt (biIsI t [rdI s v]) s := by
        simp only [ev, evs]
        cases ev T cl mk x env st <;> rfl
      rw [this] at hh
      exact tR_bind R E hh fun v ρ' st' H' w g R' E' hw hp => by
        obtain ⟨z, hz, hk⟩ := hp.optv
        exact ⟨w, rfl, P, ρ', st', [v], R', .cons hw .nil, z, hz, hk⟩
    | range => exact absurd c7 (by decide)
    | enum => exact absurd c7 (by decide)
    | _ => simp [biOk] at c0
  exact ⟨key, fun _ => pt_of key fun _ => rfl⟩
end
end Nlx
end
section
set_option Elab.async false
set_option linter.all false
set_option maxRecDepth 100000
set_option maxHeartbeats 8000000
/-! NlSnd6: walks and comprehensions. -/
namespace Nlx
open PySem PySem.Spec PyProof.Rows L2 Nl
section
variable {X : Cx} {N : Nm} {T : Tab} {M : Md} {L : List Str} {sc : Scope} {W : WX} {k : Nat} {cl mk : CallS} {e : Expr}
theorem int3 {K : PySem.W.Frag} {ρ : List Addr} {L : Addr → Prop} {H : Hp} {a : Int} {d : List Val} {vs : List V} (h : ViewsI K N ρ L H (.int a :: d) vs) : ∃ r, vs = .int a :: r ∧ ViewsI K N ρ L H d r := by
  obtain ⟨v, r, rfl, q, h2⟩ := h
  simp only [ViewI, Rep] at q
  exact ⟨r, by rw [q], h2⟩
theorem vi2 {K : PySem.W.Frag} {ρ : List Addr} {L : Addr → Prop} {H : Hp} {a b : Int} {vs : List V} (h : ViewsI K N ρ L H [.int a, .int b] vs) : vs = [.int a, .int b] := by
  obtain ⟨r, e1, h1⟩ := int3 h
  obtain ⟨q, e2, h2⟩ := int3 h1
  rw [e1, e2, show q = [] from h2]
theorem vi3 {K : PySem.W.Frag} {ρ : List Addr} {L : Addr → Prop} {H : Hp} {a b c : Int} {vs : List V} (h : ViewsI K N ρ L H [.int a, .int b, .int c] vs) : vs = [.int a, .int b, .int c] := by
  obtain ⟨r, e1, h1⟩ := int3 h
  rw [e1, vi2 h1]
theorem chk_len {xs : List Ex} {es : List Expr} (h : chkEs M L xs sc es = true) : xs.length = es.length := by
  induction xs generalizing es with
  | nil => cases es <;> simp [chkEs] at h ⊢
  | cons x xs ih =>
    cases es with
    | nil => simp [chkEs] at h
    | cons e es =>
      simp only [chkEs, Bool.and_eq_true] at h
      simp [ih h.2]
theorem rgc_pos {i j c : Int} (hi : -(2 ^ 61) ≤ i) (hi' : i < 2 ^ 61) (hj : -(2 ^ 61) ≤ j) (hj' : j < 2 ^ 61) (hc : 0 < c) (hc' : c < 1000) : RgC i j c ((j - i + (c - 1)) / c).toNat := by
  have q : Builtin.Range.rangeSize i j c = (((j - i + (c - 1)) / c).toNat : Nat) := by
    unfold Builtin.Range.rangeSize
    rw [if_pos hc]
    split
    · have e : j - i + (c - 1) = (j - i - 1) + 1 * c := by omega
      rw [e, Int.add_mul_ediv_right _ _ (by omega)]
      have : 0 ≤ (j - i - 1) / c := Int.ediv_nonneg (by omega) (by omega)
      omega
    · have : (j - i + (c - 1)) / c ≤ 0 := by
        have : (j - i + (c - 1)) / c < 1 := Int.ediv_lt_of_lt_mul hc (by omega)
        omega
      omega
  refine ⟨by omega, by omega, ?_, q⟩
  have h1 : (((j - i + (c - 1)) / c).toNat : Int) ≤ 2 ^ 62 := by
    have : (j - i + (c - 1)) / c ≤ 2 ^ 62 := Int.le_of_lt_add_one (Int.ediv_lt_of_lt_mul hc (by omega))
    omega
  unfold Builtin.Range.small
  rw [q]
  simp only [Builtin.Range.rangeFitsLong, Bool.and_eq_true, Bool.or_eq_true, decide_eq_true_eq, beq_iff_eq, show c > 0 from hc, if_true]
  omega
theorem g_rng {xs : List Ex} (hxs : GS N T M L k cl mk xs) : GW N T M L k cl mk (.bi .range xs) := by
  intro X sc W e tg h c _
  cases e <;> (try (simp only [chkE, Bool.false_eq_true] at c; done))
  rename_i fe es ks pos
  cases fe <;> (try (simp only [chkE, Bool.false_eq_true] at c; done))
  cases ks <;> (try (simp only [chkE, Bool.false_eq_true] at c; done))
  rename_i n p
  simp only [chkE, bnOk, Bool.and_eq_true, decide_eq_true_eq, Bool.not_eq_true', List.contains_iff_mem, beq_iff_eq] at c
  obtain ⟨⟨⟨⟨⟨c1, c0⟩, ⟨⟨c2, c3⟩, c4⟩, c5⟩, c6⟩, c7⟩, c8, c9⟩ := c
  have hg := gl_of h.ok.hsc c2
  have hm := h.F.blt n c5
  subst c1
  have hPA := hxs X sc W es h c9
  have red : ∀ {σ H} {R : It → Hp → Prop} {G : List V → Hp → Prop}, tW X.K N W (ev T cl mk (.bi .range xs)) σ H R →
      (∀ (P : Addr → Prop) (ρ' : List Addr) (st' : Nl.Store) (H' : Hp) (ds : List Val) (vs : List V) (ys : List Val), Rel X.K N P ρ' st' H' → ds.length = es.length → ViewsI X.K N ρ' (Lv P ρ' st') H' ds vs → rangeV ds = some ys → (∀ J, Walk X.K N P J none ys ρ' st' H' → R J H') → G vs H') → tRs X.K N W (evs T cl mk xs) σ H G := fun {σ H R G} ⟨P, ρ, st, env, Rl, E, hh⟩ kk => by
    simp only [ev] at hh
    refine tRs_bindE Rl E hh fun v ρ' st' H' w ee g R' _ hw hp => ?_
    obtain ⟨z, hz, hk⟩ := hp.opt
    replace hz : biRange (v.map (rdI st')) = some z := hz
    unfold biRange at hz
    dsimp only at hz
    cases hr : rangeV (v.map (rdI st')) with
    | none => rw [hr] at hz; cases hz
    | some ys =>
      rw [hr] at hz
      cases hz
      obtain ⟨gx, xs, e1, e2⟩ := hk ρ' H' (.refl R')
      cases e1
      exact kk P ρ' st' H' _ w ys R' (by rw [List.length_map, evs_len ee, chk_len c9]) (viewsI R' hw) hr e2
  cases es with
  | nil => simp at c6
  | cons a es =>
    cases es with
    | nil =>
      refine (pi_range1 (tg := tg) hg hm hPA (star_of c9 _ pos).1).imp fun σ H R q => red q fun P ρ st H' ds vs ys R' hl vw hr kk => ?_
      unfold rangeV at hr
      split at hr
      · obtain ⟨r, rfl, rfl⟩ := int3 vw
        split at hr
        · rename_i hb
          cases hr
          exact ⟨_, rfl, hb.1, hb.2, kk _ walk_rng⟩
        · cases hr
      · simp at hl
      · simp at hl
      · cases hr
    | cons b es =>
      cases es with
      | nil =>
        have s1 := (star_of c9 X.env pos).1
        have s2 : starEach [b] X.env = [(false, eval b X.env)] := by
          have := star_all c9 X.env
          rw [s1] at this
          simpa using this
        refine (pi_range2 (tg := tg) hg hm hPA (by rw [s1, s2]) s2).imp fun σ H R q => red q fun P ρ st H' ds vs ys R' hl vw hr kk => ?_
        unfold rangeV at hr
        split at hr
        · simp at hl
        · have := vi2 vw
          subst this
          split at hr
          · rename_i hb
            cases hr
            exact ⟨_, _, rfl, hb, kk _ walk_rng⟩
          · cases hr
        · simp at hl
        · cases hr
      | cons d es =>
        cases es with
        | nil =>
          refine (pi_range3 (tg := tg) hg hm hPA (star_of c9 X.env pos).1 (star_of c9 X.env pos).2).imp fun σ H R q => red q fun P ρ st H' ds vs ys R' hl vw hr kk => ?_
          unfold rangeV at hr
          split at hr
          · simp at hl
          · simp at hl
          · have := vi3 vw
            subst this
            split at hr
            · rename_i hb
              split at hr
              · rename_i hc
                subst hc
                cases hr
                exact ⟨_, _, _, _, rfl, .neg (by omega) (by omega) (by omega) (by omega), kk _ walk_rngC⟩
              · split at hr
                · rename_i hc
                  cases hr
                  exact ⟨_, _, _, _, rfl, rgc_pos hb.1 hb.2.1 hb.2.2.1 hb.2.2.2 hc.1 hc.2, kk _ walk_rngC⟩
                · cases hr
            · cases hr
          · cases hr
        | cons _ _ => simp at c8
theorem g_enum {xs : List Ex} (hxs : GS N T M L k cl mk xs) : GW N T M L k cl mk (.bi .enum xs) := by
  intro X sc W e tg h c ht
  cases e <;> (try (simp only [chkE, Bool.false_eq_true] at c; done))
  rename_i fe es ks pos
  cases fe <;> (try (simp only [chkE, Bool.false_eq_true] at c; done))
  cases ks <;> (try (simp only [chkE, Bool.false_eq_true] at c; done))
  rename_i n p
  simp only [chkE, bnOk, Bool.and_eq_true, decide_eq_true_eq, Bool.not_eq_true', List.contains_iff_mem, beq_iff_eq] at c
  obtain ⟨⟨⟨⟨⟨c1, c0⟩, ⟨⟨c2, c3⟩, c4⟩, c5⟩, c6⟩, c7⟩, c8, c9⟩ := c
  have hg := gl_of h.ok.hsc c2
  have hm := h.F.blt n c5
  subst c1
  have hl := chk_len c9
  cases es with
  | nil => simp at c8
  | cons e es =>
    cases es with
    | cons _ _ => simp at c8
    | nil =>
      cases xs with
      | nil => simp at hl
      | cons x xs =>
        cases xs with
        | cons _ _ => simp at hl
        | nil =>
          have c9' := c9
          simp only [chkEs, Bool.and_eq_true] at c9'
          exact pi_enumN ht hg hm c9'.1.1 (hxs X sc W [e] h c9)
theorem gw_of {x : Ex} (hx : walkE x = false) : GW N T M L k cl mk x := by
  intro X sc W e tg h c _
  exfalso
  cases x <;> (try (simp only [chkE, Bool.false_eq_true] at c; done))
  rename_i b xs
  cases e <;> (try (simp only [chkE, Bool.false_eq_true] at c; done))
  rename_i fe es ks pos
  cases fe <;> (try (simp only [chkE, Bool.false_eq_true] at c; done))
  cases ks <;> (try (simp only [chkE, Bool.false_eq_true] at c; done))
  simp only [chkE, Bool.and_eq_true, beq_iff_eq] at c
  have := c.1.2
  simp only [walkE] at hx
  rw [hx] at this
  cases this
end
end Nlx
end
section
set_option Elab.async false
set_option linter.all false
set_option maxRecDepth 100000
set_option maxHeartbeats 8000000
/-! NlSnd7: targets, the comprehension's own list. -/
namespace Nlx
open PySem PySem.Spec PyProof.Rows L2 Nl
/-! ### targets -/
def putV : List Nat → List V → L2.St → L2.St
  | i :: is, v :: vs, σ => putV is vs (σ.set i (some v))
  | _, _, σ => σ
theorem wipe_get (σ : L2.St) : ∀ (vs : List Nat) (j : Nat), (wipe σ vs)[j]? = if j ∈ vs then (σ[j]?).map (fun _ => none) else σ[j]?
  | [], j => by simp [wipe]
  | v :: vs, j => by
    unfold wipe
    rw [List.getElem?_set]
    by_cases h : v = j
    · subst h
      rw [if_pos rfl, if_pos (List.mem_cons_self ..)]
      by_cases hl : v < σ.length
      · rw [if_pos (by rw [wipe_length]; exact hl), List.getElem?_eq_getElem hl]; rfl
      · rw [if_neg (by rw [wipe_length]; exact hl), List.getElem?_eq_none (by omega)]; rfl
    · rw [if_neg h, wipe_get σ vs j]
      have : (j ∈ v :: vs) ↔ j ∈ vs := by simp [Ne.symm h]
      by_cases hj : j ∈ vs
      · rw [if_pos hj, if_pos (this.mpr hj)]
      · rw [if_neg hj, if_neg (fun q => hj (this.mp q))]
theorem wipe_set {σ : L2.St} {vs : List Nat} {i : Nat} {x : Option V} (h : i ∈ vs) : wipe (σ.set i x) vs = wipe σ vs := by
  apply List.ext_getElem?
  intro j
  rw [wipe_get, wipe_get]
  by_cases hj : j ∈ vs
  · rw [if_pos hj, if_pos hj, List.getElem?_set]
    by_cases e : i = j
    · subst e
      rw [if_pos rfl]
      by_cases hl : i < σ.length
      · rw [if_pos hl, List.getElem?_eq_getElem hl]; rfl
      · rw [if_neg hl, List.getElem?_eq_none (by omega)]
    · rw [if_neg e]
  · rw [if_neg hj, if_neg hj, List.getElem?_set_ne (fun e : i = j => hj (by rw [← e]; exact h))]
theorem wipe_put {vs : List Nat} : ∀ {t : List Nat} {ws : List V} {σ : L2.St}, (∀ i ∈ t, i ∈ vs) → wipe (putV t ws σ) vs = wipe σ vs
  | [], ws, σ, h => by cases ws <;> rfl
  | i :: is, [], σ, h => rfl
  | i :: is, w :: ws, σ, h => by
    show wipe (putV is ws (σ.set i (some w))) vs = _
    rw [wipe_put (fun j hj => h j (List.mem_cons_of_mem _ hj)), wipe_set (h i (List.mem_cons_self ..))]
theorem wipe_wipe {σ : L2.St} {vs : List Nat} : wipe (wipe σ vs) vs = wipe σ vs := by
  apply List.ext_getElem?
  intro j
  rw [wipe_get, wipe_get]
  by_cases hj : j ∈ vs
  · rw [if_pos hj, if_pos hj]; cases σ[j]? <;> rfl
  · rw [if_neg hj, if_neg hj]
theorem wipeE_get : ∀ (t : List Nat) (env : Nl.Env) (j : Nat) (d : Val), (wipeE t env)[j]? = some (some d) → j ∉ t ∧ env[j]? = some (some d)
  | [], env, j, d, h => ⟨by simp, h⟩
  | i :: t, env, j, d, h => by
    obtain ⟨h1, h2⟩ := wipeE_get t (env.set i none) j d h
    by_cases e : i = j
    · subst e
      rw [List.getElem?_set] at h2
      simp at h2
    · rw [List.getElem?_set_ne e] at h2
      exact ⟨by simp only [List.mem_cons, not_or]; exact ⟨Ne.symm e, h1⟩, h2⟩
theorem wipeE_len : ∀ (t : List Nat) (env : Nl.Env), (wipeE t env).length = env.length
  | [], env => rfl
  | i :: t, env => by show (wipeE t (env.set i none)).length = _; rw [wipeE_len t]; simp
section
variable {K : PySem.W.Frag} {N : Nm} {ρ : List Addr} {Lx : Addr → Prop} {H : Hp} {env : Nl.Env} {σ : L2.St}
theorem EnvRep.wipe {t : List Nat} (E : EnvRep K N ρ Lx H env σ) : EnvRep K N ρ Lx H (wipeE t env) (L2.wipe σ t) := by
  refine ⟨by rw [wipe_length, wipeE_len, E.1], fun j d h => ?_⟩
  obtain ⟨h1, h2⟩ := wipeE_get t env j d h
  obtain ⟨w, e1, e2⟩ := E.2 j d h2
  exact ⟨w, by rw [wipe_get, if_neg h1]; exact e1, e2⟩
theorem EnvRep.putVs : ∀ {t : List Nat} {ds : List Val} {vs : List V} {env env' : Nl.Env} {σ : L2.St}, EnvRep K N ρ Lx H env σ → Reps K N ρ Lx H ds vs → putNames t ds env = some env' → EnvRep K N ρ Lx H env' (Nlx.putV t vs σ)
  | [], [], vs, env, env', σ, E, r, h => by cases h; exact E
  | [], d :: ds, vs, env, env', σ, E, r, h => by simp [putNames] at h
  | i :: t, [], vs, env, env', σ, E, r, h => by simp [putNames] at h
  | i :: t, d :: ds, vs, env, env', σ, E, r, h => by
    simp only [Reps] at r
    obtain ⟨v, vs', rfl, r1, r2⟩ := r
    show EnvRep K N ρ Lx H env' (Nlx.putV t vs' (σ.set i (some v)))
    exact EnvRep.putVs (t := t) (ds := ds) (E.put i r1) r2 h
end
/-- a loop's target -/
def gTg (K : PySem.W.Frag) (t : List Nat) (one : Bool) : TG := fun v σ H Q => if one = true then Q (putV t [v] σ) H else ∃ a xs, v = .ref a ∧ SqT K H a xs ∧ xs.length = t.length ∧ Q (putV t xs σ) H
theorem gTg_of {K : PySem.W.Frag} {N : Nm} {ρ : List Addr} {Lx : Addr → Prop} {H : Hp} {t : List Nat} {one : Bool} {d : Val} {v : V} {env env' : Nl.Env} {σ : L2.St} {Q : L2.St → Hp → Prop} (E : EnvRep K N ρ Lx H env σ) (r : Rep K N ρ Lx H d v) (h : putTg t one d env = some env')
    (hQ : ∀ vs, EnvRep K N ρ Lx H env' (putV t vs σ) → Q (putV t vs σ) H) : gTg K t one v σ H Q := by
  unfold gTg
  unfold putTg at h
  split at h
  · rename_i ho
    rw [if_pos ho]
    exact hQ [v] (E.putVs (.cons r .nil) h)
  · rename_i ho
    rw [if_neg ho]
    split at h
    · simp only [Rep] at r
      obtain ⟨a, vs, rfl, q, rr⟩ := r
      refine ⟨a, vs, rfl, q, ?_, hQ vs (E.putVs rr h)⟩
      rw [← rr.length]
      clear hQ rr q E
      rename_i ds
      induction t generalizing ds env with
      | nil =>
        cases ds with
        | nil => rfl
        | cons _ _ => simp [putNames] at h
      | cons i t ih =>
        cases ds with
        | nil => simp [putNames] at h
        | cons d ds => simp [ih _ h]
    · cases h
section
variable {X : Cx} {L : List Str} {sc : Scope}
theorem pg_tgt {t : List Nat} {one : Bool} {tg : Expr} {own : List (Str × Nat)} (hc : X.calm = true) (hN : X.N = L) (hnd : L.Nodup) (hsc : SameSc sc X.env.scope) (hf : ∀ n, sc.names.lookup n = some .cell → X.fn n = true) (ho : tgOf t one tg = some own) (hk : tgOk L sc own = true) :
    PG X tg (gTg X.K t one) ∧ own.map (·.2) = t := by
  have nm : ∀ {n : Str} {i : Nat} {p : Pos}, L[i]? = some n → isLoc sc n = true → PG X (.Name n p) (gName i) := fun {n i p} e1 e2 => by
    have lc := hsc.loc e2
    refine pg_name (by rw [hN]; exact hnd) (by rw [hN]; exact e1) (lc.imp_right fun q => q.2) ?_
    rcases lc with q | q
    · exact .inr q
    · exact .inl (hf n q.1)
  cases tg with
  | Name n p =>
    replace ho : (if one = true then (match t with | [i] => some [(n, i)] | _ => none) else none) = some own := ho
    split at ho
    · rename_i h1
      split at ho
      · cases ho
        simp only [tgOk, List.all_cons, List.all_nil, Bool.and_true, Bool.and_eq_true, decide_eq_true_eq] at hk
        refine ⟨⟨fun pins s σ H v u Q I r q => (nm hk.1 hk.2).run pins s σ H v u Q I r ?_⟩, rfl⟩
        unfold gTg at q
        rw [if_pos h1] at q
        exact q
      · cases ho
    · cases ho
  | Tuple es k0 p =>
    replace ho : (if one = true then none else tgNames t es) = some own := ho
    split at ho
    · cases ho
    · rename_i h1
      have all : ∀ {t : List Nat} {es : List Expr} {own : List (Str × Nat)}, tgNames t es = some own → tgOk L sc own = true → PGs X es (fun vs σ H Q => vs.length = t.length ∧ Q (putV t vs σ) H) ∧ own.map (·.2) = t ∧ (assignEach es X.env).length = t.length ∧ (assignEach es X.env).findIdx? (·.1) = none := by
        intro t
        induction t with
        | nil =>
          intro es own h1 h2
          cases es with
          | nil =>
            cases h1
            refine ⟨⟨fun pins s σ H vs us Q I r q => pgs_nil.run pins s σ H vs us Q I r ?_⟩, rfl, rfl, rfl⟩
            obtain ⟨q1, q2⟩ := q
            cases vs with
            | nil => exact ⟨rfl, q2⟩
            | cons _ _ => simp at q1
          | cons _ _ => simp [tgNames] at h1
        | cons i t ih =>
          intro es own h1 h2
          cases es with
          | nil => simp [tgNames] at h1
          | cons e es =>
            cases e <;> (try (simp [tgNames] at h1; done))
            rename_i n p
            simp only [tgNames] at h1
            cases hr : tgNames t es with
            | none => rw [hr] at h1; cases h1
            | some own' =>
              rw [hr] at h1
              cases h1
              simp only [tgOk, List.all_cons, Bool.and_eq_true, decide_eq_true_eq] at h2
              obtain ⟨i1, i2, i3, i4⟩ := ih hr (by unfold tgOk; exact h2.2)
              refine ⟨⟨fun pins s σ H vs us Q I r q => (pgs_cons (nm h2.1.1 h2.1.2) i1 rfl).run pins s σ H vs us Q I r ?_⟩, by simp [i2], ?_, ?_⟩
              · obtain ⟨q1, q2⟩ := q
                cases vs with
                | nil => simp at q1
                | cons v vs => exact ⟨v, vs, rfl, by simpa using q1, q2⟩
              · show (assignEach es X.env).length + 1 = _; rw [i3]; rfl
              · show List.findIdx? _ ((false, assign (.Name n p) X.env) :: assignEach es X.env) = none
                rw [List.findIdx?_cons]
                simp [i4]
      obtain ⟨a1, a2, a3, a4⟩ := all ho hk
      refine ⟨⟨fun pins s σ H v u Q I r q => (pg_tup hc a1 a3 a4).run pins s σ H v u Q I r ?_⟩, a2⟩
      unfold gTg at q
      rw [if_neg h1] at q
      obtain ⟨a, xs, e1, e2, e3, e4⟩ := q
      exact ⟨a, xs, e1, e2, e3, e3, e4⟩
  | _ => simp [tgOf] at ho
end
/-! ### the comprehension's own list -/
section
variable {K : PySem.W.Frag} {N : Nm} {P : Addr → Prop} {ρ ρ1 : List Addr} {st st1 : Nl.Store} {H H1 : Hp} {D : Addr}
/-- a list of ours that nobody knows -/
def PD (P : Addr → Prop) (D : Addr) : Addr → Prop := fun a => P a ∨ a = D
theorem alien_k {acc acc' : List V} (hD : H D = some (.lst acc)) : (∀ a o, H a = some o → ¬ Lv (PD P D) ρ st a → upd H D (.lst acc') a = some o ∧ ¬ Lv (PD P D) ρ st a) ∧ (∀ a vs, SqT K H a vs → SqT K (upd H D (.lst acc')) a vs) := by
  refine ⟨fun a o e n => ⟨?_, n⟩, fun a vs q => ?_⟩
  · rw [upd_ne (fun z => n (.inl (.inr z)))]; exact e
  · rcases q with (q | ⟨o, q⟩) | q
    · exact .inl (.inl (by rw [upd_ne (fun z => by rw [z, hD] at q; cases q)]; exact q))
    · exact .inl (.inr ⟨o, by rw [upd_ne (fun z => by rw [z, hD] at q; cases q)]; exact q⟩)
    · exact .inr q
theorem Rel.alien {acc acc' : List V} (R : Rel K N (PD P D) ρ st H) (hD : H D = some (.lst acc)) : Rel K N (PD P D) ρ st (upd H D (.lst acc')) := by
  have nD : D ∉ ρ := (R.fo D (.inr rfl)).2
  obtain ⟨k1, k2⟩ := alien_k (K := K) (P := P) (ρ := ρ) (st := st) (acc' := acc') hD
  refine ⟨R.len, R.nd, fun a ha => ?_, fun a ha => ⟨?_, (R.fo a ha).2⟩, fun i o a e1 e2 => ?_⟩
  · obtain ⟨o, e⟩ := R.trk a ha
    exact ⟨o, by rw [upd_ne (fun z : a = D => nD (by rw [← z]; exact ha))]; exact e⟩
  · by_cases z : a = D
    · subst z; exact ⟨_, upd_same⟩
    · obtain ⟨o, e⟩ := (R.fo a ha).1
      exact ⟨o, by rw [upd_ne z]; exact e⟩
  · have ne : a ≠ D := fun z => nD (by rw [← z]; exact List.mem_of_getElem? e2)
    exact (R.ob i o a e1 e2).move (List.prefix_refl _) k1 k2 fun x e => by rw [upd_ne ne]; exact e
theorem Rel.join (R : Rel K N P ρ st H) (hD : H D = none) : Rel K N (PD P D) ρ st (upd H D (.lst [])) := by
  have nD : D ∉ ρ := fun m => by obtain ⟨o, e⟩ := R.trk D m; rw [hD] at e; cases e
  have g : Grow ρ st H ρ st (upd H D (.lst [])) := (Step.laid R hD).grow
  have hP : ∀ a, PD P D a → P a ∨ H a = none := fun a q => q.imp_right fun z => by rw [z]; exact hD
  refine ⟨R.len, R.nd, fun a ha => ?_, fun a ha => ?_, fun i o a e1 e2 => ?_⟩
  · obtain ⟨o, e⟩ := R.trk a ha
    exact ⟨o, by rw [upd_ne (fun z : a = D => nD (by rw [← z]; exact ha))]; exact e⟩
  · rcases ha with ha | rfl
    · obtain ⟨⟨o, e⟩, n⟩ := R.fo a ha
      exact ⟨⟨o, by rw [upd_ne (fun z => by rw [z, hD] at e; cases e)]; exact e⟩, n⟩
    · exact ⟨⟨_, upd_same⟩, nD⟩
  · have ne : a ≠ D := fun z => nD (by rw [← z]; exact List.mem_of_getElem? e2)
    exact (R.ob i o a e1 e2).move g.pre (far_k g hP) (fun a vs q => g.sqT R q) fun x e => by rw [upd_ne ne]; exact e
end
end Nlx
end
section
set_option Elab.async false
set_option linter.all false
set_option maxRecDepth 100000
set_option maxHeartbeats 8000000
/-! NlDct: displays of dicts. -/
namespace Nlx
open PySem PySem.Spec PyProof.Rows L2 Nl
theorem bind_assoc {α β γ : Type} (r : Res α) (f : α → Nl.Store → Res β) (g : β → Nl.Store → Res γ) : (r.bind f).bind g = r.bind fun a s => (f a s).bind g := by cases r <;> rfl
theorem grow_upd {ρ ρ1 : List Addr} {st st1 : Nl.Store} {H H1 : Hp} {D : Addr} {o : HO} (g : Grow ρ1 st1 H1 ρ st H) (hD : H1 D = none) : Grow ρ1 st1 H1 ρ st (upd H D o) :=
  ⟨g.pre, fun a x n e => by rw [upd_ne (fun z => by rw [z, hD] at e; cases e)]; exact g.kept a x n e, g.live⟩
def pairUp : List V → List (V × V)
  | k :: v :: r => (k, v) :: pairUp r
  | _ => []
section
variable {K : PySem.W.Frag} {N : Nm} {P : Addr → Prop} {ρ : List Addr} {st : Nl.Store} {H : Hp} {L : Addr → Prop} {D : Addr}
theorem keyRep0 {a : Val} {x : V} {k : Key} (h : keyOf a = some k) (v : Rep K N ρ L H a x) : x = kV k := by
  cases a <;> simp only [keyOf, Option.some.injEq, reduceCtorEq] at h <;> subst h <;> simp only [Rep] at v <;> exact v
theorem alt_reps : ∀ (n : Nat) {xs : List Val} {vs : List V}, xs.length = 2 * n → Reps K N ρ L H xs vs → (altL xs).1.all inV.keyV = true →
    ∃ kvs : List (Key × V), pairUp vs = kvs.map (fun kv => (kV kv.1, kv.2)) ∧ (altL xs).1.map keyOf = kvs.map (fun q => some q.1) ∧ Reps K N ρ L H (altL xs).2 (kvs.map (·.2)) ∧ kvs.length = n
  | 0, xs, vs, hl, r, hk => by
    have : xs = [] := List.length_eq_zero_iff.mp (by omega)
    subst this
    simp only [Reps] at r
    subst r
    exact ⟨[], rfl, rfl, .nil, rfl⟩
  | n + 1, [], vs, hl, r, hk => by simp at hl
  | n + 1, [_], vs, hl, r, hk => by simp at hl; omega
  | n + 1, k :: v :: xs, vs, hl, r, hk => by
    simp only [Reps] at r
    obtain ⟨kv, r1, rfl, h1, vv, r2, rfl, h2, h3⟩ := r
    simp only [altL, List.all_cons, Bool.and_eq_true] at hk
    obtain ⟨kvs, e1, e2, e3, e4⟩ := alt_reps n (xs := xs) (by simp at hl; omega) h3 hk.2
    obtain ⟨key, ek⟩ := keyV_some hk.1
    refine ⟨(key, vv) :: kvs, by simp [pairUp, e1, keyRep0 ek h1], by simp [altL, ek, e2], ?_, by simp [e4]⟩
    simp only [altL, List.map_cons]
    exact .cons h2 e3
theorem keyIx_no {a : Val} {k : Key} (ha : keyOf a = some k) : ∀ {ks : List Val} {kvs : List (Key × V)}, ks.map keyOf = kvs.map (fun q => some q.1) → keyIx a ks = none → k ∉ kvs.map (·.1)
  | [], [], _, _ => by simp
  | [], _ :: _, h, _ => by simp at h
  | _ :: _, [], h, _ => by simp at h
  | x :: ks, q :: kvs, h, hn => by
    simp only [List.map_cons, List.cons.injEq] at h
    simp only [keyIx] at hn
    split at hn
    · cases hn
    · rename_i he
      have hn2 : keyIx a ks = none := by
        cases hz : keyIx a ks with
        | none => rfl
        | some j => rw [hz] at hn; cases hn
      simp only [List.map_cons, List.mem_cons, not_or]
      refine ⟨fun e => ?_, keyIx_no ha h.2 hn2⟩
      rw [eqD_key h.1 ha, e] at he
      simp at he
theorem dist_nodup : ∀ {ks : List Val} {kvs : List (Key × V)}, ks.map keyOf = kvs.map (fun q => some q.1) → distK ks = true → (kvs.map (·.1)).Nodup
  | [], [], _, _ => by simp
  | [], _ :: _, h, _ => by simp at h
  | _ :: _, [], h, _ => by simp at h
  | x :: ks, q :: kvs, h, hd => by
    simp only [List.map_cons, List.cons.injEq] at h
    simp only [distK, Bool.and_eq_true, Option.isNone_iff_eq_none] at hd
    simp only [List.map_cons, List.nodup_cons]
    exact ⟨keyIx_no h.1 h.2 hd.1, dist_nodup h.2 hd.2⟩
theorem put_new {kvs : List (Key × V)} {k : Key} {v : V} (h : k ∉ kvs.map (·.1)) : L2.putK kvs k v = kvs ++ [(k, v)] := by
  unfold L2.putK
  rw [if_neg]
  intro e
  rw [List.any_eq_true] at e
  obtain ⟨q, hq, e⟩ := e
  exact h (List.mem_map.mpr ⟨q, hq, of_decide_eq_true e⟩)
theorem merge_new : ∀ {kvs acc : List (Key × V)}, ((acc ++ kvs).map (·.1)).Nodup → mergeK acc kvs = acc ++ kvs
  | [], acc, _ => by simp [mergeK]
  | q :: kvs, acc, h => by
    show mergeK (L2.putK acc q.1 q.2) kvs = _
    have hq : q.1 ∉ acc.map (·.1) := fun m => by
      rw [List.map_append, List.nodup_append] at h
      exact h.2.2 _ m _ (by simp) rfl
    rw [put_new hq, merge_new (by simpa using h)]
    simp
/-- a dict of ours that nobody knows -/
theorem alienD_k {acc acc' : List (Key × V)} (hD : H D = some (.dK acc)) : (∀ a o, H a = some o → ¬ Lv (PD P D) ρ st a → upd H D (.dK acc') a = some o ∧ ¬ Lv (PD P D) ρ st a) ∧ (∀ a vs, SqT K H a vs → SqT K (upd H D (.dK acc')) a vs) := by
  refine ⟨fun a o e n => ⟨?_, n⟩, fun a vs q => ?_⟩
  · rw [upd_ne (fun z => n (.inl (.inr z)))]; exact e
  · rcases q with (q | ⟨o, q⟩) | q
    · exact .inl (.inl (by rw [upd_ne (fun z => by rw [z, hD] at q; cases q)]; exact q))
    · exact .inl (.inr ⟨o, by rw [upd_ne (fun z => by rw [z, hD] at q; cases q)]; exact q⟩)
    · exact .inr q
theorem Rel.alienD {acc acc' : List (Key × V)} (R : Rel K N (PD P D) ρ st H) (hD : H D = some (.dK acc)) : Rel K N (PD P D) ρ st (upd H D (.dK acc')) := by
  have nD : D ∉ ρ := (R.fo D (.inr rfl)).2
  obtain ⟨k1, k2⟩ := alienD_k (K := K) (P := P) (ρ := ρ) (st := st) (acc' := acc') hD
  refine ⟨R.len, R.nd, fun a ha => ?_, fun a ha => ⟨?_, (R.fo a ha).2⟩, fun i o a e1 e2 => ?_⟩
  · obtain ⟨o, e⟩ := R.trk a ha
    exact ⟨o, by rw [upd_ne (fun z : a = D => nD (by rw [← z]; exact ha))]; exact e⟩
  · by_cases z : a = D
    · subst z; exact ⟨_, upd_same⟩
    · obtain ⟨o, e⟩ := (R.fo a ha).1
      exact ⟨o, by rw [upd_ne z]; exact e⟩
  · have ne : a ≠ D := fun z => nD (by rw [← z]; exact List.mem_of_getElem? e2)
    exact (R.ob i o a e1 e2).move (List.prefix_refl _) k1 k2 fun x e => by rw [upd_ne ne]; exact e
theorem Rel.joinD (R : Rel K N P ρ st H) (hD : H D = none) : Rel K N (PD P D) ρ st (upd H D (.dK [])) := by
  have nD : D ∉ ρ := fun m => by obtain ⟨o, e⟩ := R.trk D m; rw [hD] at e; cases e
  have g : Grow ρ st H ρ st (upd H D (.dK [])) := (Step.laid R hD).grow
  have hP : ∀ a, PD P D a → P a ∨ H a = none := fun a q => q.imp_right fun z => by rw [z]; exact hD
  refine ⟨R.len, R.nd, fun a ha => ?_, fun a ha => ?_, fun i o a e1 e2 => ?_⟩
  · obtain ⟨o, e⟩ := R.trk a ha
    exact ⟨o, by rw [upd_ne (fun z : a = D => nD (by rw [← z]; exact ha))]; exact e⟩
  · rcases ha with ha | rfl
    · obtain ⟨⟨o, e⟩, n⟩ := R.fo a ha
      exact ⟨⟨o, by rw [upd_ne (fun z => by rw [z, hD] at e; cases e)]; exact e⟩, n⟩
    · exact ⟨⟨_, upd_same⟩, nD⟩
  · have ne : a ≠ D := fun z => nD (by rw [← z]; exact List.mem_of_getElem? e2)
    exact (R.ob i o a e1 e2).move g.pre (far_k g hP) (fun a vs q => g.sqT R q) fun x e => by rw [upd_ne ne]; exact e
end
section
variable (N : Nm) (T : Tab) (M : Md) (L : List Str) (k : Nat) (cl mk : CallS)
def GP (xs : List Ex) : Prop := ∀ (X : Cx) (sc : Scope) (W : WX) (ks : List (Option Expr)) (vs : List Expr) (pos : Pos), Hy X N T M L sc W k cl mk → chkPs M L xs sc ks vs = true →
  ∃ trs, PPs X pos ks vs trs ∧ ks.all (·.isSome) = true ∧ ks.length = vs.length ∧ xs.length = 2 * ks.length ∧
    ∀ σ H (Q : List (V × V) → Hp → Prop), tRs X.K N W (evs T cl mk xs) σ H (fun ws H' => Q (pairUp ws) H') → tPairs trs σ H Q
end
section
variable {N : Nm} {T : Tab} {M : Md} {L : List Str} {k : Nat} {cl mk : CallS}
theorem gp_nil : GP N T M L k cl mk [] := by
  intro X sc W ks vs pos h c
  cases ks <;> cases vs <;> (try (simp [chkPs] at c; done))
  refine ⟨[], pps_nil, rfl, rfl, rfl, fun σ H Q ⟨P, ρ, st, env, R, E, hh⟩ => ?_⟩
  simp only [evs] at hh
  exact hh ρ H (.refl R) [] .nil
theorem gp_one {x : Ex} : GP N T M L k cl mk [x] := by
  intro X sc W ks vs pos h c
  simp [chkPs] at c
theorem gp_cons {x y : Ex} {xs : List Ex} (hx : GE N T M L k cl mk x) (hy : GE N T M L k cl mk y) (hxs : GP N T M L k cl mk xs) : GP N T M L k cl mk (x :: y :: xs) := by
  intro X sc W ks vs pos h c
  cases ks <;> (try (simp [chkPs] at c; done))
  rename_i k0 ks
  cases k0 <;> (try (simp [chkPs] at c; done))
  cases vs <;> (try (simp [chkPs] at c; done))
  simp only [chkPs, Bool.and_eq_true] at c
  obtain ⟨⟨c1, c2⟩, c3⟩ := c
  obtain ⟨trs, t1, t2, t3, t4, t5⟩ := hxs X sc W ks _ pos h c3
  refine ⟨_, pps_cons (hx X sc W _ h c1).1 (hy X sc W _ h c2).1 t1, by simpa using t2, by simp [t3], by simp [t4]; omega, fun σ H Q ⟨P, ρ, st, env, R, E, hh⟩ => ?_⟩
  simp only [evs] at hh
  refine tR_bind R E hh fun v ρ' st' H' w g R' E' hw hp => ?_
  simp only [bind_assoc] at hp
  refine tR_bind R' E' hp fun v2 ρ2 st2 H2 w2 g2 R2 E2 hw2 hp2 => t5 _ _ _ ⟨P, ρ2, st2, env, R2, E2, ?_⟩
  have hp3 := hp2.bind
  refine hp3.mono fun ds ρ3 st3 H3 _ g3 hq ws hws => ?_
  exact hq ρ3 H3 (.refl g3.rel) (w :: w2 :: ws) (.cons ((hw.grow R' g2.grow _ _).grow R2 g3.grow _ _) (.cons (hw2.grow R2 g3.grow _ _) hws))
theorem g_dct {xs : List Ex} (hxs : GP N T M L k cl mk xs) : GE N T M L k cl mk (.dct xs) := by
  intro X sc W e h c
  cases e <;> (try (simp only [chkE, Bool.false_eq_true] at c; done))
  rename_i keys values pos
  simp only [chkE, Bool.and_eq_true, decide_eq_true_eq] at c
  obtain ⟨trs, t1, t2, t3, t4, t5⟩ := hxs X sc W keys values pos h c.2
  have hn15 : keys.length ≤ 15 := by have := c.1; omega
  have key : PE X (.Dict keys values pos) (tR X.K N W (ev T cl mk (.dct xs))) := by
    by_cases h0 : keys = []
    · subst h0
      cases values with
      | cons _ _ => simp at t3
      | nil =>
        have : xs = [] := List.length_eq_zero_iff.mp (by simpa using t4)
        subst this
        refine pe_dnewK.imp fun σ H Q ⟨P, ρ, st, env, R, E, hh⟩ => ?_
        simp only [ev, evs, Res.bind_ok, altL, List.all_nil, distK, Bool.true_and, List.length_nil] at hh
        rw [if_pos (by decide)] at hh
        intro p hp
        refine hh ρ _ (.laid R hp) _ ?_
        simp only [Rep]
        refine ⟨p, [], rfl, ⟨upd_same, fun l => ?_⟩, rfl, .nil⟩
        rcases l with l | ⟨_, _, z, _, _⟩
        · obtain ⟨⟨o, q⟩, _⟩ := R.fo p l
          rw [hp] at q; cases q
        · obtain ⟨o, q⟩ := R.trk p (List.mem_of_getElem? z)
          rw [hp] at q; cases q
    · refine (pe_disp t1 t2 t3 h0 hn15).imp fun σ H Q ⟨P, ρ, st, env, R, E, hh⟩ => ?_
      simp only [ev] at hh
      intro p hp
      have hP : ∀ a, PD P p a → P a ∨ H a = none := fun a q => q.imp_right fun z => by rw [z]; exact hp
      have g0 := Step.laid (o := .dK []) R hp
      refine t5 _ _ _ ⟨PD P p, ρ, st, env, R.joinD hp, E.far R g0.grow hP, ?_⟩
      cases he : evs T cl mk xs env st with
      | stuck => rw [he] at hh; exact hh.elim
      | exc c m s => 
        rw [he] at hh
        exact fun ρ2 H2 t g e => hh ρ2 H2 t ⟨g.rel.less fun a q => .inl q, g0.grow.trans g.grow⟩ e
      | ok ds st2 =>
        rw [he] at hh
        simp only [Res.bind_ok] at hh
        intro ρ2 H2 g ws hws
        have R2 : Rel X.K N P ρ2 st2 H2 := g.rel.less fun a q => .inl q
        have np : p ∉ ρ2 := (g.rel.fo p (.inr rfl)).2
        have hD : H2 p = some (.dK []) := g.grow.kept p _ (fun l => (R.joinD hp).fo p (.inr rfl) |>.2 (let ⟨_, _, z, _, _⟩ := l; List.mem_of_getElem? z)) upd_same
        refine ⟨hD, ?_⟩
        split at hh
        · rename_i hc
          simp only [Bool.and_eq_true, decide_eq_true_eq] at hc
          obtain ⟨⟨hc1, hc2⟩, hc3⟩ := hc
          have hlen : ds.length = 2 * keys.length := by
            rw [evs_len he]; exact t4
          obtain ⟨kvs, e1, e2, e3, e4⟩ := alt_reps keys.length hlen hws hc1
          refine ⟨kvs, e1, by omega, ?_⟩
          have em : mergeK [] kvs = kvs := by
            have := merge_new (kvs := kvs) (acc := []) (by simpa using dist_nodup e2 hc2)
            simpa using this
          rw [em]
          obtain ⟨k1, k2⟩ := alienD_k (K := X.K) (P := P) (ρ := ρ2) (st := st2) (acc' := kvs) hD
          have R3 : Rel X.K N P ρ2 st2 (upd H2 p (.dK kvs)) := (g.rel.alienD hD).less fun a q => .inl q
          refine hh ρ2 _ ⟨R3, grow_upd (g0.grow.trans g.grow) hp⟩ _ ?_
          simp only [Rep]
          refine ⟨p, kvs, rfl, ⟨upd_same, fun l => ?_⟩, e2, ?_⟩
          · rcases l with l | ⟨_, _, z, _, _⟩
            · obtain ⟨⟨o, q⟩, _⟩ := R.fo p l
              rw [hp] at q; cases q
            · exact np (List.mem_of_getElem? z)
          · exact (Reps.move (List.prefix_refl _) k1 k2 _ _ e3).less (lv_less fun a q => .inl q) _ _
        · exact hh.elim
  exact ⟨key, fun _ => pt_of key fun _ => rfl⟩
end
end Nlx
end
section
set_option Elab.async false
set_option linter.all false
set_option maxRecDepth 100000
set_option maxHeartbeats 8000000
/-! NlSnd8: comprehensions; all expressions. -/
namespace Nlx
open PySem PySem.Spec PyProof.Rows L2 Nl
section
variable {X : Cx} {N : Nm} {T : Tab} {M : Md} {L : List Str} {sc : Scope} {W : WX} {k : Nat} {cl mk : CallS} {e : Expr}
theorem blk_same {N : List Str} {sc sc' scope : Scope} {own : List (Str × Nat)} (h : SameSc sc sc') (b : BlkOk N sc scope own) : BlkOk N sc' scope own :=
  ⟨b.kind, b.uniq, b.ix, fun y hy e => by
    rcases h y.1 with q | ⟨_, q⟩
    · exact (b.free y hy e).imp (q.trans ·) (q.trans ·)
    · exact .inl q, b.own⟩
theorem calm_ok {α β : Type} {K : PySem.W.Frag} {P : Addr → Prop} {ρ : List Addr} {st : Nl.Store} {H : Hp} {r : Res α} {f : α → Nl.Store → Res β} {Q : β → List Addr → Nl.Store → Hp → Prop} {Xw : Nat → Addr → Hp → Prop} (h : Post K N P ρ st H (r.calm.bind f) Q Xw) : ∃ a s, r = .ok a s ∧ Post K N P ρ st H (f a s) Q Xw := by
  cases r with
  | ok a s => exact ⟨a, s, rfl, h⟩
  | exc _ _ _ => exact h.elim
  | stuck => exact h.elim
theorem cp1_parts {a it c0 : Ex} {t : List Nat} {one : Bool} (ha : GE N T M L k cl mk a) (hit : GE N T M L k cl mk it) (hiw : GW N T M L k cl mk it) (hc0 : GE N T M L k cl mk c0) {e' tg it' : Expr} {ifs : List Expr} {as : Int} {scope : Scope} {pos : Pos}
    (h : Hy X N T M L sc W k cl mk) (c : chkE M L (.cp1 a t one it c0) false sc (.ListComp e' [⟨tg, it', ifs, as⟩] scope pos) = true) :
    as = 0 ∧ ∃ (own : List (Str × Nat)) (tt : TT), PI X tg it' (tW X.K N W (ev T cl mk it)) ∧ BlkOk X.N X.env.scope scope own ∧
      (∀ (s : Shared) (H : Hp) (C : Addr) (cz : List (Str × Addr)) (fp : List Addr), PG (X.blk s H scope (compEnvC scope cz C X.env) fp) tg (gTg X.K t one)) ∧
      (∀ (s : Shared) (H : Hp) (C : Addr) (cz : List (Str × Addr)) (fp : List Addr), PTs (X.blk s H scope (compEnvC scope cz C X.env) fp) ifs tt) ∧
      (∀ (s : Shared) (H : Hp) (C : Addr) (cz : List (Str × Addr)) (fp : List Addr), PE (X.blk s H scope (compEnvC scope cz C X.env) fp) e' (tR X.K N (fun _ _ _ _ => False) (ev T cl mk a))) ∧
      (∀ x, foldedSetIterable it' X.env x = pure x) ∧
      ∀ σ H Q, tR X.K N W (ev T cl mk (.cp1 a t one it c0)) σ H Q → tLc (tW X.K N W (ev T cl mk it)) (gTg X.K t one) tt (tR X.K N (fun _ _ _ _ => False) (ev T cl mk a)) (own.map (·.2)) σ H Q := by
  simp only [chkE] at c
  cases ho : tgOf t one tg with
  | none => rw [ho] at c; cases c
  | some own =>
    rw [ho] at c
    simp only [Bool.and_eq_true, decide_eq_true_eq] at c
    obtain ⟨⟨⟨⟨⟨⟨⟨c1, c2⟩, c3⟩, c4⟩, c5⟩, c6⟩, c7⟩, c8⟩ := c
    subst c3
    have hpi : PI X tg it' (tW X.K N W (ev T cl mk it)) := by
      cases hw : walkE it with
      | true => rw [hw] at c6; exact hiw X sc W it' tg h c6 c5
      | false => rw [hw] at c6; exact pi_val (hit X sc W it' h c6).1
    have hb : ∀ (s : Shared) (H : Hp) (C : Addr) (cz : List (Str × Addr)) (fp : List Addr), Hy (X.blk s H scope (compEnvC scope cz C X.env) fp) N T M L scope (fun _ _ _ _ => False) k cl mk := fun s H C cz fp =>
      ⟨h.F, h.cal, h.mak, ⟨h.ok.nm, h.ok.nd, SameSc.relabel scope X.env, h.ok.calm, h.ok.room, Caught.none, fun n e => by show (scope.names.lookup n == some .cell) = true; rw [e]; rfl, h.ok.gd⟩⟩
    have hown : own.map (·.2) = t := (pg_tgt (X := X.blk X.s_0 X.H_0 scope (compEnvC scope [] 0 X.env) []) h.ok.calm h.ok.nm h.ok.nd (SameSc.relabel scope X.env) (fun n e => by show (scope.names.lookup n == some .cell) = true; rw [e]; rfl) ho c2).2
    have htst : ∃ tt : TT, (∀ (s : Shared) (H : Hp) (C : Addr) (cz : List (Str × Addr)) (fp : List Addr), PTs (X.blk s H scope (compEnvC scope cz C X.env) fp) ifs tt) ∧ (∀ σ H Q, tRb X.K N (fun _ _ _ _ => False) (fun env st => (ev T cl mk c0 env st).bind asBool) σ H Q → tt σ H Q) := by
      cases ifs with
      | nil =>
        refine ⟨tYes, fun _ _ _ _ _ => pts_nil, fun σ H Q ⟨P, ρ, st, env, R, E, hh⟩ => ?_⟩
        replace c8 : isTrueC c0 = true := c8
        have e0 : c0 = .cst (.bl true) := by
          unfold isTrueC at c8
          split at c8
          · rfl
          · cases c8
        subst e0
        simp only [ev, Res.bind_ok, asBool] at hh
        exact hh ρ H (.refl R)
      | cons q ifs =>
        cases ifs with
        | nil =>
          simp only [Bool.and_eq_true] at c8
          exact ⟨_, fun s H C cz fp => pts_one ((hc0 _ scope _ q (hb s H C cz fp) c8.2).2 c8.1), fun σ H Q q => q⟩
        | cons _ _ => exact absurd c8 (by simp)
    obtain ⟨tt, htt, hred⟩ := htst
    refine ⟨rfl, own, tt, hpi, by rw [h.ok.nm]; exact blk_same h.ok.hsc (blkOk_by c1), fun s H C cz fp => (pg_tgt (X := X.blk s H scope (compEnvC scope cz C X.env) fp) h.ok.calm h.ok.nm h.ok.nd (SameSc.relabel scope X.env) (fun n e => by show (scope.names.lookup n == some .cell) = true; rw [e]; rfl) ho c2).1, htt,
      fun s H C cz fp => (ha _ scope _ e' (hb s H C cz fp) c7).1, not_set c4 X.env, ?_⟩
    · intro σ H Q ⟨P, ρ, st, env, R, E, hh⟩
      simp only [ev] at hh
      refine ⟨P, ρ, st, env, R, E, hh.bind.mono fun v ρ1 st1 H1 _ g hp => ?_⟩
      have R1 := g.rel
      have E1 := E.step R g
      cases hwk : walked st1 v with
      | none => rw [hwk] at hp; exact hp.elim
      | some gx =>
        obtain ⟨gx, xs⟩ := gx
        rw [hwk] at hp
        dsimp only at hp
        split at hp
        · rename_i hlen
          refine ⟨gx, xs, rfl, fun J wk D hD => ?_⟩
          rw [hown]
          let cond : Nl.Env → Nl.Store → Res Bool := fun env s => (ev T cl mk c0 env s).bind asBool
          let el : Nl.Env → Nl.Store → Res Val := fun env s => ev T cl mk a env s
          have hP : ∀ b, PD P D b → P b ∨ H1 b = none := fun b q => q.imp_right fun z => by rw [z]; exact hD
          refine ⟨fun i m H2 => ∃ (ρ2 : List Addr) (st2 : Nl.Store) (accd : List Val) (acc : List V), m = xs.length - i ∧ i ≤ xs.length ∧ accd.length ≤ i ∧ H2 D = some (.lst acc) ∧ Rel X.K N (PD P D) ρ2 st2 H2 ∧ Grow ρ1 st1 H1 ρ2 st2 H2 ∧
            EnvRep X.K N ρ2 (Lv (PD P D) ρ2 st2) H2 (wipeE t env) (wipe σ t) ∧ Reps X.K N ρ2 (Lv (PD P D) ρ2 st2) H2 accd acc ∧
            Post X.K N P ρ1 st1 H1 ((mapL t one gx xs cond el (xs.drop i) (wipeE t env) st2).bind fun vs s => .ok (.lst (accd ++ vs)) s) (toQ X.K N P Q) (exW N W σ), ⟨xs.length, ?_⟩, ?_⟩
          · refine ⟨ρ1, st1, [], [], by simp, Nat.zero_le _, Nat.le_refl _, upd_same, R1.join hD, (Step.laid R1 hD).grow, (E1.far R1 (Step.laid R1 hD).grow hP).wipe, .nil, hp⟩
          · rintro i m H2 ⟨ρ2, st2, accd, acc, rfl, hi, hacc, hDl, R2, g2, E2, racc, hp2⟩
            have finL : ∀ {ρ4 : List Addr} {s4 : Nl.Store} {H4 : Hp}, Grow ρ2 st2 H2 ρ4 s4 H4 → H4 D = some (.lst acc) := fun {ρ4 s4 H4} g4 => g4.kept D _ (fun l => (R2.fo D (.inr rfl)).2 (let ⟨_, _, z, _, _⟩ := l; List.mem_of_getElem? z)) hDl
            rcases Nat.lt_or_ge i xs.length with hlt | hge
            · have hd : xs.drop i = xs[i] :: xs.drop (i + 1) := List.drop_eq_getElem_cons hlt
              rw [hd] at hp2
              unfold mapL at hp2
              split at hp2
              · rename_i hs
                cases hpt : putTg t one xs[i] (wipeE t env) with
                | none => rw [hpt] at hp2; exact hp2.elim
                | some env' =>
                  rw [hpt] at hp2
                  dsimp only at hp2
                  obtain ⟨wk1, _⟩ := wk (PD P D) i ρ2 st2 H2 hP g2 R2 hs
                  obtain ⟨hgo, hy⟩ := wk1 xs[i] (List.getElem?_eq_getElem hlt)
                  refine .inr ⟨hgo, _, fun H' p' => ⟨xs.length - (i + 1), by omega, p'⟩, fun x H3 hyl => ?_⟩
                  obtain ⟨s3, rx⟩ := hy x H3 hyl
                  refine gTg_of (E2.step R2 s3) rx hpt fun vs E3 => ⟨by rw [wipe_put (fun j hj => hj)]; exact wipe_wipe, hred _ _ _ ?_⟩
                  rw [bind_assoc] at hp2
                  obtain ⟨b, s4, eb, hp3⟩ := calm_ok hp2
                  refine ⟨PD P D, ρ2, st2, env', s3.rel, E3, ?_⟩
                  show Post X.K N (PD P D) ρ2 st2 H3 ((ev T cl mk c0 env' st2).bind asBool) _ _
                  rw [show (ev T cl mk c0 env' st2).bind asBool = Res.ok b s4 from eb]
                  intro ρ4 H4 g4
                  have G4 := s3.grow.trans g4.grow
                  have E4 := (E2.step R2 s3).step s3.rel g4
                  have racc4 := (racc.grow R2 s3.grow _ _).grow s3.rel g4.grow _ _
                  cases b with
                  | true =>
                    dsimp only at hp3 ⊢
                    rw [if_pos rfl] at hp3 ⊢
                    rw [bind_assoc] at hp3
                    obtain ⟨v, s5, e5, hp5⟩ := calm_ok hp3
                    refine ⟨PD P D, ρ4, s4, env', g4.rel, E3.step s3.rel g4, ?_⟩
                    rw [show ev T cl mk a env' s4 = Res.ok v s5 from e5]
                    intro ρ5 H5 g5 w hw
                    have G5 := G4.trans g5.grow
                    have D5 := finL G5
                    obtain ⟨k1, k2⟩ := alien_k (K := X.K) (P := P) (ρ := ρ5) (st := s5) (acc' := acc ++ [w]) D5
                    have hal : acc.length = accd.length := racc.length.symm
                    refine ⟨acc, D5, by rw [hal, lineEq]; omega, ρ5, s5, accd ++ [v], acc ++ [w], rfl, hlt, by simp; omega, upd_same, g5.rel.alien D5, grow_upd (g2.trans G5) hD, ?_, ?_, ?_⟩
                    · have E5 := E4.step g4.rel g5
                      exact ⟨E5.1, fun j d hj => let ⟨w', h1, h2⟩ := E5.2 j d hj; ⟨w', h1, h2.move (List.prefix_refl _) k1 k2 _ _⟩⟩
                    · exact Reps.move (List.prefix_refl _) k1 k2 _ _ ((racc4.grow g4.rel g5.grow _ _).app (.cons hw .nil))
                    · rw [bind_assoc] at hp5
                      have : (fun (vs : List Val) (s : Nl.Store) => (Res.ok (v :: vs) s).bind fun vs s => Res.ok (Val.lst (accd ++ vs)) s) = fun vs s => Res.ok (Val.lst (accd ++ [v] ++ vs)) s := by
                        funext vs s
                        simp
                      rw [this] at hp5
                      exact hp5
                  | false =>
                    dsimp only at hp3 ⊢
                    rw [if_neg Bool.false_ne_true] at hp3 ⊢
                    exact ⟨ρ4, s4, accd, acc, rfl, hlt, Nat.le_succ_of_le hacc, finL G4, g4.rel, g2.trans G4, E4, racc4, hp3⟩
              · exact hp2.elim
            · have ei : i = xs.length := Nat.le_antisymm hi hge
              rw [ei, List.drop_length] at hp2
              unfold mapL at hp2
              split at hp2
              · rename_i hs
                left
                refine ⟨(wk (PD P D) i ρ2 st2 H2 hP g2 R2 hs).2 ei, ?_⟩
                simp only [Res.bind_ok, List.append_nil] at hp2
                have R2' : Rel X.K N P ρ2 st2 H2 := R2.less fun b q => .inl q
                refine hp2 ρ2 H2 ⟨R2', g2⟩ _ ?_
                simp only [Rep]
                refine ⟨D, acc, rfl, ⟨hDl, fun l => ?_⟩, racc.less (lv_less fun b q => .inl q) _ _⟩
                rcases l with l | ⟨_, _, z, _, _⟩
                · obtain ⟨⟨o, q⟩, _⟩ := R1.fo D l
                  rw [hD] at q; cases q
                · exact (R2.fo D (.inr rfl)).2 (List.mem_of_getElem? z)
              · exact hp2.elim
        · exact hp.elim
theorem g_cp1 {a it c0 : Ex} {t : List Nat} {one : Bool} (ha : GE N T M L k cl mk a) (hit : GE N T M L k cl mk it) (hiw : GW N T M L k cl mk it) (hc0 : GE N T M L k cl mk c0) : GE N T M L k cl mk (.cp1 a t one it c0) := by
  intro X sc W e h c
  cases e <;> (try (simp only [chkE, Bool.false_eq_true] at c; done))
  rename_i e' gens scope pos
  cases gens <;> (try (simp only [chkE, Bool.false_eq_true] at c; done))
  rename_i gen gens
  cases gens <;> (try (simp only [chkE, Bool.false_eq_true] at c; done))
  obtain ⟨tg, it', ifs, as⟩ := gen
  obtain ⟨rfl, own, tt, h1, h2, h3, h4, h5, h6, h7⟩ := cp1_parts ha hit hiw hc0 h c
  have key : PE X (.ListComp e' [⟨tg, it', ifs, 0⟩] scope pos) (tR X.K N W (ev T cl mk (.cp1 a t one it c0))) :=
    (pe_lc (g := gTg X.K t one) (tt := tt) (te := tR X.K N (fun _ _ _ _ => False) (ev T cl mk a)) h.ok.calm (by rw [h.ok.nm]; exact h.ok.nd) h1 h2 h3 h4 h5 h6).imp fun σ H Q q => h7 σ H Q q
  exact ⟨key, fun _ => pt_of key fun _ => rfl⟩
theorem ge_no {x : Ex} (h : ∀ (w : Bool) (sc : Scope) (e : Expr), chkE M L x w sc e = false) : GE N T M L k cl mk x := by
  intro X sc W e _ c
  rw [h] at c
  cases c
end
section
variable {N : Nm} {T : Tab} {M : Md} {L : List Str} {k : Nat} {cl mk : CallS}
theorem gw_no {x : Ex} (h : ∀ (sc : Scope) (e : Expr), chkE M L x true sc e = false) : GW N T M L k cl mk x := by
  intro X sc W e _ _ c
  rw [h] at c
  cases c
mutual
theorem snd : ∀ x : Ex, GE N T M L k cl mk x ∧ GW N T M L k cl mk x
  | .var i => ⟨g_var, gw_of rfl⟩
  | .cst v => ⟨g_cst, gw_of rfl⟩
  | .glo g => ⟨g_glo, gw_of rfl⟩
  | .bin o a b => ⟨g_bin (snd a).1 (snd b).1, gw_of rfl⟩
  | .neg a => ⟨g_neg (snd a).1, gw_of rfl⟩
  | .cmp o a b => ⟨g_cmp (snd a).1 (snd b).1, gw_of rfl⟩
  | .chn o p a b c => ⟨g_chn (snd a).1 (snd b).1 (snd c).1, gw_of rfl⟩
  | .and a b => ⟨g_and (snd a).1 (snd b).1, gw_of rfl⟩
  | .or a b => ⟨g_or (snd a).1 (snd b).1, gw_of rfl⟩
  | .not a => ⟨g_not (snd a).1, gw_of rfl⟩
  | .ife c a b => ⟨g_ife (snd c).1 (snd a).1 (snd b).1, gw_of rfl⟩
  | .tup xs => ⟨g_tup (snds xs).1, gw_of rfl⟩
  | .lst xs => ⟨g_lst (snds xs).1, gw_of rfl⟩
  | .dct xs => ⟨g_dct (snd_prs xs), gw_of rfl⟩
  | .idx a i => ⟨g_idx (snd a).1 (snd i).1, gw_of rfl⟩
  | .slc a lo hi => ⟨g_slc (snd a).1 (snd lo).1 (snd hi).1, gw_of rfl⟩
  | .fld a f => ⟨g_fld (snd a).1, gw_of rfl⟩
  | .call f xs => ⟨g_call (snds xs).1, gw_of rfl⟩
  | .calv f xs => ⟨ge_no fun w sc e => by cases w <;> cases e <;> rfl, gw_of rfl⟩
  | .mk c xs => ⟨g_mk (snds xs).1, gw_of rfl⟩
  | .met m o xs => ⟨g_met (snd o).1 (snds xs).1, gw_of rfl⟩
  | .bi b xs => ⟨g_bi (snds xs).1 (snds xs).2, by
      cases b with
      | range => exact g_rng (snds xs).1
      | enum => exact g_enum (snds xs).1
      | zip => exact fun X sc W e tg h c ht => by simp [enumTg] at ht
      | _ => exact gw_of rfl⟩
  | .bm b o xs => ⟨g_bm (snd o).1 (snds xs).1, gw_of rfl⟩
  | .cp1 e t one it c => ⟨g_cp1 (snd e).1 (snd it).1 (snd it).2 (snd c).1, gw_of rfl⟩
  | .cp2 _ _ _ _ _ _ _ => ⟨ge_no fun w sc e => by cases w <;> cases e <;> rfl, gw_of rfl⟩
  | .cp3 _ _ _ _ _ _ _ _ _ _ => ⟨ge_no fun w sc e => by cases w <;> cases e <;> rfl, gw_of rfl⟩
  | .new a => ⟨by
      cases a with
      | lst xs => exact g_newLst (snd_lst xs)
      | _ => exact ge_no fun w sc e => by cases w <;> cases e <;> rfl, gw_of rfl⟩
  | .frz a => ⟨g_frz (snd a).1, gw_of rfl⟩
theorem snds : ∀ xs : List Ex, GS N T M L k cl mk xs ∧ ∀ x, xs = [x] → GE N T M L k cl mk x
  | [] => ⟨g_nil, fun x e => by cases e⟩
  | x :: xs => ⟨g_cons (snd x).1 (snds xs).1, fun y e => by cases e; exact (snd x).1⟩
theorem snd_prs : ∀ xs : List Ex, GP N T M L k cl mk xs
  | [] => gp_nil
  | [k] => gp_one
  | k :: v :: r => gp_cons (snd k).1 (snd v).1 (snd_prs r)
theorem snd_lst : ∀ xs : List Ex, GS N T M L k cl mk xs
  | [] => g_nil
  | x :: xs => g_cons (snd x).1 (snd_lst xs)
end
end
end Nlx
end
section
set_option Elab.async false
set_option linter.all false
set_option maxRecDepth 100000
set_option maxHeartbeats 8000000
/-! NlStm: statements: readings, the checker, the small ones. -/
namespace Nlx
open PySem PySem.Spec PyProof.Rows L2 Nl
/-- what is wanted behind a statement -/
def PostS (K : PySem.W.Frag) (N : Nm) (P : Addr → Prop) (ρ : List Addr) (st : Nl.Store) (H : Hp) (r : RS) (D : Ends) (W : WX) : Prop :=
  match r with
  | .next env st' => ∀ ρ' H' σ', Step K N P ρ st H ρ' st' H' → EnvRep K N ρ' (Lv P ρ' st') H' env σ' → D.nx σ' H'
  | .ret v st' => ∀ ρ' H', Step K N P ρ st H ρ' st' H' → ∀ w, Rep K N ρ' (Lv P ρ' st') H' v w → D.rt w H'
  | .brk env st' => ∀ ρ' H' σ', Step K N P ρ st H ρ' st' H' → EnvRep K N ρ' (Lv P ρ' st') H' env σ' → D.bk σ' H'
  | .cnt env st' => ∀ ρ' H' σ', Step K N P ρ st H ρ' st' H' → EnvRep K N ρ' (Lv P ρ' st') H' env σ' → D.ct σ' H'
  | .exc c m env st' => ∀ ρ' H' σ' t, Step K N P ρ st H ρ' st' H' → EnvRep K N ρ' (Lv P ρ' st') H' env σ' → H' t = some (.tup [.str (S m)]) → W (.ref (N.xa c)) (some t) σ' H'
  | .stuck => False
def tS (K : PySem.W.Frag) (N : Nm) (W : WX) (f : Nl.Env → Nl.Store → RS) : TS := fun D σ H => ∃ (P : Addr → Prop) (ρ : List Addr) (st : Nl.Store) (env : Nl.Env), Rel K N P ρ st H ∧ EnvRep K N ρ (Lv P ρ st) H env σ ∧ PostS K N P ρ st H (f env st) D W
section
variable {K : PySem.W.Frag} {N : Nm} {P : Addr → Prop} {ρ ρ1 : List Addr} {st st1 : Nl.Store} {H H1 : Hp} {r : RS} {D D' : Ends} {W : WX} {env : Nl.Env} {σ : L2.St}
theorem PostS.frm (g : Step K N P ρ st H ρ1 st1 H1) (h : PostS K N P ρ st H r D W) : PostS K N P ρ1 st1 H1 r D W := by
  cases r with
  | next e s => exact fun ρ' H' σ' g' => h ρ' H' σ' (g.trans g')
  | ret v s => exact fun ρ' H' g' => h ρ' H' (g.trans g')
  | brk e s => exact fun ρ' H' σ' g' => h ρ' H' σ' (g.trans g')
  | cnt e s => exact fun ρ' H' σ' g' => h ρ' H' σ' (g.trans g')
  | exc c m e s => exact fun ρ' H' σ' t g' => h ρ' H' σ' t (g.trans g')
  | stuck => exact h
/-- an expression first -/
theorem tS_into {α : Type} {f : Res α} {k : α → Nl.Store → RS} {Q : α → List Addr → Nl.Store → Hp → Prop} (R : Rel K N P ρ st H) (E : EnvRep K N ρ (Lv P ρ st) H env σ) (h : PostS K N P ρ st H (f.into env k) D W)
    (go : ∀ a st', PostS K N P ρ st H (k a st') D W → ∀ ρ' H', Step K N P ρ st H ρ' st' H' → Q a ρ' st' H') : Post K N P ρ st H f Q (exW N W σ) := by
  cases f with
  | ok a s => exact go a s h
  | exc c m s => exact fun ρ' H' t g e => h ρ' H' σ t g (E.step R g) e
  | stuck => exact h
theorem tS_into1 {g : Nl.Env → Nl.Store → Res Val} {k : Val → Nl.Store → RS} {Q : VK} (R : Rel K N P ρ st H) (E : EnvRep K N ρ (Lv P ρ st) H env σ) (h : PostS K N P ρ st H ((g env st).into env k) D W)
    (go : ∀ v ρ' st' H' w, Step K N P ρ st H ρ' st' H' → Rel K N P ρ' st' H' → EnvRep K N ρ' (Lv P ρ' st') H' env σ → Rep K N ρ' (Lv P ρ' st') H' v w → PostS K N P ρ' st' H' (k v st') D W → Q w H') : tR K N W g σ H Q :=
  ⟨P, ρ, st, env, R, E, tS_into R E h fun v st' hp ρ' H' g w hw => go v ρ' st' H' w g g.rel (E.step R g) hw (hp.frm g)⟩
theorem tS_then {f : Nl.Env → Nl.Store → RS} {k : Nl.Env → Nl.Store → RS} (h : tS K N W (fun env st => (f env st).then k) D σ H) : tS K N W f { D with nx := tS K N W k D } σ H := by
  obtain ⟨P, ρ, st, env, R, E, q⟩ := h
  refine ⟨P, ρ, st, env, R, E, ?_⟩
  dsimp only at q
  revert q
  cases f env st with
  | next e s => exact fun q ρ' H' σ' g E' => ⟨P, ρ', s, e, g.rel, E', PostS.frm g q⟩
  | ret v s => exact fun q => q
  | brk e s => exact fun q => q
  | cnt e s => exact fun q => q
  | exc c m e s => exact fun q => q
  | stuck => exact fun q => q
/-- a state that is there -/
theorem PostS.nx (R : Rel K N P ρ st H) (E : EnvRep K N ρ (Lv P ρ st) H env σ) (h : PostS K N P ρ st H (.next env st) D W) : D.nx σ H := h ρ H σ (.refl R) E
end
/-! ### the checker -/
section
variable (M : Md) (L : List Str)
def nmLv (sc : Scope) (i : Nat) (n : Str) : Bool := decide (L[i]? = some n) && isLoc sc n
/-- name = [..] whose stores swap -/
def swapB (sc : Scope) (sline : Nat) (t : Str) (tpos : Pos) : Expr → Bool
  | .ListComp _ _ s p => decide (sc.names.lookup t = some .local) && (tpos.line == p.line) && !(s.names.any fun (n, k) => n == t && (k == .local || k == .cell))
  | _ => false
/-- a tuple's names are stored from behind -/
def backB (sc : Scope) (ts : List Expr) : Expr → Bool
  | .Tuple vs _ _ => (ts.length == 2 || ts.length == 3) && vs.length == ts.length && ts.all (fun
      | .Name id pos => decide (sc.names.lookup id = some .local) && pos.line == (ts.head?.map (·.pos.line)).getD 0
      | _ => false) && !(vs.all (foldedForSure 8))
  | _ => false

/-- how a tuple's stores go: from the left (some false), plain names from behind (some true) -/
def swK (sc : Scope) (ts : List Expr) : Expr → Option Bool
  | .Tuple vs _ _ =>
    if (!(ts.length == 2 || ts.length == 3) || vs.length != ts.length) = true then some false
    else if (vs.any fun | .Starred .. => true | _ => false) = true then some false
    else
      let names := ts.filterMap fun
        | .Name id pos => if sc.names.lookup id == some .local && pos.line == (ts.head?.map (·.pos.line)).getD 0 then some id else none
        | _ => none
      if (names.length != ts.length || names.eraseDups.length != names.length) = true then some false
      else if vs.all (foldedForSure 8) = true then some false
      else if vs.all (constantsAlone 8) = true then none
      else some true
  | _ => some false
def chkLv : Nl.Lv → Scope → Expr → Bool
  | .nm i, sc, .Name n _ => nmLv L sc i n
  | .sub o i, sc, .Subscript o' i' _ => notSlice i' && chkE M L o false sc o' && chkE M L i false sc i'
  | _, _, _ => false
def chkLvs : List Nl.Lv → Scope → List Expr → Bool
  | [], _, [] => true
  | l :: ls, sc, e :: es => chkLv M L l sc e && chkLvs ls sc es
  | _, _, _ => false
/-- raise C(text) -/
def rsOf (x y : Option Expr) : Option (Str × Expr) := match y with
  | some _ => none
  | none => match x with
    | some (.Call (.Name n _) [e] [] _) => some (n, e)
    | _ => none
theorem rsOf_eq {x y : Option Expr} {n : Str} {e : Expr} (h : rsOf x y = some (n, e)) : ∃ p q, x = some (.Call (.Name n p) [e] [] q) ∧ y = none := by
  unfold rsOf at h
  split at h
  · cases h
  · split at h
    · cases h; exact ⟨_, _, rfl, rfl⟩
    · cases h
/-- try: .. except x: return e -/
def trOf : Stmt → Option (Str × List Stmt × Expr)
  | .Try b [.ExceptHandler (some (.Name x _)) none [.Return (some e) _] _] [] [] _ => some (x, b, e)
  | _ => none
theorem tr_size {t : Stmt} {x : Str} {b : List Stmt} {e : Expr} (h : trOf t = some (x, b, e)) : sizeOf b < sizeOf t := by
  unfold trOf at h
  split at h
  · cases h
    simp
    omega
  · cases h
mutual
def chkS : Sm → Scope → Stmt → Bool
  | .asg (.nm i) e, sc, .Assign [.Name n _] e' _ => nmLv L sc i n && chkE M L e false sc e'
  | .asg (.fld o f) e, sc, .Assign [.Attribute o' n _] e' _ => decide (M.flds.lookup n = some f) && chkE M L o false sc o' && chkE M L e false sc e'
  | .asg (.sub o i) e, sc, .Assign [.Subscript o' i' _] e' _ => notSlice i' && chkE M L o false sc o' && chkE M L i false sc i' && chkE M L e false sc e'
  | .gen ls e, sc, .Assign [.Tuple tgs _ _] e' _ => !(isComp e') && chkE M L e false sc e' && decide ((ls.filterMap fun | .nm i => some i | _ => none).Nodup) && chkLvs M L ls sc tgs && (match swK sc tgs e' with
      | some _ => true
      | none => false)
  | .aug (.nm i) o e, sc, .AugAssign (.Name n _) p e' _ => nmLv L sc i n && opB o p && chkE M L e false sc e'
  | .rai c e, sc, .Raise x y _ => (match rsOf x y with
      | some (n, e') => decide (M.exn.lookup n = some c) && gnOk M sc n && notStar e' && chkE M L e false sc e'
      | none => false)
  | .ex e, sc, .Expr e' _ => !(isComp e') && chkE M L e false sc e'
  | .ret e, sc, .Return (some e') _ => chkE M L e false sc e'
  | .retN, _, .Return none _ => true
  | .ifs c a b, sc, .If c' a' b' _ => tstOk c && chkE M L c false sc c' && chkSs a sc a' && chkSs b sc b'
  | .whl c b, sc, .While c' b' [] _ => tstOk c && chkE M L c false sc c' && chkSs b sc b'
  | .for_ t one it b, sc, .For tg it' b' [] _ => (match tgOf t one tg with
      | some own => tgOk L sc own && chkI M L it sc tg it' && chkSs b sc b'
      | none => false)
  | .try_ b c (.ret (.cst v)), sc, t => (match trOf t with
      | some (x, b', e) => decide (M.exn.lookup x = some c) && gnOk M sc x && chkSs b sc b' && cstB v e
      | none => false)
  | .brk, _, .Break _ => true
  | .cnt, _, .Continue _ => true
  | .pas, _, .Pass _ => true
  | _, _, _ => false
def chkSs : List Sm → Scope → List Stmt → Bool
  | [], _, [] => true
  | s :: ss, sc, t :: ts => chkS s sc t && chkSs ss sc ts
  | _, _, _ => false
end
end
end Nlx
end
section
set_option Elab.async false
set_option linter.all false
set_option maxRecDepth 100000
set_option maxHeartbeats 8000000
/-! NlStm2: statements of the core language are kept by the machine. -/
namespace Nlx
open PySem PySem.Spec PyProof.Rows L2 Nl
structure Hs (X : Cx) (N : Nm) (T : Tab) (M : Md) (L : List Str) (sc : Scope) (W : WX) (k : Nat) (cl mk : CallS) : Prop extends Hy X N T M L sc W k cl mk where
  own : PassesOwn (model X.prog X.w) X.A X.env X.xe
  stk : X.stack = X.env :: X.outer
  frm : X.env.frame = some X.env.locals
section
variable (N : Nm) (T : Tab) (M : Md) (L : List Str) (k : Nat) (cl mk : CallS)
def GM (s : Sm) : Prop := ∀ (X : Cx) (sc : Scope) (W : WX) (t : Stmt), Hs X N T M L sc W k cl mk → chkS M L s sc t = true → PS X t (tS X.K N W (evS T cl mk s))
def GMs (s : List Sm) : Prop := ∀ (X : Cx) (sc : Scope) (W : WX) (t : List Stmt), Hs X N T M L sc W k cl mk → chkSs M L s sc t = true → PSs X t (tS X.K N W (evSs T cl mk s))
end
section
variable {X : Cx} {N : Nm} {T : Tab} {M : Md} {L : List Str} {sc : Scope} {W : WX} {k : Nat} {cl mk : CallS}
theorem m_nil : GMs N T M L k cl mk [] := by
  intro X sc W t h c
  cases t with
  | cons _ _ => simp [chkSs] at c
  | nil =>
    refine pss_nil.imp fun D σ H ⟨P, ρ, st, env, R, E, hh⟩ => ?_
    simp only [evSs] at hh
    exact hh.nx R E
theorem m_cons {s : Sm} {ss : List Sm} (hs : GM N T M L k cl mk s) (hss : GMs N T M L k cl mk ss) : GMs N T M L k cl mk (s :: ss) := by
  intro X sc W t h c
  cases t with
  | nil => simp [chkSs] at c
  | cons t ts =>
    simp only [chkSs, Bool.and_eq_true] at c
    refine (pss_cons (hs X sc W t h c.1) (hss X sc W ts h c.2)).imp fun D σ H ⟨P, ρ, st, env, R, E, hh⟩ => ?_
    simp only [evSs] at hh
    exact tS_then ⟨P, ρ, st, env, R, E, hh⟩
theorem m_brk : GM N T M L k cl mk .brk := by
  intro X sc W t h c
  cases t <;> (try (simp only [chkS, Bool.false_eq_true] at c; done))
  refine ps_break.imp fun D σ H ⟨P, ρ, st, env, R, E, hh⟩ => ?_
  simp only [evS] at hh
  exact hh ρ H σ (.refl R) E
theorem m_cnt : GM N T M L k cl mk .cnt := by
  intro X sc W t h c
  cases t <;> (try (simp only [chkS, Bool.false_eq_true] at c; done))
  refine ps_continue.imp fun D σ H ⟨P, ρ, st, env, R, E, hh⟩ => ?_
  simp only [evS] at hh
  exact hh ρ H σ (.refl R) E
theorem m_pas : GM N T M L k cl mk .pas := by
  intro X sc W t h c
  cases t <;> (try (simp only [chkS, Bool.false_eq_true] at c; done))
  refine ps_pass.imp fun D σ H ⟨P, ρ, st, env, R, E, hh⟩ => ?_
  simp only [evS] at hh
  exact hh.nx R E
theorem m_retN : GM N T M L k cl mk .retN := by
  intro X sc W t h c
  cases t <;> (try (simp only [chkS, Bool.false_eq_true] at c; done))
  rename_i v pos
  cases v <;> (try (simp only [chkS, Bool.false_eq_true] at c; done))
  refine ps_retN.imp fun D σ H ⟨P, ρ, st, env, R, E, hh⟩ => ?_
  simp only [evS] at hh
  exact hh ρ H (.refl R) .non (by simp only [Rep])
theorem m_ret {e : Ex} : GM N T M L k cl mk (.ret e) := by
  intro X sc W t h c
  cases t <;> (try (simp only [chkS, Bool.false_eq_true] at c; done))
  rename_i v pos
  cases v <;> (try (simp only [chkS, Bool.false_eq_true] at c; done))
  rename_i e'
  simp only [chkS] at c
  refine (ps_ret ((snd e).1 X sc W e' h.toHy c).1).imp fun D σ H ⟨P, ρ, st, env, R, E, hh⟩ => ?_
  simp only [evS] at hh
  exact tS_into1 R E hh fun v ρ' st' H' w g R' E' hw hp => hp ρ' H' (.refl R') w hw
theorem m_ex {e : Ex} : GM N T M L k cl mk (.ex e) := by
  intro X sc W t h c
  cases t <;> (try (simp only [chkS, Bool.false_eq_true] at c; done))
  rename_i e' pos
  simp only [chkS, Bool.and_eq_true, Bool.not_eq_true'] at c
  refine (ps_expr ((snd e).1 X sc W e' h.toHy c.2).1 ?_).imp fun D σ H ⟨P, ρ, st, env, R, E, hh⟩ => ?_
  · have := c.1
    cases e' <;> first | rfl | (simp [isComp] at this)
  · simp only [evS] at hh
    exact tS_into1 R E hh fun v ρ' st' H' w g R' E' hw hp => hp.nx R' E'
theorem m_ifs {c0 : Ex} {a b : List Sm} (ha : GMs N T M L k cl mk a) (hb : GMs N T M L k cl mk b) : GM N T M L k cl mk (.ifs c0 a b) := by
  intro X sc W t h c
  cases t <;> (try (simp only [chkS, Bool.false_eq_true] at c; done))
  rename_i c' a' b' pos
  simp only [chkS, Bool.and_eq_true] at c
  obtain ⟨⟨⟨c1, c2⟩, c3⟩, c4⟩ := c
  refine (ps_if (((snd c0).1 X sc W c' h.toHy c2).2 c1) (ha X sc W a' h c3) (hb X sc W b' h c4)).imp fun D σ H ⟨P, ρ, st, env, R, E, hh⟩ => ?_
  simp only [evS] at hh
  refine ⟨P, ρ, st, env, R, E, tS_into R E hh fun d st' hp ρ' H' g => ?_⟩
  have hp' := hp.frm g
  cases d with
  | true => exact ⟨P, ρ', st', env, g.rel, E.step R g, hp'⟩
  | false => exact ⟨P, ρ', st', env, g.rel, E.step R g, hp'⟩
theorem locF {X : Cx} {sc : Scope} {n : Str} (hsc : SameSc sc X.env.scope) (hf : ∀ n, sc.names.lookup n = some .cell → X.fn n = true) (h : isLoc sc n = true) : Loc X.env.scope n ∧ (X.fn n = true ∨ X.env.scope.names.lookup n = some .local) := by
  have lc := hsc.loc h
  refine ⟨lc.imp_right fun q => q.2, ?_⟩
  rcases lc with q | q
  · exact .inr q
  · exact .inl (hf n q.1)
theorem m_asgN {i : Nat} {e : Ex} : GM N T M L k cl mk (.asg (.nm i) e) := by
  intro X sc W t h c
  cases t <;> (try (simp only [chkS, Bool.false_eq_true] at c; done))
  rename_i tgs e' pos
  cases tgs <;> (try (simp only [chkS, Bool.false_eq_true] at c; done))
  rename_i tg tgs
  cases tgs <;> (try (cases tg <;> simp only [chkS, Bool.false_eq_true] at c; done))
  cases tg <;> (try (simp only [chkS, Bool.false_eq_true] at c; done))
  rename_i n p
  simp only [chkS, nmLv, Bool.and_eq_true, decide_eq_true_eq] at c
  obtain ⟨⟨c1, c2⟩, c3⟩ := c
  obtain ⟨lc, hf⟩ := locF h.ok.hsc h.ok.fnc c2
  have hN : X.N.Nodup := by rw [h.ok.nm]; exact h.ok.nd
  have hi : X.N[i]? = some n := by rw [h.ok.nm]; exact c1
  have red : ∀ {D σ H}, tS X.K N W (evS T cl mk (.asg (.nm i) e)) D σ H → tAsg (tR X.K N W (ev T cl mk e)) (gName i) D σ H := fun {D σ H} ⟨P, ρ, st, env, R, E, hh⟩ => by
    simp only [evS] at hh
    exact tS_into1 R E hh fun v ρ' st' H' w g R' E' hw hp => hp.nx R' (E'.put i hw)
  have key : swapsWith e' (some (.Name n p)) pos.line X.env = pure false → PS X (.Assign [.Name n p] e' pos) (tS X.K N W (evS T cl mk (.asg (.nm i) e))) := fun hsw =>
    (ps_set hN hi lc ((snd e).1 X sc W e' h.toHy c3).1 hsw hf).imp fun D σ H q => red q
  cases e' with
  | ListComp elt gens scope cpos =>
    refine ⟨fun pins s σ H D I q => ?_⟩
    have hk := I.ok.kind
    cases hsw : (X.env.blockKind == .function && X.env.kindOf n == some .local && p.line == cpos.line && !(scope.names.any fun (n', k') => n' == n && (k' == .local || k' == .cell))) with
    | false => exact (key (by show (pure _ : Sem Bool) = pure false; exact congrArg pure hsw)).run pins s σ H D I q
    | true =>
      have hl : X.env.scope.names.lookup n = some .local := by
        simp only [Bool.and_eq_true, beq_iff_eq] at hsw
        exact hsw.1.1.2
      cases e <;> (try (simp only [chkE, Bool.false_eq_true] at c3; done)) <;> (try (simp [chkE, isComp, cstB] at c3; done))
      rename_i a t one it c0
      cases gens <;> (try (simp only [chkE, Bool.false_eq_true] at c3; done))
      rename_i gen gens
      cases gens <;> (try (simp only [chkE, Bool.false_eq_true] at c3; done))
      obtain ⟨tg, it', ifs, as⟩ := gen
      obtain ⟨rfl, own, tt, h1, h2, h3, h4, h5, h6, h7⟩ := cp1_parts (snd a).1 (snd it).1 (snd it).2 (snd c0).1 h.toHy c3
      refine ((ps_setLc (g := gTg X.K t one) (tt := tt) (te := tR X.K N (fun _ _ _ _ => False) (ev T cl mk a)) h.ok.calm hN hi hl ?_ h1 h2 h3 h4 h5 h6).imp fun D σ H q => ?_).run pins s σ H D I q
      · show (pure _ : Sem Bool) = pure true
        exact congrArg pure hsw
      · exact h7 _ _ _ (red q)
  | SetComp _ _ _ _ => exfalso; cases e <;> (try (simp only [chkE, Bool.false_eq_true] at c3; done)) <;> (try (simp [chkE, isComp, cstB] at c3; done))
  | DictComp _ _ _ _ _ => exfalso; cases e <;> (try (simp only [chkE, Bool.false_eq_true] at c3; done)) <;> (try (simp [chkE, isComp, cstB] at c3; done))
  | _ => exact key rfl
theorem swaps_no {v t : Expr} {l : Nat} {env : PySem.Env} (ht : ∀ n p, t ≠ .Name n p) : swapsWith v (some t) l env = pure false := by
  cases v <;> first | rfl | (cases t <;> first | rfl | exact absurd rfl (ht _ _))
theorem setFld_at {a : Nat} {f : Nat} {v : Val} {st st' : Nl.Store} {x : Val} (h : setFldV x f v st = some st') : ∃ a c fs ws, x = .ref a ∧ st[a]? = some (.ins c fs ws) ∧ fs.length < 900 ∧ st' = st.set a (.ins c (Nl.putF f v fs ws).1 (Nl.putF f v fs ws).2) := by
  cases x with
  | ref a =>
    cases hs : st[a]? with
    | none => simp [setFldV, hs] at h
    | some o =>
      cases o with
      | ins c fs ws =>
        simp only [setFldV, hs] at h
        by_cases hl : fs.length < 900
        · rw [if_pos hl] at h
          cases h
          exact ⟨a, c, fs, ws, rfl, hs, hl, rfl⟩
        · rw [if_neg hl] at h; cases h
      | _ => simp [setFldV, hs] at h
  | _ => simp [setFldV] at h
theorem put_look {K : PySem.W.Frag} {ρ : List Addr} {Lx : Addr → Prop} {H : Hp} (inj : ∀ i j, N.fl i = N.fl j → i = j) {f : Nat} {v : Val} {w : V} (hw : Rep K N ρ Lx H v w) : ∀ {fs : List Nat} {ws : List Val} {fvs : List (Str × V)}, fvs.map (·.1) = fs.map N.fl → Reps K N ρ Lx H ws (fvs.map (·.2)) →
    (L2.putF (N.fl f) w fvs).map (·.1) = (Nl.putF f v fs ws).1.map N.fl ∧ Reps K N ρ Lx H (Nl.putF f v fs ws).2 ((L2.putF (N.fl f) w fvs).map (·.2))
  | [], ws, fvs, e, r => by
    cases fvs with
    | cons _ _ => simp at e
    | nil =>
      simp only [List.map_nil] at r
      cases ws with
      | nil => exact ⟨rfl, .cons hw .nil⟩
      | cons _ _ => simp [Reps] at r
  | g :: fs, [], fvs, e, r => by
    cases fvs with
    | nil => simp at e
    | cons p fvs => simp [Reps] at r
  | g :: fs, y :: ws, [], e, r => by simp at e
  | g :: fs, y :: ws, (n, z) :: fvs, e, r => by
    simp only [List.map_cons, List.cons.injEq] at e
    simp only [List.map_cons, Reps, List.cons.injEq] at r
    obtain ⟨v', r', ⟨rfl, rfl⟩, h1, h2⟩ := r
    by_cases hg : g = f
    · subst hg
      have e1 : Nl.putF g v (g :: fs) (y :: ws) = (g :: fs, v :: ws) := by simp [Nl.putF]
      have e2 : L2.putF (N.fl g) w ((n, z) :: fvs) = (n, w) :: fvs := by simp [L2.putF, e.1]
      rw [e1, e2]
      exact ⟨by simp [e.1, e.2], .cons hw h2⟩
    · obtain ⟨i1, i2⟩ := put_look inj hw e.2 h2
      have hn : ¬ N.fl g = N.fl f := fun q => hg (inj _ _ q)
      have e1 : Nl.putF f v (g :: fs) (y :: ws) = (g :: (Nl.putF f v fs ws).1, y :: (Nl.putF f v fs ws).2) := by simp [Nl.putF, hg]
      have e2 : L2.putF (N.fl f) w ((n, z) :: fvs) = (n, z) :: L2.putF (N.fl f) w fvs := by
        simp only [L2.putF]
        rw [e.1]
        simp [hn]
      rw [e1, e2]
      exact ⟨by simp [e.1, i1], .cons h1 i2⟩
theorem m_asgF {o : Ex} {f : Nat} {e : Ex} : GM N T M L k cl mk (.asg (.fld o f) e) := by
  intro X sc W t h c
  cases t <;> (try (simp only [chkS, Bool.false_eq_true] at c; done))
  rename_i tgs e' pos
  cases tgs <;> (try (simp only [chkS, Bool.false_eq_true] at c; done))
  rename_i tg tgs
  cases tgs <;> (try (cases tg <;> simp only [chkS, Bool.false_eq_true] at c; done))
  cases tg <;> (try (simp only [chkS, Bool.false_eq_true] at c; done))
  rename_i o' n p
  simp only [chkS, Bool.and_eq_true, decide_eq_true_eq] at c
  obtain ⟨⟨c1, c2⟩, c3⟩ := c
  obtain ⟨ef, hc⟩ := h.F.fld n f c1
  refine (ps_fld ((snd o).1 X sc W o' h.toHy c2).1 ((snd e).1 X sc W e' h.toHy c3).1 (swaps_no (by intro _ _ z; cases z))).imp fun D σ H ⟨P, ρ, st, env, R, E, hh⟩ => ?_
  simp only [evS, putLv] at hh
  refine tS_into1 R E hh fun v ρ' st' H' w g R' E' hw hp => tS_into1 R' E' hp fun x ρ2 st2 H2 wx g2 R2 E2 hx hp2 => ?_
  have hw2 := hw.grow R' g2.grow _ _
  cases hs : setFldV x f v st2 with
  | none => rw [hs] at hp2; exact hp2.elim
  | some st3 =>
    rw [hs] at hp2
    obtain ⟨a, cc, fs, ws, rfl, hst, hl, rfl⟩ := setFld_at (a := 0) hs
    obtain ⟨a0, rfl, q⟩ := rep_ref hx
    obtain ⟨dx, fvs, e1, e2, r⟩ := R2.ob _ _ _ hst q
    have hlen : fvs.length = fs.length := by simpa using congrArg List.length e2
    refine ⟨a0, _, dx, fvs, rfl, e1, (hc _).1, (hc _).2, by omega, ?_⟩
    obtain ⟨p1, p2⟩ := put_look (f := f) h.F.finj hw2 e2 r
    rw [ef] at p1 p2
    have g3 : Step X.K N P ρ2 st2 H2 ρ2 (st2.set a (.ins cc (Nl.putF f v fs ws).1 (Nl.putF f v fs ws).2)) (upd H2 a0 (.ins (N.ca cc) dx (L2.putF n w fvs))) := by
      refine Step.write R2 hst q (by simp) ⟨dx, _, upd_same, p1, ?_⟩
      exact Reps.grow R2 (Grow.write (b := .ins cc fs ws) hst q (by simp)) _ _ p2
    exact PostS.nx g3.rel (E2.step R2 g3) (hp2.frm g3)
theorem m_asgS {o i : Ex} {e : Ex} : GM N T M L k cl mk (.asg (.sub o i) e) := by
  intro X sc W t h c
  cases t <;> (try (simp only [chkS, Bool.false_eq_true] at c; done))
  rename_i tgs e' pos
  cases tgs <;> (try (simp only [chkS, Bool.false_eq_true] at c; done))
  rename_i tg tgs
  cases tgs <;> (try (cases tg <;> simp only [chkS, Bool.false_eq_true] at c; done))
  cases tg <;> (try (simp only [chkS, Bool.false_eq_true] at c; done))
  rename_i o' i' p
  simp only [chkS, Bool.and_eq_true] at c
  obtain ⟨⟨⟨c0, c1⟩, c2⟩, c3⟩ := c
  have ha : ∀ v, assign (.Subscript o' i' p) X.env v = (do
      let ov ← holding [v] (eval o' X.env)
      let iv ← holding [v, ov] (eval i' X.env)
      standAt p
      holding [v, ov, iv] (setItem ov iv v)
      release [v, ov, iv] []) := fun v => by
    cases i' <;> first | rfl | (simp [notSlice] at c0)
  have hsw : swapsWithSole [.Subscript o' i' p] e' pos.line X.env = pure false := by
    show swapsWith e' (some (.Subscript o' i' p)) pos.line X.env = pure false
    exact swaps_no (fun n p z => by cases z)
  have hst : swappedStores [.Subscript o' i' p] e' X.env = pure none := by cases e' <;> rfl
  refine (ps_asg ((snd e).1 X sc W e' h.toHy c3).1 (pg_sub ((snd o).1 X sc W o' h.toHy c1).1 ((snd i).1 X sc W i' h.toHy c2).1 set_list ha) hsw hst rfl).imp fun D σ H ⟨P, ρ, st, env, R, E, hh⟩ => ?_
  simp only [evS, putLv] at hh
  refine tS_into1 R E hh fun v ρ' st' H' w g R' E' hw hp => tS_into1 R' E' hp fun x ρ2 st2 H2 wx g2 R2 E2 hx hp2 => tS_into1 R2 E2 hp2 fun y ρ3 st3 H3 wy g3 R3 E3 hy hp3 => ?_
  have hw3 := (hw.grow R' g2.grow _ _).grow R2 g3.grow _ _
  have hx3 := hx.grow R2 g3.grow _ _
  cases hs : setItV x y v st3 with
  | none => rw [hs] at hp3; exact hp3.elim
  | some st4 =>
    rw [hs] at hp3
    cases x <;> (try (simp [setItV] at hs; done))
    rename_i a
    cases hst : st3[a]? with
    | none => simp [setItV, hst] at hs
    | some ob =>
      cases ob <;> (try (simp [setItV, hst] at hs; done))
      rename_i ys
      cases y <;> (try (simp [setItV, hst] at hs; done))
      rename_i j
      simp only [setItV, hst] at hs
      cases hj : ixOf ys.length j with
      | none => rw [hj] at hs; cases hs
      | some k0 =>
        rw [hj] at hs
        cases hs
        obtain ⟨a0, vs, rfl, q, h1, h2⟩ := R3.lstAt hx3 hst
        simp only [Rep] at hy
        subst hy
        have g4 := R3.putLst hst q (h2.setAt k0 hw3)
        exact ⟨a0, vs, j, k0, rfl, rfl, h1, by rw [← ixOf_eq, ← h2.length]; exact hj, PostS.nx g4.rel (E3.step R3 g4) (hp3.frm g4)⟩
end
end Nlx
end
section
set_option Elab.async false
set_option linter.all false
set_option maxRecDepth 100000
set_option maxHeartbeats 8000000
/-! NlStm3: loops. -/
namespace Nlx
open PySem PySem.Spec PyProof.Rows L2 Nl
section
variable {X : Cx} {N : Nm} {T : Tab} {M : Md} {L : List Str} {sc : Scope} {W : WX} {k : Nat} {cl mk : CallS}
theorem pi_it {it : Ex} {tg it' : Expr} (h : Hy X N T M L sc W k cl mk) (c : chkI M L it sc tg it' = true) : PI X tg it' (tW X.K N W (ev T cl mk it)) ∧ ∀ x, foldedSetIterable it' X.env x = pure x := by
  unfold chkI at c
  simp only [Bool.and_eq_true] at c
  refine ⟨?_, not_set c.1.1 X.env⟩
  cases hw : walkE it with
  | true => rw [hw] at c; exact (snd it).2 X sc W it' tg h c.2 c.1.2
  | false => rw [hw] at c; exact pi_val ((snd it).1 X sc W it' h c.2).1
theorem m_for {t : List Nat} {one : Bool} {it : Ex} {b : List Sm} (hb : GMs N T M L k cl mk b) : GM N T M L k cl mk (.for_ t one it b) := by
  intro X sc W s h c
  cases s <;> (try (simp only [chkS, Bool.false_eq_true] at c; done))
  rename_i tg it' b' els pos
  cases els <;> (try (simp only [chkS, Bool.false_eq_true] at c; done))
  simp only [chkS] at c
  cases ho : tgOf t one tg with
  | none => rw [ho] at c; cases c
  | some own =>
    rw [ho] at c
    simp only [Bool.and_eq_true] at c
    obtain ⟨⟨c1, c2⟩, c3⟩ := c
    obtain ⟨hpi, hfs⟩ := pi_it h.toHy c2
    have hpg := (pg_tgt h.ok.calm h.ok.nm h.ok.nd h.ok.hsc h.ok.fnc ho c1).1
    refine (ps_for h.own h.ok.calm hpi hpg (hb X sc W b' h c3) hfs).imp fun D σ H ⟨P, ρ, st, env, R, E, hh⟩ => ?_
    simp only [evS] at hh
    refine ⟨P, ρ, st, env, R, E, tS_into R E hh fun v st1 hp ρ1 H1 g => ?_⟩
    have R1 := g.rel
    have E1 := E.step R g
    replace hp := hp.frm g
    cases hwk : walked st1 v with
    | none => rw [hwk] at hp; exact hp.elim
    | some gx =>
      obtain ⟨gx, xs⟩ := gx
      rw [hwk] at hp
      dsimp only at hp
      refine ⟨gx, xs, rfl, fun J wk => ?_⟩
      let body : Nl.Env → Nl.Store → RS := fun env st => evSs T cl mk b env st
      refine ⟨fun i m σ2 H2 => ∃ (ρ2 : List Addr) (st2 : Nl.Store) (env2 : Nl.Env), m = xs.length - i ∧ i ≤ xs.length ∧ Rel X.K N P ρ2 st2 H2 ∧ Grow ρ1 st1 H1 ρ2 st2 H2 ∧ EnvRep X.K N ρ2 (Lv P ρ2 st2) H2 env2 σ2 ∧
        PostS X.K N P ρ1 st1 H1 (forL t one gx xs body (xs.drop i) env2 st2) D W, ⟨xs.length, ρ1, st1, env, by simp, Nat.zero_le _, R1, .refl, E1, hp⟩, ?_⟩
      rintro i m σ2 H2 ⟨ρ2, st2, env2, rfl, hi, R2, g2, E2, hp2⟩
      rcases Nat.lt_or_ge i xs.length with hlt | hge
      · have hd : xs.drop i = xs[i] :: xs.drop (i + 1) := List.drop_eq_getElem_cons hlt
        rw [hd] at hp2
        unfold forL at hp2
        split at hp2
        · rename_i hs
          cases hpt : putTg t one xs[i] env2 with
          | none => rw [hpt] at hp2; exact hp2.elim
          | some env' =>
            rw [hpt] at hp2
            dsimp only at hp2
            obtain ⟨wk1, _⟩ := wk P i ρ2 st2 H2 (fun a q => .inl q) g2 R2 hs
            obtain ⟨hgo, hy⟩ := wk1 xs[i] (List.getElem?_eq_getElem hlt)
            refine .inr ⟨hgo, _, fun σ' H' p' => ⟨xs.length - (i + 1), by omega, p'⟩, fun x H3 hyl => ?_⟩
            obtain ⟨s3, rx⟩ := hy x H3 hyl
            refine gTg_of (E2.step R2 s3) rx hpt fun vs E3 => ⟨P, ρ2, st2, env', s3.rel, E3, ?_⟩
            have gg : ∀ {ρ4 s4 H4}, Step X.K N P ρ2 st2 H3 ρ4 s4 H4 → Step X.K N P ρ1 st1 H1 ρ4 s4 H4 := fun {ρ4 s4 H4} g4 => ⟨g4.rel, (g2.trans s3.grow).trans g4.grow⟩
            revert hp2
            show PostS X.K N P ρ1 st1 H1 (match body env' st2 with | .next e s => forL t one gx xs body (xs.drop (i + 1)) e s | .cnt e s => forL t one gx xs body (xs.drop (i + 1)) e s | .brk e s => .next e s | o => o) D W → PostS X.K N P ρ2 st2 H3 (body env' st2) _ W
            cases body env' st2 with
            | next e s => exact fun hp3 ρ4 H4 σ4 g4 E4 => ⟨ρ4, s, e, rfl, hlt, g4.rel, (gg g4).grow, E4, hp3⟩
            | cnt e s => exact fun hp3 ρ4 H4 σ4 g4 E4 => ⟨ρ4, s, e, rfl, hlt, g4.rel, (gg g4).grow, E4, hp3⟩
            | brk e s => exact fun hp3 ρ4 H4 σ4 g4 E4 => hp3 ρ4 H4 σ4 (gg g4) E4
            | ret v s => exact fun hp3 ρ4 H4 g4 => hp3 ρ4 H4 (gg g4)
            | exc c m e s => exact fun hp3 ρ4 H4 σ4 t g4 => hp3 ρ4 H4 σ4 t (gg g4)
            | stuck => exact fun hp3 => hp3
        · exact hp2.elim
      · have ei : i = xs.length := Nat.le_antisymm hi hge
        rw [ei, List.drop_length] at hp2
        unfold forL at hp2
        split at hp2
        · rename_i hs
          exact .inl ⟨(wk P i ρ2 st2 H2 (fun a q => .inl q) g2 R2 hs).2 ei, hp2 ρ2 H2 σ2 ⟨R2, g2⟩ E2⟩
        · exact hp2.elim
theorem m_whl {c0 : Ex} {b : List Sm} (hb : GMs N T M L k cl mk b) : GM N T M L k cl mk (.whl c0 b) := by
  intro X sc W s h c
  cases s <;> (try (simp only [chkS, Bool.false_eq_true] at c; done))
  rename_i c' b' els pos
  cases els <;> (try (simp only [chkS, Bool.false_eq_true] at c; done))
  simp only [chkS, Bool.and_eq_true] at c
  obtain ⟨⟨c1, c2⟩, c3⟩ := c
  refine (ps_while h.own (((snd c0).1 X sc W c' h.toHy c2).2 c1) (hb X sc W b' h c3)).imp fun D σ H ⟨P, ρ, st, env, R, E, hh⟩ => ?_
  simp only [evS] at hh
  unfold whileD at hh
  split at hh
  · rename_i hx
    obtain ⟨n0, r0, hr, hq⟩ : ∃ n r, whileN (fun env st => (ev T cl mk c0 env st).bind asBool) (fun env st => evSs T cl mk b env st) n env st = some r ∧ PostS X.K N P ρ st H r D W := ⟨_, _, hx.choose_spec.choose_spec, hh⟩
    clear hh
    let cnd : Nl.Env → Nl.Store → Res Bool := fun env st => (ev T cl mk c0 env st).bind asBool
    let body : Nl.Env → Nl.Store → RS := fun env st => evSs T cl mk b env st
    refine ⟨fun m σ2 H2 => ∃ (ρ2 : List Addr) (st2 : Nl.Store) (env2 : Nl.Env) (r : RS), Rel X.K N P ρ2 st2 H2 ∧ Grow ρ st H ρ2 st2 H2 ∧ EnvRep X.K N ρ2 (Lv P ρ2 st2) H2 env2 σ2 ∧ whileN cnd body m env2 st2 = some r ∧ PostS X.K N P ρ st H r D W,
      ⟨n0, ρ, st, env, r0, R, .refl, E, hr, hq⟩, ?_⟩
    rintro m σ2 H2 ⟨ρ2, st2, env2, r, R2, g2, E2, hw, hp⟩
    cases m with
    | zero => simp [whileN] at hw
    | succ m =>
      have gg : ∀ {ρ4 s4 H4}, Step X.K N P ρ2 st2 H2 ρ4 s4 H4 → Step X.K N P ρ st H ρ4 s4 H4 := fun {ρ4 s4 H4} g4 => ⟨g4.rel, g2.trans g4.grow⟩
      refine ⟨P, ρ2, st2, env2, R2, E2, ?_⟩
      revert hw
      show (match cnd env2 st2 with
        | .ok false s => some (.next env2 s)
        | .ok true s => (match body env2 s with
          | .next e s2 => whileN cnd body m e s2
          | .cnt e s2 => whileN cnd body m e s2
          | .brk e s2 => some (.next e s2)
          | o => some o)
        | .exc k m s => some (.exc k m env2 s)
        | .stuck => some .stuck) = some r → Post X.K N P ρ2 st2 H2 (cnd env2 st2) _ _
      cases cnd env2 st2 with
      | ok d s =>
        cases d with
        | false =>
          intro hw
          cases hw
          intro ρ3 H3 g3
          dsimp only
          rw [if_neg Bool.false_ne_true]
          exact hp ρ3 H3 σ2 (gg g3) (E2.step R2 g3)
        | true =>
          intro hw ρ3 H3 g3
          dsimp only
          rw [if_pos rfl]
          refine ⟨_, fun σ' H' q => ⟨m, Nat.lt_succ_self m, q⟩, P, ρ3, s, env2, g3.rel, E2.step R2 g3, ?_⟩
          have gh : ∀ {ρ4 s4 H4}, Step X.K N P ρ3 s H3 ρ4 s4 H4 → Step X.K N P ρ st H ρ4 s4 H4 := fun {ρ4 s4 H4} g4 => gg (g3.trans g4)
          revert hw
          show (match body env2 s with
            | .next e s2 => whileN cnd body m e s2
            | .cnt e s2 => whileN cnd body m e s2
            | .brk e s2 => some (.next e s2)
            | o => some o) = some r → PostS X.K N P ρ3 s H3 (body env2 s) _ W
          cases body env2 s with
          | next e s2 => exact fun hw ρ4 H4 σ4 g4 E4 => ⟨ρ4, s2, e, r, g4.rel, (gh g4).grow, E4, hw, hp⟩
          | cnt e s2 => exact fun hw ρ4 H4 σ4 g4 E4 => ⟨ρ4, s2, e, r, g4.rel, (gh g4).grow, E4, hw, hp⟩
          | brk e s2 => intro hw; cases hw; exact fun ρ4 H4 σ4 g4 E4 => hp ρ4 H4 σ4 (gh g4) E4
          | ret v s2 => intro hw; cases hw; exact fun ρ4 H4 g4 => hp ρ4 H4 (gh g4)
          | exc c m2 e s2 => intro hw; cases hw; exact fun ρ4 H4 σ4 t g4 => hp ρ4 H4 σ4 t (gh g4)
          | stuck => intro hw; cases hw; exact hp
      | exc c m2 s =>
        intro hw
        cases hw
        exact fun ρ3 H3 t g3 e => hp ρ3 H3 σ2 t (gg g3) (E2.step R2 g3) e
      | stuck => intro hw; cases hw; exact hp
  · exact hh.elim
end
end Nlx
end
section
set_option Elab.async false
set_option linter.all false
set_option maxRecDepth 100000
set_option maxHeartbeats 8000000
/-! NlStm4: tuple targets, augmented names. -/
namespace Nlx
open PySem PySem.Spec PyProof.Rows L2 Nl
theorem putV_set {i : Nat} {v : V} : ∀ {t : List Nat} {vs : List V} {σ : L2.St}, i ∉ t → putV t vs (σ.set i (some v)) = (putV t vs σ).set i (some v)
  | [], vs, σ, h => by cases vs <;> rfl
  | j :: t, [], σ, h => rfl
  | j :: t, w :: vs, σ, h => by
    simp only [List.mem_cons, not_or] at h
    show putV t vs ((σ.set i (some v)).set j (some w)) = (putV t vs (σ.set j (some w))).set i (some v)
    rw [List.set_comm _ _ h.1, putV_set h.2]
theorem putV_app : ∀ {t u : List Nat} {vs ws : List V} {σ : L2.St}, vs.length = t.length → putV (t ++ u) (vs ++ ws) σ = putV u ws (putV t vs σ)
  | [], u, vs, ws, σ, h => by
    have : vs = [] := List.length_eq_zero_iff.mp h
    subst this; rfl
  | i :: t, u, [], ws, σ, h => by simp at h
  | i :: t, u, v :: vs, ws, σ, h => by
    show putV (t ++ u) (vs ++ ws) (σ.set i (some v)) = putV u ws (putV t vs (σ.set i (some v)))
    exact putV_app (by simpa using h)
theorem putV_rev : ∀ {t : List Nat} {vs : List V} {σ : L2.St}, t.Nodup → vs.length = t.length → putV t.reverse vs.reverse σ = putV t vs σ
  | [], vs, σ, _, h => by
    have : vs = [] := List.length_eq_zero_iff.mp h
    subst this; rfl
  | i :: t, [], σ, _, h => by simp at h
  | i :: t, v :: vs, σ, hn, h => by
    rw [List.nodup_cons] at hn
    rw [List.reverse_cons, List.reverse_cons, putV_app (by simpa using h), putV_rev hn.2 (by simpa using h)]
    show (putV t vs σ).set i (some v) = putV t vs (σ.set i (some v))
    rw [putV_set hn.1]
section
variable {X : Cx} {N : Nm} {T : Tab} {M : Md} {L : List Str} {sc : Scope} {W : WX} {k : Nat} {cl mk : CallS}
/-- names stored one behind another -/
theorem seq_stores {pins : List (Addr × Obj)} {H : Hp} {Q : Unit → Shared → Prop} (hN : X.N.Nodup) : ∀ {ns : List (Str × Nat)} {vs : List V} {us : List Value} {σ : L2.St} {s : Shared},
    (∀ p ∈ ns, X.env.scope.names.lookup p.1 = some .local ∧ X.N[p.2]? = some p.1) → Vals vs us → vs.length = ns.length → Inv X pins σ H s →
    (∀ s', Inv X pins (putV (ns.map (·.2)) vs σ) H s' → Q () s') → wpAny (model X.prog X.w) X.A (assignInOrder (ns.map fun p v => bindName X.env p.1 v) us) Q X.xe s
  | [], vs, us, σ, s, h, r, hl, I, hQ => by
    have : vs = [] := List.length_eq_zero_iff.mp hl
    subst this
    exact assignInOrder_nil (hQ s I)
  | p :: ns, [], us, σ, s, h, r, hl, I, hQ => by simp at hl
  | p :: ns, v :: vs, us, σ, s, h, r, hl, I, hQ => by
    cases r with
    | cons r1 r2 =>
      obtain ⟨h1, h2⟩ := h p (List.mem_cons_self ..)
      exact assignInOrder_cons (wpAny_bindName (store_ok I hN h2 (.inl h1) r1 (fun s' I' => seq_stores hN (fun q hq => h q (List.mem_cons_of_mem _ hq)) r2 (by simpa using hl) I' hQ) (.inr h1)))
theorem vals_rev {vs : List V} {us : List Value} (r : Vals vs us) : Vals vs.reverse us.reverse := by
  induction r with
  | nil => exact .nil
  | cons r1 _ ih => rw [List.reverse_cons, List.reverse_cons]; exact ih.append (.cons r1 .nil)
/-- a, b, .. = e with plain names stored from behind -/
theorem ps_back {ns : List (Str × Nat)} {tgs : List Expr} {kt : Nat} {pt pos : Pos} {e : Expr} {te : TE} (hc : X.calm = true) (hN : X.N.Nodup) (hl : ∀ p ∈ ns, X.env.scope.names.lookup p.1 = some .local ∧ X.N[p.2]? = some p.1) (hnd : (ns.map (·.2)).Nodup) (he : PE X e te)
    (hw : swappedStores [.Tuple tgs kt pt] e X.env = pure (some (ns.map (·.1)))) (hs : swapsWithSole [.Tuple tgs kt pt] e pos.line X.env = pure false) :
    PS X (.Assign [.Tuple tgs kt pt] e pos) (tAsg te (fun v σ H Q => ∃ a xs, v = .ref a ∧ SqT X.K H a xs ∧ xs.length = ns.length ∧ Q (putV (ns.map (·.2)) xs σ) H)) := by
  refine ⟨fun pins s σ H D I h => ?_⟩
  rw [exec_Assign_arm]
  refine wpAny_bind (wpAny_standAt ?_)
  rw [hs]
  refine wpAny_bind (wpAny_pure ?_)
  rw [if_neg Bool.false_ne_true]
  refine wpAny_bind (thn (he.run pins s σ H _ I h) fun u s1 ⟨v, H1, I1, r1, a, xs, ev, q, hlen, q1⟩ => ?_)
  subst ev
  obtain rfl := r1
  rw [hw]
  refine wpAny_bind (wpAny_pure ?_)
  obtain ⟨us, rv, pt', hz⟩ := I1.tuple q
  have ea : ∀ (names : List Str) (stores : List (Value → Sem Unit)), assignStores X.env (.ref a) (some names) stores = (do
      rule "assign.swapped-stores"
      let items ← unpackItems (.ref a) names.length none
      assignInOrder (names.reverse.map fun n => bindName X.env n) items.reverse
      pure Flow.next) := fun _ _ => rfl
  rw [ea]
  refine wpAny_bind (wpAny_rule ?_)
  have e1 : (ns.map (·.1)).length = us.toArray.size := by
    have := rv.length
    rw [List.length_map, List.size_toArray, ← hlen]
    exact this
  rw [e1]
  have e2 : (ns.map (·.1)).reverse.map (fun n => bindName X.env n) = ns.reverse.map fun p v => bindName X.env p.1 v := by
    rw [← List.map_reverse, List.map_map]; rfl
  rw [e2]
  refine wpAny_bind (unpackItems_tuple (items := us.toArray) (I.ok.hd hc) pt' fun h' hx' => ?_)
  have I2 : Inv X pins σ H1 { s1 with heap := h' } := I1.kept (t' := s1.toks) fun b o e => hx' b o (Nat.ne_of_lt (Heap.lt_size e)) e
  have rr := vals_rev rv
  have go := seq_stores (Q := fun _ s3 => wpAny (model X.prog X.w) X.A (pure Flow.next) (SP X pins D) X.xe s3) (vs := xs.reverse) (us := us.reverse) (σ := σ) (ns := ns.reverse) hN (fun p hp => hl p (List.mem_reverse.mp hp)) rr (by rw [List.length_reverse, List.length_reverse]; exact hlen) I2 (fun s3 I3 => wpAny_pure (by
    rw [List.map_reverse, putV_rev hnd (by rw [List.length_map]; exact hlen)] at I3
    exact ⟨_, H1, I3, q1⟩))
  exact wpAny_bind go
theorem swK_of {env : PySem.Env} {ts : List Expr} {kt : Nat} {pt : Pos} {e : Expr} (hb : env.blockKind = .function) (hsc : SameSc sc env.scope) :
    (swK sc ts e = some false → swappedStores [.Tuple ts kt pt] e env = pure none) ∧ (swK sc ts e = some true → ∃ names : List Str, swappedStores [.Tuple ts kt pt] e env = pure (some names) ∧ names.length = ts.length ∧
      names = ts.filterMap (fun | .Name id pos => if sc.names.lookup id == some .local && pos.line == (ts.head?.map (·.pos.line)).getD 0 then some id else none | _ => none) ∧ names.eraseDups.length = names.length) := by
  have hk : ∀ id, (env.kindOf id == some .local) = (sc.names.lookup id == some .local) := fun id => by
    show (env.scope.names.lookup id == some .local) = _
    rcases hsc id with q | ⟨q1, q2⟩
    · rw [q]
    · rw [q1, q2]; rfl
  cases e with
  | Tuple vs k2 p2 =>
    refine ⟨fun h => ?_, fun h => ?_⟩
    · unfold swK at h
      dsimp only at h
      unfold swappedStores
      simp only [hk, hb, bne_self_eq_false, Bool.or_false]
      split at h
      · rename_i q; exact if_pos q
      · rename_i q; refine Eq.trans (if_neg q) ?_
        split at h
        · rename_i q; exact if_pos q
        · rename_i q; refine Eq.trans (if_neg q) ?_
          split at h
          · rename_i q; exact if_pos q
          · rename_i q; refine Eq.trans (if_neg q) ?_
            split at h
            · rename_i q; exact if_pos q
            · split at h <;> cases h
    · have hn : (ts.filterMap (fun | .Name id pos => if sc.names.lookup id == some .local && pos.line == (ts.head?.map (·.pos.line)).getD 0 then some id else none | _ => none)).length = ts.length ∧
          (ts.filterMap (fun | .Name id pos => if sc.names.lookup id == some .local && pos.line == (ts.head?.map (·.pos.line)).getD 0 then some id else none | _ => none)).eraseDups.length = (ts.filterMap (fun | .Name id pos => if sc.names.lookup id == some .local && pos.line == (ts.head?.map (·.pos.line)).getD 0 then some id else none | _ => none)).length := by
        unfold swK at h
        dsimp only at h
        split at h
        · cases h
        · split at h
          · cases h
          · split at h
            · cases h
            · rename_i q
              simp only [Bool.or_eq_true, bne_iff_ne, ne_eq, not_or, Decidable.not_not] at q
              exact q
      refine ⟨_, ?_, hn.1, rfl, hn.2⟩
      unfold swK at h
      dsimp only at h
      unfold swappedStores
      simp only [hk, hb, bne_self_eq_false, Bool.or_false]
      split at h
      · cases h
      · rename_i q; refine Eq.trans (if_neg q) ?_
        split at h
        · cases h
        · rename_i q; refine Eq.trans (if_neg q) ?_
          split at h
          · cases h
          · rename_i q; refine Eq.trans (if_neg q) ?_
            split at h
            · cases h
            · rename_i q3; refine Eq.trans (if_neg q3) ?_
              split at h
              · cases h
              · rename_i q4; refine Eq.trans (if_neg q4) ?_
                rfl
  | _ => exact ⟨fun _ => rfl, fun h => by cases h⟩
def tLv (K : PySem.W.Frag) (N : Nm) (W : WX) (f : Val → Nl.Env → Nl.Store → RS) : TG := fun v σ H Q => ∃ (P : Addr → Prop) (ρ : List Addr) (st : Nl.Store) (env : Nl.Env) (d : Val), Rel K N P ρ st H ∧ EnvRep K N ρ (Lv P ρ st) H env σ ∧ Rep K N ρ (Lv P ρ st) H d v ∧
  PostS K N P ρ st H (f d env st) { nx := Q, rt := fun _ _ => False } W
def tLvs (K : PySem.W.Frag) (N : Nm) (W : WX) (f : List Val → Nl.Env → Nl.Store → RS) : TGs := fun v σ H Q => ∃ (P : Addr → Prop) (ρ : List Addr) (st : Nl.Store) (env : Nl.Env) (d : List Val), Rel K N P ρ st H ∧ EnvRep K N ρ (Lv P ρ st) H env σ ∧ Reps K N ρ (Lv P ρ st) H d v ∧
  PostS K N P ρ st H (f d env st) { nx := Q, rt := fun _ _ => False } W
theorem pg_lv {l : Nl.Lv} {tg : Expr} (h : Hy X N T M L sc W k cl mk) (c : chkLv M L l sc tg = true) : PG X tg (tLv X.K N W (putLv T cl mk l)) ∧ notStar tg = true := by
  cases l with
  | nm i =>
    cases tg <;> (try (simp only [chkLv, Bool.false_eq_true] at c; done))
    rename_i n p
    simp only [chkLv, nmLv, Bool.and_eq_true, decide_eq_true_eq] at c
    obtain ⟨lc, hf⟩ := locF h.ok.hsc h.ok.fnc c.2
    refine ⟨⟨fun pins s σ H v u Q I r ⟨P, ρ, st, env, d, R, E, hd, hp⟩ => ?_⟩, rfl⟩
    refine (pg_name (by rw [h.ok.nm]; exact h.ok.nd) (by rw [h.ok.nm]; exact c.1) lc hf).run pins s σ H v u Q I r ?_
    simp only [putLv] at hp
    exact hp.nx R (E.put i hd)
  | fld o f => cases tg <;> simp [chkLv] at c
  | sub o i =>
    cases tg <;> (try (simp only [chkLv, Bool.false_eq_true] at c; done))
    rename_i o' i' p
    simp only [chkLv, Bool.and_eq_true] at c
    obtain ⟨⟨c0, c1⟩, c2⟩ := c
    have ha : ∀ v, assign (.Subscript o' i' p) X.env v = (do
        let ov ← holding [v] (eval o' X.env)
        let iv ← holding [v, ov] (eval i' X.env)
        standAt p
        holding [v, ov, iv] (setItem ov iv v)
        release [v, ov, iv] []) := fun v => by
      cases i' <;> first | rfl | (simp [notSlice] at c0)
    refine ⟨⟨fun pins s σ H v u Q I r ⟨P, ρ', st', env, d, R', E', hw, hp⟩ => ?_⟩, rfl⟩
    refine (pg_sub ((snd o).1 X sc W o' h c1).1 ((snd i).1 X sc W i' h c2).1 set_list ha).run pins s σ H v u Q I r ?_
    simp only [putLv] at hp
    refine tS_into1 R' E' hp fun x ρ2 st2 H2 wx g2 R2 E2 hx hp2 => tS_into1 R2 E2 hp2 fun y ρ3 st3 H3 wy g3 R3 E3 hy hp3 => ?_
    have hw3 := (hw.grow R' g2.grow _ _).grow R2 g3.grow _ _
    have hx3 := hx.grow R2 g3.grow _ _
    cases hs : setItV x y d st3 with
    | none => rw [hs] at hp3; exact hp3.elim
    | some st4 =>
      rw [hs] at hp3
      cases x <;> (try (simp [setItV] at hs; done))
      rename_i a
      cases hst : st3[a]? with
      | none => simp [setItV, hst] at hs
      | some ob =>
        cases ob <;> (try (simp [setItV, hst] at hs; done))
        rename_i ys
        cases y <;> (try (simp [setItV, hst] at hs; done))
        rename_i j
        simp only [setItV, hst] at hs
        cases hj : ixOf ys.length j with
        | none => rw [hj] at hs; cases hs
        | some k0 =>
          rw [hj] at hs
          cases hs
          obtain ⟨a0, vs, rfl, q, h1, h2⟩ := R3.lstAt hx3 hst
          simp only [Rep] at hy
          subst hy
          have g4 := R3.putLst hst q (h2.setAt k0 hw3)
          exact ⟨a0, vs, j, k0, rfl, rfl, h1, by rw [← ixOf_eq, ← h2.length]; exact hj, PostS.nx g4.rel (E3.step R3 g4) (hp3.frm g4)⟩
theorem assign_ns {tg : Expr} (h : notStar tg = true) (es : List Expr) (env : PySem.Env) : assignEach (tg :: es) env = (false, assign tg env) :: assignEach es env := by
  cases tg <;> first | rfl | (simp [notStar] at h)
theorem pgs_lv (h : Hy X N T M L sc W k cl mk) : ∀ {ls : List Nl.Lv} {tgs : List Expr}, chkLvs M L ls sc tgs = true → PGs X tgs (tLvs X.K N W (putLvs T cl mk ls)) ∧ (assignEach tgs X.env).length = ls.length ∧ (assignEach tgs X.env).findIdx? (·.1) = none
  | [], [], c => by
    refine ⟨⟨fun pins s σ H vs us Q I r ⟨P, ρ, st, env, d, R, E, hd, hp⟩ => pgs_nil.run pins s σ H vs us Q I r ?_⟩, rfl, rfl⟩
    cases d with
    | nil =>
      simp only [Reps] at hd
      simp only [putLvs] at hp
      exact ⟨hd, hp.nx R E⟩
    | cons _ _ => simp only [putLvs] at hp; exact hp.elim
  | [], _ :: _, c => by simp [chkLvs] at c
  | _ :: _, [], c => by simp [chkLvs] at c
  | l :: ls, tg :: tgs, c => by
    simp only [chkLvs, Bool.and_eq_true] at c
    obtain ⟨p1, p2⟩ := pg_lv h c.1
    obtain ⟨q1, q2, q3⟩ := pgs_lv h c.2
    refine ⟨⟨fun pins s σ H vs us Q I r ⟨P, ρ, st, env, d, R, E, hd, hp⟩ => (pgs_cons p1 q1 (by rw [assign_ns p2]; rfl)).run pins s σ H vs us Q I r ?_⟩, by rw [assign_ns p2]; simp [q2], by rw [assign_ns p2, List.findIdx?_cons]; simp [q3]⟩
    cases d with
    | nil => simp only [putLvs] at hp; exact hp.elim
    | cons d ds =>
      simp only [Reps] at hd
      obtain ⟨v, vr, rfl, h1, h2⟩ := hd
      refine ⟨v, vr, rfl, P, ρ, st, env, d, R, E, h1, ?_⟩
      simp only [putLvs] at hp
      revert hp
      cases putLv T cl mk l d env st with
      | next e s => exact fun hp ρ' H' σ' g E' => ⟨P, ρ', s, e, ds, g.rel, E', h2.grow R g.grow _ _, PostS.frm g hp⟩
      | ret v s => exact fun hp => hp
      | brk e s => exact fun hp => hp
      | cnt e s => exact fun hp => hp
      | exc c m e s => exact fun hp => hp
      | stuck => exact fun hp => hp
theorem blockKind_fn {env : PySem.Env} (h : env.scope.kind = .function) : env.blockKind = .function := by
  unfold Env.blockKind
  rw [h]
  rfl
/-- plain names that are stored from behind -/
theorem back_names (hN : X.N = L) (hsc : SameSc sc X.env.scope) {line : Nat} : ∀ {ls : List Nl.Lv} {tgs : List Expr}, chkLvs M L ls sc tgs = true →
    (tgs.filterMap (fun | .Name id pos => if sc.names.lookup id == some .local && pos.line == line then some id else none | _ => none)).length = tgs.length →
    ∃ ns : List (Str × Nat), tgs.filterMap (fun | .Name id pos => if sc.names.lookup id == some .local && pos.line == line then some id else none | _ => none) = ns.map (·.1) ∧ ls = ns.map (fun p => Nl.Lv.nm p.2) ∧
      ∀ p ∈ ns, X.env.scope.names.lookup p.1 = some .local ∧ X.N[p.2]? = some p.1
  | [], [], c, h => ⟨[], rfl, rfl, by simp⟩
  | [], _ :: _, c, h => by simp [chkLvs] at c
  | _ :: _, [], c, h => by simp [chkLvs] at c
  | l :: ls, tg :: tgs, c, h => by
    simp only [chkLvs, Bool.and_eq_true] at c
    have le : ∀ tgs : List Expr, (tgs.filterMap (fun | .Name id pos => if sc.names.lookup id == some .local && pos.line == line then some id else none | _ => none)).length ≤ tgs.length := fun tgs => List.length_filterMap_le _ _
    have l2 := le tgs
    rw [List.filterMap_cons] at h
    cases tg <;> (try (simp only [List.length_cons] at h; omega))
    rename_i n p
    dsimp only at h
    by_cases hq : (sc.names.lookup n == some .local && p.line == line) = true
    · rw [if_pos hq] at h
      simp only [List.length_cons, Nat.add_right_cancel_iff] at h
      obtain ⟨ns, e1, e2, e3⟩ := back_names hN hsc c.2 h
      have c1 := c.1
      cases l <;> (try (simp only [chkLv, Bool.false_eq_true] at c1; done))
      rename_i i
      simp only [chkLv, nmLv, Bool.and_eq_true, decide_eq_true_eq] at c1
      simp only [Bool.and_eq_true, beq_iff_eq] at hq
      refine ⟨(n, i) :: ns, ?_, by rw [e2]; rfl, fun q hm => ?_⟩
      · rw [List.filterMap_cons]
        dsimp only
        rw [if_pos (by simp [hq.1, hq.2]), e1]; rfl
      · rcases List.mem_cons.mp hm with rfl | hm
        · refine ⟨?_, by rw [hN]; exact c1.1⟩
          rcases hsc n with z | ⟨z, _⟩
          · exact z.trans hq.1
          · rw [hq.1] at z; cases z
        · exact e3 q hm
    · rw [if_neg hq] at h
      dsimp only at h
      simp only [List.length_cons] at h
      omega
theorem putLv_flow {D D' : Ends} {K : PySem.W.Frag} {P : Addr → Prop} {ρ : List Addr} {st : Nl.Store} {H : Hp} {l : Nl.Lv} {d : Val} {env : Nl.Env} {s : Nl.Store} : (∃ e z, putLv T cl mk l d env s = .next e z) ∨ (∃ c m e z, putLv T cl mk l d env s = .exc c m e z) ∨ putLv T cl mk l d env s = .stuck := by
  cases l with
  | nm i => exact .inl ⟨_, _, rfl⟩
  | fld o f =>
    simp only [putLv]
    cases ev T cl mk o env s with
    | ok x z =>
      simp only [Res.into_ok]
      cases setFldV x f d z with
      | none => exact .inr (.inr rfl)
      | some z' => exact .inl ⟨_, _, rfl⟩
    | exc c m z => exact .inr (.inl ⟨_, _, _, _, rfl⟩)
    | stuck => exact .inr (.inr rfl)
  | sub o i =>
    simp only [putLv]
    cases ev T cl mk o env s with
    | ok x z =>
      simp only [Res.into_ok]
      cases ev T cl mk i env z with
      | ok y z2 =>
        simp only [Res.into_ok]
        cases setItV x y d z2 with
        | none => exact .inr (.inr rfl)
        | some z' => exact .inl ⟨_, _, rfl⟩
      | exc c m z => exact .inr (.inl ⟨_, _, _, _, rfl⟩)
      | stuck => exact .inr (.inr rfl)
    | exc c m z => exact .inr (.inl ⟨_, _, _, _, rfl⟩)
    | stuck => exact .inr (.inr rfl)
theorem putLvs_flow {D : Ends} {K : PySem.W.Frag} {P : Addr → Prop} {ρ : List Addr} {st : Nl.Store} {H : Hp} {ls : List Nl.Lv} {ds : List Val} {env : Nl.Env} {s : Nl.Store} (h : PostS K N P ρ st H (putLvs T cl mk ls ds env s) D W) :
    PostS K N P ρ st H (putLvs T cl mk ls ds env s) { nx := D.nx, rt := fun _ _ => False } W := by
  induction ls generalizing ds env s with
  | nil =>
    cases ds with
    | nil => simp only [putLvs] at h ⊢; exact h
    | cons _ _ => simp only [putLvs] at h ⊢; exact h
  | cons l ls ih =>
    cases ds with
    | nil => simp only [putLvs] at h ⊢; exact h
    | cons d ds =>
      simp only [putLvs] at h ⊢
      rcases putLv_flow (T := T) (cl := cl) (mk := mk) (D := D) (D' := D) (K := K) (P := P) (ρ := ρ) (st := st) (H := H) (l := l) (d := d) (env := env) (s := s) with ⟨e, z, q⟩ | ⟨c, m, e, z, q⟩ | q
      · rw [q] at h ⊢; exact ih h
      · rw [q] at h ⊢; exact h
      · rw [q] at h ⊢; exact h
theorem putLvs_nm {D : Ends} {K : PySem.W.Frag} {P : Addr → Prop} {ρ : List Addr} {st : Nl.Store} {H : Hp} : ∀ {t : List Nat} {ds : List Val} {vs : List V} {env : Nl.Env} {σ : L2.St}, Rel K N P ρ st H → EnvRep K N ρ (Lv P ρ st) H env σ → Reps K N ρ (Lv P ρ st) H ds vs →
    PostS K N P ρ st H (putLvs T cl mk (t.map Nl.Lv.nm) ds env st) D W → D.nx (putV t vs σ) H
  | [], [], vs, env, σ, R, E, r, h => by
    simp only [Reps] at r
    subst r
    simp only [List.map_nil, putLvs] at h
    exact h.nx R E
  | [], _ :: _, vs, env, σ, R, E, r, h => by simp only [List.map_nil, putLvs] at h; exact h.elim
  | _ :: _, [], vs, env, σ, R, E, r, h => by simp only [List.map_cons, putLvs] at h; exact h.elim
  | i :: t, d :: ds, vs, env, σ, R, E, r, h => by
    simp only [Reps] at r
    obtain ⟨v, vr, rfl, r1, r2⟩ := r
    simp only [List.map_cons, putLvs, putLv, RS.then_next] at h
    exact putLvs_nm (t := t) R (E.put i r1) r2 h
theorem m_gen {ls : List Nl.Lv} {e : Ex} : GM N T M L k cl mk (.gen ls e) := by
  intro X sc W s h c
  cases s <;> (try (simp only [chkS, Bool.false_eq_true] at c; done))
  rename_i tgs e' pos
  cases tgs <;> (try (simp only [chkS, Bool.false_eq_true] at c; done))
  rename_i tg tgs
  cases tgs <;> (try (cases tg <;> simp only [chkS, Bool.false_eq_true] at c; done))
  cases tg <;> (try (simp only [chkS, Bool.false_eq_true] at c; done))
  rename_i es kt pt
  simp only [chkS, Bool.and_eq_true, decide_eq_true_eq, Bool.not_eq_true'] at c
  obtain ⟨⟨⟨⟨c0, c1⟩, c2⟩, c3⟩, c4⟩ := c
  obtain ⟨g1, g2, g3⟩ := pgs_lv h.toHy c3
  have he := ((snd e).1 X sc W e' h.toHy c1).1
  have hN : X.N.Nodup := by rw [h.ok.nm]; exact h.ok.nd
  have hsw : swapsWithSole [.Tuple es kt pt] e' pos.line X.env = pure false := by
    show swapsWith e' (some (.Tuple es kt pt)) pos.line X.env = pure false
    exact swaps_no (fun n p z => by cases z)
  refine ⟨fun pins z σ H D I q => ?_⟩
  obtain ⟨k1, k2⟩ := swK_of (ts := es) (kt := kt) (pt := pt) (e := e') (blockKind_fn I.ok.kind) h.ok.hsc
  obtain ⟨P, ρ, st, env, R, E, hh⟩ := q
  simp only [evS] at hh
  have red : ∀ {G : V → L2.St → Hp → (L2.St → Hp → Prop) → Prop}, (∀ ρ' st' H' w vs ws a, Rel X.K N P ρ' st' H' → EnvRep X.K N ρ' (Lv P ρ' st') H' env σ → w = .ref a → SqT X.K H' a ws → Reps X.K N ρ' (Lv P ρ' st') H' vs ws → vs.length = ls.length → PostS X.K N P ρ' st' H' (putLvs T cl mk ls vs env st') D W → G w σ H' D.nx) → tAsg (tR X.K N W (ev T cl mk e)) G D σ H := fun {G} kk => by
    refine tS_into1 R E hh fun v ρ' st' H' w g R' E' hw hp => ?_
    cases v <;> (try exact hp.elim)
    rename_i vs
    dsimp only at hp
    split at hp
    · rename_i hl
      simp only [Rep] at hw
      obtain ⟨a, ws, rfl, q1, q2⟩ := hw
      exact kk ρ' st' H' _ vs ws a R' E' rfl q1 q2 hl hp
    · exact hp.elim
  cases hk : swK sc es e' with
  | none => rw [hk] at c4; cases c4
  | some b =>
    cases b with
    | false =>
      refine (ps_asg he (pg_tup (n := ls.length) h.ok.calm g1 g2 g3) hsw (k1 hk) rfl).run pins z σ H D I (red fun ρ' st' H' w vs ws a R' E' ew q1 q2 hl hp => ?_)
      exact ⟨a, ws, ew, q1, by rw [← q2.length]; exact hl, P, ρ', st', env, vs, R', E', q2, putLvs_flow hp⟩
    | true =>
      obtain ⟨names, n1, n2, n3, n4⟩ := k2 hk
      subst n3
      obtain ⟨ns, e1, e2, e3⟩ := back_names h.ok.nm h.ok.hsc c3 n2
      rw [e1] at n1
      have hnd : (ns.map (·.2)).Nodup := by
        have : (ls.filterMap fun | .nm i => some i | _ => none) = ns.map (·.2) := by
          rw [e2]
          clear e1 e2 e3 n1
          induction ns with
          | nil => rfl
          | cons p ns ih => rw [List.map_cons, List.filterMap_cons, List.map_cons]; exact congrArg (p.2 :: ·) ih
        rw [← this]
        exact c2
      refine (ps_back h.ok.calm hN e3 hnd he n1 hsw).run pins z σ H D I (red fun ρ' st' H' w vs ws a R' E' ew q1 q2 hl hp => ?_)
      have hlen : ws.length = ns.length := by rw [← q2.length, hl, e2, List.length_map]
      refine ⟨a, ws, ew, q1, hlen, ?_⟩
      rw [e2] at hp
      have e4 : ns.map (fun p => Nl.Lv.nm p.2) = (ns.map (·.2)).map Nl.Lv.nm := by rw [List.map_map]; rfl
      rw [e4] at hp
      exact putLvs_nm R' E' q2 hp
end
end Nlx
end
section
set_option Elab.async false
set_option linter.all false
set_option maxRecDepth 100000
set_option maxHeartbeats 4000000
/-! NlStm5: augmented names. -/
namespace Nlx
open PySem PySem.Spec PyProof.Rows L2 Nl
section
variable {X : Cx} {N : Nm} {T : Tab} {M : Md} {L : List Str} {sc : Scope} {W : WX} {k : Nat} {cl mk : CallS}
def tiA (o : Bop) : TIp := fun x y H Q => ∃ i j r, x = .int i ∧ y = .int j ∧ augV o (.int i) (.int j) = some (.int r) ∧ Q (.int r) H
theorem ip_aug (o : Bop) : PIp X (bopOf o) (tiA o) := by
  intro pins s σ H x y v u Q I r1 r2 ⟨i, j, r, e1, e2, e3, q⟩
  subst e1 e2
  obtain ⟨t1, rfl⟩ := r1
  obtain ⟨t2, rfl⟩ := r2
  cases o <;> (try (simp [augV] at e3; done))
  · cases e3
    exact iadd_int ⟨.int _, H, I.tok _, ⟨_, rfl⟩, q⟩
  · cases e3
    exact isub_int ⟨.int _, H, I.tok _, ⟨_, rfl⟩, q⟩
  · simp only [augV] at e3
    split at e3
    · rename_i hm
      cases e3
      unfold mulOk at hm
      rcases Bool.or_eq_true_iff.mp hm with z | z
      · exact imul_int ⟨.int _, H, I.tok _, ⟨_, rfl⟩, q⟩ (CMul.ok (have z2 := of_decide_eq_true z; z2))
      · exact imul_int ⟨.int _, H, I.tok _, ⟨_, rfl⟩, q⟩ (CMulW.ok (have z2 := of_decide_eq_true z; z2))
    · cases e3
theorem m_aug {i : Nat} {o : Bop} {e : Ex} : GM N T M L k cl mk (.aug (.nm i) o e) := by
  intro X sc W t h c
  cases t <;> (try (simp only [chkS, Bool.false_eq_true] at c; done))
  rename_i tg p e' pos
  cases tg <;> (try (simp only [chkS, Bool.false_eq_true] at c; done))
  rename_i n pn
  simp only [chkS, nmLv, Bool.and_eq_true, decide_eq_true_eq] at c
  obtain ⟨⟨⟨c1, c2⟩, c3⟩, c4⟩ := c
  have := opB_of c3
  subst this
  obtain ⟨lc, hf⟩ := locF h.ok.hsc h.ok.fnc c2
  refine (ps_aug (by rw [h.ok.nm]; exact h.ok.nd) (by rw [h.ok.nm]; exact c1) lc ((snd e).1 X sc W e' h.toHy c4).1 (ip_aug o) hf).imp fun D σ H ⟨P, ρ, st, env, R, E, hh⟩ => ?_
  simp only [evS] at hh
  split at hh
  · rename_i x hx
    obtain ⟨w, e1, e2⟩ := E.2 i x hx
    refine ⟨w, e1, tS_into1 R E hh fun v ρ' st' H' wv g R' E' hw hp => ?_⟩
    cases ha : augV o x v with
    | none => rw [ha] at hp; exact hp.elim
    | some z =>
      rw [ha] at hp
      cases x <;> (try (simp [augV] at ha; done))
      cases v <;> (try (simp [augV] at ha; done))
      simp only [Rep] at e2 hw
      have hz : ∃ r, z = .int r := by
        cases o <;> simp only [augV] at ha <;> (try cases ha) <;> (try exact ⟨_, rfl⟩)
        split at ha <;> cases ha
        exact ⟨_, rfl⟩
      obtain ⟨r, rfl⟩ := hz
      exact ⟨_, _, r, e2, hw, ha, hp.nx R' (E'.put i (by simp only [Rep]))⟩
  · exact hh.elim
end
end Nlx
end
section
set_option Elab.async false
set_option linter.all false
set_option maxRecDepth 100000
set_option maxHeartbeats 4000000
/-! NlStm6: raise. -/
namespace Nlx
open PySem PySem.Spec PyProof.Rows L2 Nl
section
variable {X : Cx} {N : Nm} {T : Tab} {M : Md} {L : List Str} {sc : Scope} {W : WX} {k : Nat} {cl mk : CallS}
theorem m_rai {c0 : Nat} {e : Ex} : GM N T M L k cl mk (.rai c0 e) := by
  intro X sc W t h c
  cases t <;> (try (simp only [chkS, Bool.false_eq_true] at c; done))
  rename_i ex cs pos2
  simp only [chkS] at c
  cases hr : rsOf ex cs with
  | none => rw [hr] at c; cases c
  | some q =>
  obtain ⟨n, e'⟩ := q
  rw [hr] at c
  obtain ⟨p, pos, rfl, rfl⟩ := rsOf_eq hr
  simp only [gnOk, Bool.and_eq_true, decide_eq_true_eq, Bool.not_eq_true'] at c
  obtain ⟨⟨⟨c1, c2, c3⟩, c4⟩, c5⟩ := c
  obtain ⟨m1, ⟨x1, x2, x3, x4, B, newId, initId, bmB, x5, x6⟩⟩ := h.F.exn n c0 c1
  refine (ps_rai h.ok.calm h.ok.air x5 x6 m1 x1 (raises_own x2 x3) (gl_of h.ok.hsc c2) ((snd e).1 X sc W e' h.toHy c5).1 (star_cons c4 [] X.env) c3).imp fun D σ H ⟨P, ρ, st, env, R, E, hh⟩ => ?_
  simp only [evS] at hh
  refine tS_into1 R E hh fun v ρ' st' H' w g R' E' hw hp => ?_
  cases v <;> (try exact hp.elim)
  rename_i m
  simp only [Rep] at hw
  subst hw
  exact ⟨S m, rfl, fun t0 ht => hp ρ' _ σ t0 (.laid R' ht) (E'.step R' (.laid R' ht)) upd_same⟩
end
end Nlx
end
section
set_option Elab.async false
set_option linter.all false
set_option maxRecDepth 100000
set_option maxHeartbeats 4000000
/-! NlStm7: try; all statements. -/
namespace Nlx
open PySem PySem.Spec PyProof.Rows L2 Nl
/-- a written value, where no value is called -/
theorem pe_lit {X : Cx} {v : Val} {e : Expr} (c : cstB v e = true) : ∃ w : V, PE X e (fun σ H Q => Q w H) ∧ ∀ K N ρ L H, Rep K N ρ L H v w := by
  cases e <;> (try (simp only [cstB, Bool.false_eq_true] at c; done))
  rename_i q k0 pos
  cases q <;> (try (simp only [cstB, Bool.false_eq_true] at c; done))
  · cases v <;> (try (simp only [cstB, Bool.false_eq_true] at c; done))
    exact ⟨_, pe_non.imp fun σ H Q q => q, fun _ _ _ _ _ => by simp only [Rep]⟩
  · cases v <;> (try (simp only [cstB, Bool.false_eq_true] at c; done))
    simp only [cstB, beq_iff_eq] at c
    subst c
    exact ⟨_, pe_bl.imp fun σ H Q q => q, fun _ _ _ _ _ => by simp only [Rep]⟩
  · cases v <;> (try (simp only [cstB, Bool.false_eq_true] at c; done))
    simp only [cstB, decide_eq_true_eq] at c
    subst c
    exact ⟨_, pe_int.imp fun σ H Q q => q, fun _ _ _ _ _ => by simp only [Rep]⟩
  · cases v <;> (try (simp only [cstB, Bool.false_eq_true] at c; done))
    simp only [cstB, decide_eq_true_eq] at c
    subst c
    exact ⟨_, pe_str.imp fun σ H Q q => q, fun _ _ _ _ _ => by simp only [Rep]; rw [S_of]⟩
section
variable {X : Cx} {N : Nm} {T : Tab} {M : Md} {L : List Str} {sc : Scope} {W : WX} {k : Nat} {cl mk : CallS}
theorem hdOf_eq {t : Stmt} {x : Str} {b : List Stmt} {e : Expr} (h : trOf t = some (x, b, e)) : ∃ np p1 p2 p3, t = .Try b [.ExceptHandler (some (.Name x np)) none [.Return (some e) p1] p2] [] [] p3 := by
  unfold trOf at h
  split at h
  · cases h; exact ⟨_, _, _, _, rfl⟩
  · cases h
theorem m_try {b : List Sm} {c0 : Nat} {v : Val} (hb : GMs N T M L k cl mk b) : GM N T M L k cl mk (.try_ b c0 (.ret (.cst v))) := by
  intro X sc W t h c
  simp only [chkS] at c
  cases hr : trOf t with
  | none => rw [hr] at c; cases c
  | some q =>
  obtain ⟨x, body, e⟩ := q
  rw [hr] at c
  obtain ⟨np, p1, p2, p3, rfl⟩ := hdOf_eq hr
  simp only [gnOk, Bool.and_eq_true, decide_eq_true_eq, Bool.not_eq_true'] at c
  obtain ⟨⟨⟨c1, c2, c3⟩, c4⟩, c5⟩ := c
  obtain ⟨m1, _⟩ := h.F.exn x c0 c1
  have hin : c0 ∈ M.exn.map (·.2) := by
    have : ∀ {l : List (Str × Nat)}, l.lookup x = some c0 → c0 ∈ l.map (·.2) := fun {l} e => by
      induction l with
      | nil => simp at e
      | cons q l ih =>
        obtain ⟨y, d⟩ := q
        rw [List.lookup_cons] at e
        split at e
        · cases e; simp
        · simp [ih e]
    exact this c1
  have base := ps_tryM (X := X) (x := x) (nm := none) (c := .ref (N.xa c0)) (i := none) (body := body) (b₀ := .Return (some e) p1) (suite := []) (np := np) (pos := p3) (pos' := p2)
    (tb := fun W' => tS X.K N W' (evSs T cl mk b)) (ts := fun _ _ _ _ => fun D σ H => ∀ w, (∀ K N ρ L H, Rep K N ρ L H v w) → D.rt w H) (Wout := W) h.stk h.frm (by rw [h.ok.nm]; exact h.ok.nd) trivial
    ⟨gl_of h.ok.hsc c2, c3, .inl m1⟩ h.ok.air
    (fun W' pn xe cau own => hb (X.tr pn xe) sc W' body ⟨⟨h.F, h.cal, h.mak, ⟨h.ok.nm, h.ok.nd, h.ok.hsc, h.ok.calm, h.ok.room, cau, h.ok.fnc, h.ok.gd⟩⟩, own, h.stk, h.frm⟩ c4)
    (fun a oe cls t0 own pn hz hf => by
      obtain ⟨w, hw, hrep⟩ := pe_lit (X := X.suite a ((a, oe) :: pn)) c5
      exact (pss_one (ps_ret hw)).imp fun D σ H q => q w hrep)
  refine base.imp fun D σ H ⟨P, ρ, st, env, R, E, hh⟩ => ⟨P, ρ, st, env, R, E, ?_⟩
  simp only [evS] at hh
  revert hh
  cases evSs T cl mk b env st with
  | next e s => exact fun q => q
  | ret u s => exact fun q => q
  | brk e s => exact fun q => q
  | cnt e s => exact fun q => q
  | stuck => exact fun q => q
  | exc d m env' s =>
    intro q ρ' H' σ' t0 g E' ht
    dsimp only at q
    by_cases he : T.exs.contains d = true
    · rw [if_pos he] at q
      refine ⟨_, h.F.exm d c0 he hin, fun hs a t1 own e1 na tl w hw => ?_, fun hs => ?_⟩
      · rw [if_pos hs] at q
        exact q ρ' H' g w (hw _ _ _ _ _)
      · rw [if_neg (by rw [hs]; exact Bool.false_ne_true)] at q
        exact q ρ' H' σ' t0 g E' ht
    · rw [if_neg he] at q
      exact q.elim
end
end Nlx
end
section
set_option Elab.async false
set_option linter.all false
set_option maxRecDepth 100000
set_option maxHeartbeats 4000000
/-! NlFn: all statements; defs keep their promises. -/
namespace Nlx
open PySem PySem.Spec PyProof.Rows L2 Nl
section
variable {N : Nm} {T : Tab} {M : Md} {L : List Str} {k : Nat} {cl mk : CallS}
theorem gm_no {x : Sm} (h : ∀ (sc : Scope) (e : Stmt), chkS M L x sc e = false) : GM N T M L k cl mk x := by
  intro X sc W e _ c
  rw [h] at c
  cases c
mutual
theorem sndS : ∀ x : Sm, GM N T M L k cl mk x
  | .asg (.nm i) e => m_asgN
  | .asg (.fld o f) e => m_asgF
  | .asg (.sub o i) e => m_asgS
  | .gen ls e => m_gen
  | .aug (.nm i) o e => m_aug
  | .aug (.fld _ _) o e => gm_no fun sc t => by cases t <;> rfl
  | .aug (.sub _ _) o e => gm_no fun sc t => by cases t <;> rfl
  | .ex e => m_ex
  | .ret e => m_ret
  | .retN => m_retN
  | .ifs c a b => m_ifs (sndSs a) (sndSs b)
  | .whl c b => m_whl (sndSs b)
  | .for_ t one it b => m_for (sndSs b)
  | .brk => m_brk
  | .cnt => m_cnt
  | .pas => m_pas
  | .rai c e => m_rai
  | .try_ b c (.ret (.cst v)) => m_try (sndSs b)
  | .try_ b c (.ret .msg) => gm_no fun sc t => by cases t <;> rfl
  | .try_ b c (.ret (.cat _ _)) => gm_no fun sc t => by cases t <;> rfl
  | .try_ b c (.ret (.tail _)) => gm_no fun sc t => by cases t <;> rfl
  | .try_ b c (.ret (.sint _)) => gm_no fun sc t => by cases t <;> rfl
  | .try_ b c (.rai _ _) => gm_no fun sc t => by cases t <;> rfl
theorem sndSs : ∀ xs : List Sm, GMs N T M L k cl mk xs
  | [] => m_nil
  | x :: xs => m_cons (sndS x) (sndSs xs)
end
end
/-! ### values without places -/
section
variable {K : PySem.W.Frag} {N : Nm} {ρ ρ2 : List Addr} {L : Addr → Prop} {H : Hp}
mutual
theorem Rep.pure : ∀ (d : Val) (v : V), d.closed = true → Rep K N ρ L H d v → Rep K N ρ2 L H d v
  | .non, v, _, q => by simpa only [Rep] using q
  | .bl b, v, _, q => by simpa only [Rep] using q
  | .int i, v, _, q => by simpa only [Rep] using q
  | .str s, v, _, q => by simpa only [Rep] using q
  | .fn f, v, _, q => by simpa only [Rep] using q
  | .scr ns, v, _, q => by simpa only [Rep] using q
  | .ref i, v, c, q => by simp [Val.closed] at c
  | .tup xs, v, c, q => by
    simp only [Rep] at q ⊢
    obtain ⟨a, vs, e, q, r⟩ := q
    exact ⟨a, vs, e, q, Reps.pure xs vs (by simpa only [Val.closed] using c) r⟩
  | .lst xs, v, c, q => by
    simp only [Rep] at q ⊢
    obtain ⟨a, vs, e, q, r⟩ := q
    exact ⟨a, vs, e, q, Reps.pure xs vs (by simpa only [Val.closed] using c) r⟩
  | .dct ks ws, v, c, q => by
    simp only [Val.closed, Bool.and_eq_true] at c
    simp only [Rep] at q ⊢
    obtain ⟨a, kvs, e, q, e2, r⟩ := q
    exact ⟨a, kvs, e, q, e2, Reps.pure ws _ c.2 r⟩
  | .obj n fs ws, v, c, q => by
    simp only [Rep] at q ⊢
    obtain ⟨a, dx, fvs, e, q, e2, r⟩ := q
    exact ⟨a, dx, fvs, e, q, e2, Reps.pure ws _ (by simpa only [Val.closed] using c) r⟩
  | .kon ks ws, v, c, q => by
    simp only [Rep] at q ⊢
    obtain ⟨a, es, n, vs, e, q, r, z⟩ := q
    exact ⟨a, es, n, vs, e, q, Reps.pure ws vs (by simpa only [Val.closed] using c) r, z⟩
theorem Reps.pure : ∀ (xs : List Val) (vs : List V), closedAll xs = true → Reps K N ρ L H xs vs → Reps K N ρ2 L H xs vs
  | [], vs, _, q => by simpa only [Reps] using q
  | x :: xs, vs, c, q => by
    simp only [closedAll, Bool.and_eq_true] at c
    simp only [Reps] at q ⊢
    obtain ⟨v, r, e, h1, h2⟩ := q
    exact ⟨v, r, e, Rep.pure x v c.1 h1, Reps.pure xs r c.2 h2⟩
end
mutual
theorem Rep.cut (n : Nat) : ∀ (d : Val) (v : V), d.under n = true → Rep K N ρ L H d v → Rep K N (ρ.take n) L H d v
  | .non, v, _, q => by simpa only [Rep] using q
  | .bl b, v, _, q => by simpa only [Rep] using q
  | .int i, v, _, q => by simpa only [Rep] using q
  | .str s, v, _, q => by simpa only [Rep] using q
  | .fn f, v, _, q => by simpa only [Rep] using q
  | .scr ns, v, _, q => by simpa only [Rep] using q
  | .ref i, v, c, q => by
    simp only [Val.under, decide_eq_true_eq] at c
    simp only [Rep] at q ⊢
    obtain ⟨a, e, q⟩ := q
    exact ⟨a, e, by rw [List.getElem?_take_of_lt c]; exact q⟩
  | .tup xs, v, c, q => by
    simp only [Rep] at q ⊢
    obtain ⟨a, vs, e, q, r⟩ := q
    exact ⟨a, vs, e, q, Reps.cut n xs vs (by simpa only [Val.under] using c) r⟩
  | .lst xs, v, c, q => by
    simp only [Rep] at q ⊢
    obtain ⟨a, vs, e, q, r⟩ := q
    exact ⟨a, vs, e, q, Reps.cut n xs vs (by simpa only [Val.under] using c) r⟩
  | .dct ks ws, v, c, q => by
    simp only [Val.under, Bool.and_eq_true] at c
    simp only [Rep] at q ⊢
    obtain ⟨a, kvs, e, q, e2, r⟩ := q
    exact ⟨a, kvs, e, q, e2, Reps.cut n ws _ c.2 r⟩
  | .obj m fs ws, v, c, q => by
    simp only [Rep] at q ⊢
    obtain ⟨a, dx, fvs, e, q, e2, r⟩ := q
    exact ⟨a, dx, fvs, e, q, e2, Reps.cut n ws _ (by simpa only [Val.under] using c) r⟩
  | .kon ks ws, v, c, q => by
    simp only [Rep] at q ⊢
    obtain ⟨a, es, m, vs, e, q, r, z⟩ := q
    exact ⟨a, es, m, vs, e, q, Reps.cut n ws vs (by simpa only [Val.under] using c) r, z⟩
theorem Reps.cut (n : Nat) : ∀ (xs : List Val) (vs : List V), Nl.underAll n xs = true → Reps K N ρ L H xs vs → Reps K N (ρ.take n) L H xs vs
  | [], vs, _, q => by simpa only [Reps] using q
  | x :: xs, vs, c, q => by
    simp only [Nl.underAll, Bool.and_eq_true] at c
    simp only [Reps] at q ⊢
    obtain ⟨v, r, e, h1, h2⟩ := q
    exact ⟨v, r, e, Rep.cut n x v c.1 h1, Reps.cut n xs r c.2 h2⟩
end
theorem ObRep.cut (n : Nat) {o : Ob} {a : Addr} (c : o.under n = true) (q : ObRep K N ρ L H o a) : ObRep K N (ρ.take n) L H o a := by
  cases o with
  | lst xs => obtain ⟨vs, e, r⟩ := q; exact ⟨vs, e, r.cut n xs vs (by simpa only [Ob.under] using c)⟩
  | dct ks ws =>
    simp only [Ob.under, Bool.and_eq_true] at c
    obtain ⟨kvs, e, e2, r⟩ := q; exact ⟨kvs, e, e2, r.cut n ws _ c.2⟩
  | ins m fs ws => obtain ⟨dx, fvs, e, e2, r⟩ := q; exact ⟨dx, fvs, e, e2, r.cut n ws _ (by simpa only [Ob.under] using c)⟩
  | gone => trivial
end
section
variable {K : PySem.W.Frag} {N : Nm} {P : Addr → Prop} {ρ ρ' : List Addr} {st s : Nl.Store} {H H' : Hp}
theorem live_cut {n : Nat} {a : Addr} (l : LiveAt (ρ.take n) (st.take n) a) : LiveAt ρ st a := by
  obtain ⟨i, o, e1, e2, ne⟩ := l
  rw [List.getElem?_take] at e1 e2
  split at e1
  · rename_i hi
    rw [if_pos hi] at e2
    exact ⟨i, o, e1, e2, ne⟩
  · cases e1
/-- what the callee made is forgotten -/
theorem trim_ok (R : Rel K N P ρ st H) (g : Step K N P ρ st H ρ' s H') (v : Val) : ∃ ρ2, Step K N P ρ st H ρ2 (trim st.length v s) H' ∧ ∀ w, Rep K N ρ' (Lv P ρ' s) H' v w → Rep K N ρ2 (Lv P ρ2 (trim st.length v s)) H' v w := by
  unfold trim
  by_cases c : (v.under st.length && (s.take st.length).all (Ob.under st.length)) = true
  · rw [if_pos c]
    simp only [Bool.and_eq_true] at c
    have hL : ∀ a, Lv P (ρ'.take st.length) (s.take st.length) a → Lv P ρ' s a := fun a l => l.imp_right live_cut
    refine ⟨ρ'.take st.length, ⟨⟨by simp [g.rel.len], g.rel.nd.sublist (List.take_sublist _ _), fun a m => g.rel.trk a (List.mem_of_mem_take m), fun a p => ⟨(g.rel.fo a p).1, fun m => (g.rel.fo a p).2 (List.mem_of_mem_take m)⟩, fun i o a e1 e2 => ?_⟩,
      ?_, g.grow.kept, fun a l => g.grow.live a (live_cut l)⟩, fun w h => (h.cut _ _ _ c.1).less hL _ _⟩
    · have hu : o.under st.length = true := List.all_eq_true.mp c.2 o (List.mem_of_getElem? e1)
      rw [List.getElem?_take] at e1 e2
      split at e1
      · rename_i hi
        rw [if_pos hi] at e2
        exact ((g.rel.ob i o a e1 e2).cut _ hu).less hL
      · cases e1
    · obtain ⟨t, rfl⟩ := g.grow.pre
      rw [← R.len, List.take_left]
      exact List.prefix_refl _
  · rw [if_neg c]
    exact ⟨ρ', g, fun w h => h⟩
/-- from a state of one's own: all that may change is foreign -/
theorem Rel.apart (R : Rel K N P ρ st H) : Rel K N (Lv P ρ st) [] [] H := by
  refine ⟨rfl, List.nodup_nil, fun a m => (nomatch m), fun a l => ⟨?_, fun m => (nomatch m)⟩, fun i o a e => (nomatch e)⟩
  rcases l with l | ⟨i, o, e1, e2, ne⟩
  · exact (R.fo a l).1
  · exact R.trk a (List.mem_of_getElem? e1)
theorem apart_step {Q : Addr → Prop} (R : Rel K N P ρ st H) (g : Step K N Q [] [] H ρ' s H') : Step K N P ρ st H ρ st H' := .same R fun a o e => g.grow.kept a o (fun ⟨i, _, z, _, _⟩ => by simp at z) e
end
/-! ### a def's body -/
theorem runDf_full {T : Tab} {cl mk : CallS} {d : Df} {args : List Val} {st : Nl.Store} (h1 : (args ++ d.dfl.drop (args.length - (d.pars - d.dfl.length))).length = d.pars) (h2 : d.dfl.length ≤ d.pars) (h3 : d.pars - d.dfl.length ≤ args.length) :
    runDf T cl mk d (args ++ d.dfl.drop (args.length - (d.pars - d.dfl.length))) st = runDf T cl mk d args st := by
  have e : (args ++ d.dfl.drop (args.length - (d.pars - d.dfl.length))) ++ d.dfl.drop ((args ++ d.dfl.drop (args.length - (d.pars - d.dfl.length))).length - (d.pars - d.dfl.length)) = args ++ d.dfl.drop (args.length - (d.pars - d.dfl.length)) := by
    rw [h1, show d.pars - (d.pars - d.dfl.length) = d.dfl.length by omega, List.drop_length, List.append_nil]
  have c1 : ((args ++ d.dfl.drop (args.length - (d.pars - d.dfl.length))).length = d.pars ∧ d.dfl.length ≤ d.pars ∧ d.pars - d.dfl.length ≤ (args ++ d.dfl.drop (args.length - (d.pars - d.dfl.length))).length) := ⟨h1, h2, by omega⟩
  have c2 : ((args ++ d.dfl.drop (args.length - (d.pars - d.dfl.length))).length = d.pars ∧ d.dfl.length ≤ d.pars ∧ d.pars - d.dfl.length ≤ args.length) := ⟨h1, h2, h3⟩
  unfold runDf
  dsimp only
  rw [e, if_pos c1, if_pos c2]
/-- a def of the module with its core text -/
structure DfI (K : PySem.W.Frag) (N : Nm) (M : Md) (d : Df) (a : Addr) (fd : FuncData) (ps : List Str) (dvs : List V) : Prop where
  ex : ∃ (x qual : Str) (params : Arguments) (body : List Stmt) (scope : Scope) (kws : List (Str × V)) (L : List Str),
    FunD K x qual params body scope dvs kws a fd ∧ FnScope L ps scope ∧ chkSs M L d.body scope body = true ∧ L.length = d.pars + d.locs
  len : ps.length = d.pars
  rep : ∀ ρ L H, Reps K N ρ L H d.dfl dvs
  bind : ∀ j, j ≤ d.dfl.length → ∃ ds, Vals (dvs.drop j) ds ∧ Binds K fd ps ds
def spF (K : PySem.W.Frag) (N : Nm) (n : Nat) (c : List Val → Nl.Store → Res Val) : Sp := fun vs H Q E => ∃ (P : Addr → Prop) (ρ : List Addr) (st : Nl.Store) (ds : List Val), Rel K N P ρ st H ∧ Reps K N ρ (Lv P ρ st) H ds vs ∧ ds.length = n ∧
  Post K N P ρ st H (c ds st) (toQ K N P Q) (fun c t H' => E (.ref (N.xa c)) (some t) H')
theorem spF_len {K : PySem.W.Frag} {N : Nm} {n : Nat} {c : List Val → Nl.Store → Res Val} {vs : List V} {H : Hp} {Q : VK} {E : XK} (h : spF K N n c vs H Q E) : vs.length = n := by
  obtain ⟨P, ρ, st, ds, R, r, hl, _⟩ := h
  rw [← r.length, hl]
section
variable {P : Program} {w : World} {K : PySem.W.Frag} {mg : Str → Option Value} {base : Heap} {N : Nm} {T : Tab} {M : Md} {k : Nat} {cl mk : CallS} {d : Df} {a : Addr} {fd : FuncData} {ps : List Str} {dvs : List V}
theorem start_rep {ρ : List Addr} {Lx : Addr → Prop} {H : Hp} {L : List Str} {ds : List Val} {vs : List V} {n m : Nat} (r : Reps K N ρ Lx H ds vs) (hl : ds.length = n) (hL : L.length = n + m) : EnvRep K N ρ Lx H (ds.map some ++ List.replicate m none) (L2.start L vs) := by
  have e := r.length
  refine ⟨?_, fun i v h => ?_⟩
  · unfold L2.start
    simp
    omega
  · rcases Nat.lt_or_ge i ds.length with q | q
    · rw [List.getElem?_append_left (by simpa using q), List.getElem?_map] at h
      cases hd : ds[i]? with
      | none => rw [hd] at h; cases h
      | some v' =>
        rw [hd] at h
        cases h
        obtain ⟨z, e1, e2⟩ := r.get hd
        refine ⟨z, ?_, e2⟩
        unfold L2.start
        rw [List.getElem?_append_left (by simp; omega), List.getElem?_map, e1]
        rfl
    · rw [List.getElem?_append_right (by simpa using q), List.getElem?_replicate] at h
      split at h <;> cases h
/-- what the body leaves, as the caller sees it -/
theorem body_post {Pp : Addr → Prop} {ρ : List Addr} {st : Nl.Store} {H : Hp} {ds : List Val} {vs : List V} {Q : VK} {E : XK} {L : List Str} (R : Rel K N Pp ρ st H) (r : Reps K N ρ (Lv Pp ρ st) H ds vs) (hl : ds.length = d.pars) (hL : L.length = d.pars + d.locs)
    (h : Post K N Pp ρ st H (runDf T cl mk d ds st) (toQ K N Pp Q) (fun c t H' => E (.ref (N.xa c)) (some t) H')) :
    tS K N (fun c t _ H' => E c t H') (evSs T cl mk d.body) { nx := fun _ H' => Q .non H', rt := Q } (L2.start L vs) H := by
  unfold runDf at h
  dsimp only at h
  split at h
  · rename_i hc
    have e0 : d.dfl.drop (ds.length - (d.pars - d.dfl.length)) = [] := by
      rw [hl, show d.pars - (d.pars - d.dfl.length) = d.dfl.length by omega, List.drop_length]
    rw [e0, List.append_nil] at h
    split at h
    · rename_i hcl
      refine ⟨Lv Pp ρ st, [], [], _, R.apart, start_rep (Reps.less (fun b q => q.elim id fun ⟨i, _, z, _, _⟩ => by simp at z) _ _ (Reps.pure ds vs (Bool.and_eq_true_iff.mp hcl).1 r)) hl hL, ?_⟩
      revert h
      cases evSs T cl mk d.body (ds.map some ++ List.replicate d.locs none) [] with
      | ret v s =>
        intro h ρ' H' g z hz
        dsimp only at h
        split at h
        · rename_i hv
          exact h ρ H' (apart_step R g) z (Rep.less (fun b q => .inl q) _ _ (Rep.pure v z hv hz))
        · exact h.elim
      | next e s => exact fun h ρ' H' σ' g _ => h ρ H' (apart_step R g) .non (by simp only [Rep])
      | exc c m e s => exact fun h ρ' H' σ' t g _ et => h ρ H' t (apart_step R g) et
      | brk e s => exact fun h => h.elim
      | cnt e s => exact fun h => h.elim
      | stuck => exact fun h => h.elim
    · refine ⟨Pp, ρ, st, _, R, start_rep r hl hL, ?_⟩
      revert h
      cases evSs T cl mk d.body (ds.map some ++ List.replicate d.locs none) st with
      | ret v s =>
        intro h ρ' H' g z hz
        obtain ⟨ρ2, g2, q2⟩ := trim_ok R g v
        exact h ρ2 H' g2 z (q2 z hz)
      | next e s =>
        intro h ρ' H' σ' g _
        obtain ⟨ρ2, g2, q2⟩ := trim_ok R g .non
        exact h ρ2 H' g2 .non (by simp only [Rep])
      | exc c m e s =>
        intro h ρ' H' σ' t g _ et
        obtain ⟨ρ2, g2, q2⟩ := trim_ok R g .non
        exact h ρ2 H' t g2 et
      | brk e s => exact fun h => h.elim
      | cnt e s => exact fun h => h.elim
      | stuck => exact fun h => h.elim
  · exact h.elim
theorem fn_body (F : Fm w K mg base N T M) (nr : ("repr" : Str) ∉ M.blt) (D : DfI K N M d a fd ps dvs) (hc : CallOk P w K mg base N k N.fa cl) (hm : CallOk P w K mg base N k N.ca mk) : FnOk P w K mg base (Left P w) (k + 1) a fd ps (spF K N d.pars (runDf T cl mk d)) := by
  obtain ⟨x, qual, params, body, scope, kws, L, FD, S, chk, hL⟩ := D.ex
  refine FD.ok S (fun vs H Q E h => by rw [spF_len h, D.len]) fun cdv A outer s H vs Q E hr h => ?_
  let X : Cx := cxOf (Left P w) P w K mg base L qual scope a cdv A outer s H E
  have hs : Hs X N T M L scope (fun c t _ H' => E c t H') k cl mk :=
    ⟨⟨F, hc, hm, ⟨rfl, S.nd, .refl _, rfl, hr, Caught.def_ rfl rfl rfl rfl, fun _ _ => rfl, fun q => absurd q nr⟩⟩, passes_of rfl, rfl, rfl⟩
  refine ⟨_, sndSs d.body X scope _ body hs chk, ?_⟩
  obtain ⟨Pp, ρ, st, ds, R, r, hl, hp⟩ := h
  exact body_post R r hl hL hp
end
end Nlx
end
section
set_option Elab.async false
set_option linter.all false
set_option maxRecDepth 100000
set_option maxHeartbeats 4000000
/-! NlFn2: calls keep their promises, level by level. -/
namespace Nlx
open PySem PySem.Spec PyProof.Rows L2 Nl
section
variable {X : Cx} {N : Nm} {CX : CXT} {k : Nat} {f C : Addr} {fd : FuncData} {ps : List Str} {sp : Sp} {dvs : List V} {ds : List Value} {E : XK} {pins : List (Addr × Obj)} {σ : L2.St} {H : Hp} {s : Shared} {Q : VK} {us : List Value} {vs : List V}
/-- C(..), what is raised wished for at these slots -/
theorem make_at (Mk0 : Mk X.K C f) (G : FnOk X.prog X.w X.K X.mg X.base CX k f fd ps sp) (room : Room (k + 1) X.A) (bd : Binds X.K fd ps ds) (vd : Vals dvs ds) (px : PassesAt CX X σ E) (I : Inv X pins σ H s) (rv : Vals vs us)
    (asked : ∀ x dx, H x = none → H dx = none → dx ≠ x → sp (.ref x :: (vs ++ dvs)) (upd (upd H dx (.own x)) x (.ins C dx [])) (fun v H2 => v = .non ∧ Q (.ref x) H2) E) :
    wpAny (model X.prog X.w) X.A (call (.ref C) us) (EP X pins σ Q) X.xe s := by
  let n := s.heap.objs.size
  have want := asked (n + 1) n (I.hok.fresh (Nat.le_succ n)) (I.hok.fresh (Nat.le_refl n)) (Nat.ne_of_lt (Nat.lt_succ_self n))
  have J := Inv.made (C := C) I
  have rel : Vals (V.ref (n + 1) :: (vs ++ dvs)) (Value.ref (n + 1) :: (us ++ ds)) := .cons rfl (rv.append vd)
  have many : (Value.ref (n + 1) :: us ++ ds).length = ps.length := by
    have z := rel.length
    rw [G.len _ _ _ _ want] at z
    exact z.symm
  have run := G.run _ X.stack _ _ ⟨Value.ref (n + 1) :: us, []⟩ (Value.ref (n + 1) :: (us ++ ds)) _ _ E (room.make C us []) (J.env0.make C us []) (bd _ (Value.ref (n + 1) :: us) J.kIn many) rel want
  refine wpAny_call (make_map (f := f) I.kIn Mk0.makes Mk0.init (beq_iff_eq.mp Mk0.fn) (codeAny_mono run fun res s' hz => ?_))
  cases res with
  | error x => exact px pins _ _ x s' J hz
  | ok fl =>
    cases fl with
    | ret u =>
      obtain ⟨v, H', J2, ru, ev, q⟩ := J.after hz
      subst ev
      exact ⟨ru, ⟨V.ref (n + 1), H', J2, rfl, q⟩⟩
    | next => cases hz
    | brk => cases hz
    | cont => cases hz
theorem pass_air {W : WX} (air : Caught X W) : PassesAt (Left X.prog X.w) X σ (fun c t H' => W c t σ H') := fun pins H s e s' I h => air e s' (Aloft.ofCall (E := fun c t H' => W c t σ H') I (fun _ _ _ q => q) h)
end
/-- what is known of every def -/
def FnAll (P : Program) (w : World) (K : PySem.W.Frag) (mg : Str → Option Value) (base : Heap) (N : Nm) (M : Md) (T : Tab) (k : Nat) : Prop :=
  ∀ f d, T.defs[f]? = some d → ∃ fd ps dvs, DfI K N M d (N.fa f) fd ps dvs ∧ FnOk P w K mg base (Left P w) k (N.fa f) fd ps (spF K N d.pars (callF T k f))
section
variable {P : Program} {w : World} {K : PySem.W.Frag} {mg : Str → Option Value} {base : Heap} {N : Nm} {T : Tab} {M : Md} {k : Nat}
theorem call_def {f : Nat} {args : List Val} {st : Nl.Store} (h : callF T k f args st ≠ .stuck) : ∃ d, T.defs[f]? = some d ∧ (∀ as, callF T k f as st = callF T k f as st) ∧ ∃ cl mk, (∀ as st, callF T k f as st = runDf T cl mk d as st) := by
  match k, h with
  | 0, h => exact absurd rfl h
  | 1, h =>
    cases hd : T.defs[f]? with
    | none => exact absurd (by simp only [callF, hd]) h
    | some d => exact ⟨d, rfl, fun _ => rfl, noF, noF, fun as st => by simp only [callF, hd]⟩
  | k + 2, h =>
    cases hd : T.defs[f]? with
    | none => exact absurd (by simp only [callF, hd]) h
    | some d => exact ⟨d, rfl, fun _ => rfl, callF T (k + 1), mkOf T (callF T k), fun as st => by simp only [callF, hd]⟩
/-- the defaults filled in -/
theorem full_args {cl mk : CallS} {d : Df} {args : List Val} {st : Nl.Store} (h : runDf T cl mk d args st ≠ .stuck) :
    (args ++ d.dfl.drop (args.length - (d.pars - d.dfl.length))).length = d.pars ∧ args.length - (d.pars - d.dfl.length) ≤ d.dfl.length ∧ runDf T cl mk d (args ++ d.dfl.drop (args.length - (d.pars - d.dfl.length))) st = runDf T cl mk d args st := by
  by_cases c : (args ++ d.dfl.drop (args.length - (d.pars - d.dfl.length))).length = d.pars ∧ d.dfl.length ≤ d.pars ∧ d.pars - d.dfl.length ≤ args.length
  · refine ⟨c.1, ?_, runDf_full c.1 c.2.1 c.2.2⟩
    have c1 := c.1
    rw [List.length_append, List.length_drop] at c1
    omega
  · refine absurd ?_ h
    unfold runDf
    dsimp only
    rw [if_neg c]
theorem Post.ne {α : Type} {Pp : Addr → Prop} {ρ : List Addr} {st : Nl.Store} {H : Hp} {r : Res α} {Q : α → List Addr → Nl.Store → Hp → Prop} {Xw : Nat → Addr → Hp → Prop} (h : Post K N Pp ρ st H r Q Xw) : r ≠ .stuck := fun e => by rw [e] at h; exact h
theorem Reps.dropR {ρ : List Addr} {Lx : Addr → Prop} {H : Hp} {xs : List Val} {vs : List V} (n : Nat) (h : Reps K N ρ Lx H xs vs) : Reps K N ρ Lx H (xs.drop n) (vs.drop n) := h.drop n
theorem call_ok (A : FnAll P w K mg base N M T k) : CallOk P w K mg base N k N.fa (callF T k) := by
  intro X W e1 e2 e3 e4 e5 room air f pins s σ H vs us Q I rv h
  obtain ⟨Pp, ρ, st, ds, R, r, hp⟩ := h
  obtain ⟨d, hd, _, cl, mk, hcl⟩ := call_def hp.ne
  obtain ⟨fd, ps, dvs, D, G⟩ := A f d hd
  have hne : runDf T cl mk d ds st ≠ .stuck := by rw [← hcl]; exact hp.ne
  obtain ⟨l1, l2, l3⟩ := full_args hne
  obtain ⟨dv, hdv, hb⟩ := D.bind _ l2
  subst e1 e2 e3 e4 e5
  refine run_fnSD (E := fun σ c t H' => W c t σ H') G room hb hdv (pass_air air) I rv ⟨Pp, ρ, st, _, R, r.app ((D.rep _ _ _).drop _), l1, ?_⟩
  rw [hcl, l3, ← hcl]
  exact hp
theorem make_ok (A : FnAll P w K mg base N M T k) (J : ∀ c f, look1 c T.ini = some f → Mk K (N.ca c) (N.fa f)) : CallOk P w K mg base N (k + 1) N.ca (mkOf T (callF T k)) := by
  intro X W e1 e2 e3 e4 e5 room air c pins s σ H vs us Q I rv h
  obtain ⟨Pp, ρ, st, ds, R, r, hp⟩ := h
  cases hi : look1 c T.ini with
  | none => simp only [mkOf, hi] at hp; exact hp.elim
  | some f =>
    simp only [mkOf, hi] at hp
    have hne0 : callF T k f (.ref st.length :: ds) (st ++ [.ins c [] []]) ≠ .stuck := fun e => by rw [e] at hp; exact hp
    obtain ⟨d, hd, _, cl, mk, hcl⟩ := call_def hne0
    obtain ⟨fd, ps, dvs, D, G⟩ := A f d hd
    have hne : runDf T cl mk d (.ref st.length :: ds) (st ++ [.ins c [] []]) ≠ .stuck := by rw [← hcl]; exact hne0
    obtain ⟨l1, l2, l3⟩ := full_args hne
    obtain ⟨dv, hdv, hb⟩ := D.bind _ l2
    subst e1 e2 e3 e4 e5
    refine make_at (J c f hi) G room hb hdv (pass_air air) I rv fun x dx hx hdx hn => ?_
    have g1 := Step.laid (o := .own x) R hdx
    have hx1 : upd H dx (.own x) x = none := by rw [upd_ne (Ne.symm hn)]; exact hx
    have g2 : Step X.K N Pp ρ st (upd H dx (.own x)) (ρ ++ [x]) (st ++ [.ins c [] []]) (upd (upd H dx (.own x)) x (.ins (N.ca c) dx [])) := Step.push g1.rel hx1 ⟨dx, [], upd_same, rfl, .nil⟩
    have g := g1.trans g2
    have hx2 : (ρ ++ [x])[st.length]? = some x := by rw [← R.len]; simp
    refine ⟨Pp, _, _, _, g.rel, (Reps.cons (by simp only [Rep]; exact ⟨x, rfl, hx2⟩) (r.grow R g.grow _ _)).app ((D.rep _ _ _).drop _), l1, ?_⟩
    rw [hcl]
    have l3' : runDf T cl mk d (.ref st.length :: ds ++ List.drop ((Val.ref st.length :: ds).length - (d.pars - d.dfl.length)) d.dfl) (st ++ [.ins c [] []]) = runDf T cl mk d (.ref st.length :: ds) (st ++ [.ins c [] []]) := l3
    rw [l3', ← hcl]
    revert hp
    cases callF T k f (.ref st.length :: ds) (st ++ [.ins c [] []]) with
    | ok v s1 =>
      cases v with
      | non =>
        intro hp ρ2 H2 g3 z hz
        simp only [Rep] at hz
        refine ⟨hz, hp ρ2 H2 (g.trans g3) (.ref x) ?_⟩
        obtain ⟨t, rfl⟩ := g3.grow.pre
        simp only [Rep]
        refine ⟨x, rfl, ?_⟩
        rw [List.getElem?_append_left]
        · exact hx2
        · exact (List.getElem?_eq_some_iff.mp hx2).1
      | _ => exact fun hp => hp.elim
    | exc c2 m s1 => exact fun hp ρ2 H2 t g3 e => hp ρ2 H2 t (g.trans g3) e
    | stuck => exact fun hp => hp.elim
theorem no_ok {tgt : Nat → Addr} : CallOk P w K mg base N k tgt noF := by
  intro X W e1 e2 e3 e4 e5 room air f pins s σ H vs us Q I rv ⟨Pp, ρ, st, ds, R, r, hp⟩
  exact hp.elim
/-- EVERY def, at every level -/
theorem fn_all (F : Fm w K mg base N T M) (nr : ("repr" : Str) ∉ M.blt) (D : ∀ f d, T.defs[f]? = some d → ∃ fd ps dvs, DfI K N M d (N.fa f) fd ps dvs) (J : ∀ c f, look1 c T.ini = some f → Mk K (N.ca c) (N.fa f)) : ∀ k, FnAll P w K mg base N M T k := by
  intro k
  induction k using Nat.strongRecOn with
  | ind k ih =>
    intro f d hd
    obtain ⟨fd, ps, dvs, hD⟩ := D f d hd
    refine ⟨fd, ps, dvs, hD, ?_⟩
    match k, ih with
    | 0, _ => exact ⟨fun vs H Q E h => by rw [spF_len h, hD.len], fun A outer s H args us vs Q E hr e0 hb r h => by obtain ⟨_, _, _, _, _, _, _, h⟩ := h; exact h.elim⟩
    | 1, _ =>
      have e : callF T 1 f = runDf T noF noF d := by funext as st; simp only [callF, hd]
      rw [e]
      exact fn_body F nr hD no_ok no_ok
    | k + 2, ih =>
      have e : callF T (k + 2) f = runDf T (callF T (k + 1)) (mkOf T (callF T k)) d := by funext as st; simp only [callF, hd]
      rw [e]
      exact fn_body F nr hD (call_ok (ih (k + 1) (by omega))) (make_ok (ih k (by omega)) J)
end
end Nlx
end
section
set_option Elab.async false
set_option linter.all false
set_option maxRecDepth 100000
set_option maxHeartbeats 4000000
/-! NlTop: the law's own def, called by the claim's caller. -/
namespace Nlx
open PySem PySem.Spec PyProof.Rows L2 Nl
section
variable {P : Program} {w : World} {K : PySem.W.Frag} {mg : Str → Option Value} {base : Heap} {N : Nm} {T : Tab} {M : Md} {k : Nat} {cl mk : CallS} {d : Df} {a : Addr} {fd : FuncData} {ps : List Str} {dvs : List V}
/-- a def's body around which no list is told: repr may be asked -/
theorem body_at {A : Around} (hg : A.guards = some []) (hu : A.units + 800 < cLine) (F : Fm w K mg base N T M) (D : DfI K N M d a fd ps dvs) (hc : CallOk P w K mg base N k N.fa cl) (hm : CallOk P w K mg base N k N.ca mk)
    {outer : List PySem.Env} {s : Shared} {H : Hp} {args : Args} {us : List Value} {vs : List V} {Q : VK} {E : XK} (room : Room (k + 1) A) (e0 : Env0 P w K mg base A outer s H) (bt : BindsTo s fd args (ps.zip us)) (rv : Vals vs us)
    (h : spF K N d.pars (runDf T cl mk d) vs H Q E) : codeAny (model P w) A (.call (.ref a) args) (CR (Left P w) outer P w H s Q E) s := by
  obtain ⟨x, qual, params, body, scope, kws, L, FD, S, chk, hL⟩ := D.ex
  obtain ⟨oc, od, dV, kV, doc, pm, an, cdv, ct, osl, rfl, lk, hcd, _, _⟩ := FD.ex
  have many : vs.length = ps.length := by rw [spF_len h, D.len]
  have inK : K.In s.heap := e0.mod.kin.keeps fun b o z => (e0.bs b o z).1
  have noLim : s.heap.NoLimit := e0.mod.nolimit.keeps fun b o z => (e0.bs b o z).1
  let X : Cx := cxOf (Left P w) P w K mg base L qual scope a cdv A outer s H E
  have hs : Hs X N T M L scope (fun c t _ H' => E c t H') k cl mk :=
    ⟨⟨F, hc, hm, ⟨rfl, S.nd, .refl _, rfl, room.deeper _, Caught.def_ rfl rfl rfl rfl, fun _ _ => rfl, fun _ => ⟨hg, by show A.units + 3 + 700 < cLine; omega⟩⟩⟩, passes_of rfl, rfl, rfl⟩
  have kinds : ∀ y ∈ ps.zip us, scope.names.lookup y.1 = some .local ∨ (scope.names.lookup y.1 = some .cell ∧ ((cellsFrom (s.heap.objs.size + 1) scope.names []).lookup y.1).isSome = true) := by
    rintro ⟨n, v⟩ hy
    rcases S.par n (List.of_mem_zip hy).1 with z | z
    · exact .inl z
    · exact .inr ⟨z, PySem.W.cellsFrom_some _ _ _ (.inl z)⟩
  refine codeAny_call_function room.depth (inK _ _ lk) rfl S.co S.gen rfl (PySem.W.codeRec_of inK hcd) (bt _ _ _ _ ?_)
  refine wpAny_newFunctionEnv_cells S.kind kinds fun env he s1 inC => ?_
  subst he
  refine ⟨noLim.keeps inC.toInCall.keep, codeAny_func ?_⟩
  have J : Inv X [] (L2.start L vs) H s1 := inv_start S room.hd e0 many rv inC
  obtain ⟨Pp, ρ, st, ds, R, r, hl, hp⟩ := h
  refine wpAny_mono ((sndSs d.body X scope _ body hs chk).run [] s1 (L2.start L vs) H _ J (body_post R r hl hL hp)) (fun fl s' hz => ?_) fun e s' hz => hz
  cases fl with
  | next => obtain ⟨σ', H', J2, q⟩ := hz; exact ⟨.non, H', J2.os, J2.bare, J2.base, J2.hok, rfl, q⟩
  | ret u => obtain ⟨v, σ', H', J2, ru, q⟩ := hz; exact ⟨v, H', J2.os, J2.bare, J2.base, J2.hok, ru, q⟩
  | brk => obtain ⟨_, _, _, q⟩ := hz; exact q.elim
  | cont => obtain ⟨_, _, _, q⟩ := hz; exact q.elim
end
/-- the law's call by the claim's caller -/
theorem top_call {P : Program} {w : World} {K : PySem.W.Frag} {mg mb : Str → Option Value} {CX : CXT} {fa a : Addr} {fd : FuncData} {x : Str} {sp : Sp} {s₁ : Shared} {vs : List Value} {ns : List Int}
    (inK : K.In s₁.heap) (hns : s₁.heap.Ns mainGlobals mg) (hb : s₁.heap.Ns builtinsNs mb) (hbb : ∀ x : Str, x ≠ "__name__" → mb x = bootBuiltins x) (noLim : s₁.heap.NoLimit) (noDig : s₁.heap.NoDigits) (noGen : s₁.gens = #[])
    (ha : s₁.heap.get? a = some { cls := .type "list", data := .seq vs.toArray }) (hi : IntsAre vs ns) (few : ns.length ≤ sizeLine)
    (F : ∀ base : Heap, K.In base → base.Ns mainGlobals mg → base.NoDigits → ∀ (H : Hp), Env0 P w K mg base callerA [] s₁ H → SqL K H a (ns.map V.int) →
      codeAny (model P w) callerA (.call (.ref fa) ⟨[.ref a], []⟩) (CR CX [] P w H s₁ (fun v _ => v = .bl true) fun _ _ _ => False) s₁)
    (noX : ∀ H e s', CX [] H s₁ (fun _ _ _ => False) e s' → False) :
    codeAny (model P w) callerA (.call (.ref fa) ⟨[.ref a], []⟩) (fun r s' => r = .ok (.ret (.bool true)) ∧ PySem.OldK s₁.heap s'.heap ∧ s'.os = s₁.os ∧ AllBare s'.gens) s₁ := by
  have rv := vals_ints hi
  have sameLen := hi.length
  have main : ∀ H : Hp, Only H → SqL K H a (ns.map V.int) → HOk P w H s₁.heap → (∀ b, H b ≠ none → b = a) → (H a ≠ none → K.lookup a = none) →
      codeAny (model P w) callerA (.call (.ref fa) ⟨[.ref a], []⟩) (fun r s' => r = .ok (.ret (.bool true)) ∧ PySem.OldK s₁.heap s'.heap ∧ s'.os = s₁.os ∧ AllBare s'.gens) s₁ := by
    intro H only hS hok justA notK
    have down : ∀ {b : Addr} {o : Obj}, s₁.heap.get? b = some o → H b = none → (hidT s₁.heap H).get? b = some o := fun z n => hidT_get z n
    have dictFree : ∀ {b : Addr} {o : Obj} {es : Array DictEntry} {ep : Nat}, s₁.heap.get? b = some o → o.data = .dict es ep → H b = none := by
      intro b o es ep z dz
      cases hh : H b with
      | none => rfl
      | some u =>
        obtain rfl := justA b (by rw [hh]; simp)
        rw [ha] at z
        cases z
        have z2 : Data.seq vs.toArray _ = Data.dict es ep := dz
        cases z2
    have nsDown : ∀ {b : Addr} {m : Str → Option Value}, s₁.heap.Ns b m → (hidT s₁.heap H).Ns b m := fun {b m} ⟨o, es, ep, z, dz, rest⟩ => ⟨o, es, ep, down z (dictFree z dz), dz, rest⟩
    have inBase : K.In (hidT s₁.heap H) := by
      intro b o z
      refine down (inK b o z) ?_
      cases hh : H b with
      | none => rfl
      | some u =>
        obtain rfl := justA b (by rw [hh]; simp)
        rw [notK (by rw [hh]; simp)] at z
        cases z
    have limB : (hidT s₁.heap H).NoLimit := by
      obtain ⟨mc, z1, z2⟩ := noLim
      exact ⟨mc, nsDown z1, z2⟩
    have digB : (hidT s₁.heap H).NoDigits := by
      obtain ⟨mc, z1, z2⟩ := noDig
      exact ⟨mc, nsDown z1, z2⟩
    have md : Mod K mg (hidT s₁.heap H) := ⟨inBase, nsDown hns, ⟨mb, nsDown hb, hbb⟩, limB⟩
    have e0 : Env0 P w K mg (hidT s₁.heap H) callerA [] s₁ H := ⟨rfl, md, fun b o z => of_hidT z, Nat.le_of_eq (hidT_size _ _), trivial, fun b z => absurd (show b ∈ ([] : List Addr) from z) (by simp), hok, .of_eq noGen⟩
    refine codeAny_mono (F _ inBase (nsDown hns) digB H e0 hS) fun res s' hz => ?_
    cases res with
    | error e => exact (noX H e s' hz).elim
    | ok fl =>
      cases fl with
      | next => cases hz
      | brk => cases hz
      | cont => cases hz
      | ret u =>
        obtain ⟨v, H', os, bare, un, hok2, ru, q⟩ := hz
        have q1 : v = .bl true := q
        subst q1
        obtain rfl : u = Value.bool true := ru
        refine ⟨rfl, PySem.OldK.of_keep fun b o z => ?_, os, bare⟩
        cases hh : H b with
        | none => exact un.keep b o z hh (fun m => absurd (show b ∈ ([] : List Addr) from m) (by simp)) (by simp)
        | some u =>
          rcases only b with n | ⟨ob, xs, n⟩
          · rw [hh] at n; cases n
          · obtain ⟨z1, _⟩ := hok b _ n
            obtain ⟨z2, _⟩ := hok2 b _ (un.frzs b ob _ n)
            rw [z] at z1
            cases z1
            exact z2
  cases hk : K.lookup a with
  | some o =>
    have z := inK a o hk
    rw [ha] at z
    cases z
    exact main (fun _ => none) (fun _ => .inl rfl) (.inr ⟨_, vs.toArray, _, hk, rfl, rfl, rfl, by rw [List.size_toArray, sameLen]; exact few, by simpa using rv⟩) (fun b u n => by cases (show (none : Option HO) = some u from n)) (fun b n => absurd rfl n) fun n => absurd rfl n
  | none =>
    refine main (fun b => if b = a then some (.frz { cls := .type "list", data := .seq vs.toArray } (.lst (ns.map V.int))) else none) (fun b => ?_) (.inl (.inr ⟨{ cls := .type "list", data := .seq vs.toArray }, if_pos rfl⟩)) (fun b u n => ?_) (fun b n => ?_) fun _ => hk
    · by_cases q : b = a
      · exact .inr ⟨_, _, if_pos q⟩
      · exact .inl (if_neg q)
    · by_cases q : b = a
      · have n2 := (if_pos q).symm.trans n
        cases n2
        subst q
        exact ⟨ha, by rw [List.length_map]; exact few, vs, _, rv, ha⟩
      · have n2 := (if_neg q).symm.trans n
        cases n2
    · by_cases q : b = a
      · exact q
      · exact absurd (if_neg q) n
/-- all that the head must tell of the module; Ml: the names as the law's own body has them -/
structure ModI (w : World) (K : PySem.W.Frag) (mg : Str → Option Value) (base : Heap) (N : Nm) (T : Tab) (M Ml : Md) (dl : Df) (fa : Addr) : Prop where
  F : Fm w K mg base N T M
  Fl : Fm w K mg base N T Ml
  nr : ("repr" : Str) ∉ M.blt
  D : ∀ f d, T.defs[f]? = some d → ∃ fd ps dvs, DfI K N M d (N.fa f) fd ps dvs
  J : ∀ c f, look1 c T.ini = some f → Mk K (N.ca c) (N.fa f)
/-- a law's row, from what its own def answers -/
theorem walk_nl {l : PySem.W.OpenLaw} {n k : Nat} {q : Program} {loose : List Str} {XP : (Str → Option Value) → Heap → Prop} {YP : World → Heap → Prop} {dr : DefRec} {x : Str} {T : Tab} {M Ml : Md} {dl : Df}
    (hn : l.most = some n) (hn2 : n ≤ sizeLine) (hdf : dr.params.defaults = []) (room : Room (k + 2) callerA) (h1 : dl.pars = 1)
    (F : ∀ (w : World) (mg : Str → Option Value) (fa : Addr) (h : Heap), YP w h → h.Ns mainGlobals mg → mg dr.name = some (.ref fa) →
      ∃ (K : PySem.W.Frag) (N : Nm) (fd : FuncData), K.In h ∧ DfI K N Ml dl fa fd [x] [] ∧ (∀ (s : Shared) (u : Value), BindsTo s fd ⟨[u], []⟩ [(x, u)]) ∧ ∀ base : Heap, K.In base → base.Ns mainGlobals mg → base.NoDigits → ModI w K mg base N T M Ml dl fa)
    (plain : ∀ ns : List Int, ns.length ≤ n → ∃ st', runDf T (callF T (k + 1)) (mkOf T (callF T k)) dl [.scr ns] [] = .ok (.bl true) st') :
    PySem.W.WalkO q loose XP YP l.row.toRowW dr [] (fun f vs => PySem.call f vs) := by
  refine Att.attach_call hn hdf fun w s₀ s₁ mg mb fa o pm cd doc a vs ns G Y ho hd hcd hmg hobj hints hlen hg => ?_
  obtain ⟨K, N, fd, inK, D, hb, hF⟩ := F w mg fa _ Y G.T.g hmg
  refine top_call (CX := Left l.prog w) (fd := fd) (x := x) (sp := fun _ _ _ _ => True) inK G.T.g G.T.b G.T.builtins G.T.nolimit G.T.nodigits hg hobj hints (Nat.le_trans hlen hn2) (fun base kb gb nd H e0 hS => ?_) (fun H e s' ⟨_, _, _, _, _, _, _, _, _, _, z⟩ => z)
  obtain ⟨F1, Fl, nr, DD, J⟩ := hF base kb gb nd
  have all := fn_all (P := l.prog) F1 nr DD J
  refine body_at (A := callerA) rfl (by decide) Fl D (call_ok (all (k + 1))) (make_ok (all k) J) (outer := []) (us := [.ref a]) (vs := [.ref a]) room e0 (hb s₁ (.ref a)) (.cons rfl .nil) ?_
  obtain ⟨st', hp⟩ := plain ns hlen
  refine ⟨fun _ => False, [], [], [.scr ns], ⟨rfl, List.nodup_nil, fun b m => (nomatch m), fun b z => z.elim, fun i b c z => (nomatch z)⟩, .cons ?_ .nil, h1.symm, ?_⟩
  · simp only [Rep]
    refine ⟨a, rfl, ?_⟩
    rcases hS with hS | hS
    · exact .inl ⟨hS, fun z => z.elim id fun ⟨i, _, e, _, _⟩ => (nomatch e)⟩
    · exact .inr (.inr hS)
  · rw [hp]
    intro ρ' H' g v hv
    simp only [Rep] at hv
    exact hv
end Nlx
end
section
set_option Elab.async false
set_option linter.all false
set_option maxRecDepth 100000
set_option maxHeartbeats 4000000
/-! NlHead: what the head must tell, as one Bool; the tables of a law. -/
namespace Nlx
open PySem PySem.Spec PyProof.Rows L2 Nl
/-- where the numbered things stand -/
structure HdC where
  fns : List (Str × Option Str)
  cls : List Str
  exn : List Str
  fld : List Str
  kon : List (Str × List Str)
section
variable (C : HdC) (K : PySem.W.Frag)
def HdC.fa (f : Nat) : Addr := He.fAd K (C.fns.getD f ("", none))
def HdC.ca (c : Nat) : Addr := He.ga K (C.cls.getD c (C.cls.headD ""))
def HdC.xa (c : Nat) : Addr := He.ga K (C.exn.getD c "")
def HdC.fl (i : Nat) : Str := C.fld.getD i (S (List.replicate (i + 1) 0))
def HdC.nm (w : World) : Nm := { fa := C.fa K, ca := C.ca K, xa := C.xa K, fl := C.fl, w := w }
mutual
def litB : Val → Value → Bool
  | .non, u => (match u with | .none => true | _ => false)
  | .bl a, u => (match u with | .bool b => a == b | _ => false)
  | .int i, u => (match u with | .int j _ => decide (i = j) | _ => false)
  | .str s, u => (match u with | .str z _ => decide (z = S s) | _ => false)
  | .tup xs, u => (match u with
    | .ref a => (match K.lookup a with
      | some ⟨.type c, _, .seq its _, _⟩ => decide (c = "tuple") && decide (its.size ≤ sizeLine) && litsB xs its.toList
      | _ => false)
    | _ => false)
  | .lst _, _ | .dct _ _, _ | .obj _ _ _, _ | .ref _, _ | .fn _, _ | .scr _, _ | .kon _ _, _ => false
def litsB : List Val → List Value → Bool
  | [], us => us.isEmpty
  | x :: xs, us => (match us with
    | u :: us => litB x u && litsB xs us
    | [] => false)
end
def konsB (a : Addr) : List Str → List Val → Bool
  | [], ws => ws.isEmpty
  | k :: ks, ws => (match ws with
    | v :: ws => (match PySem.W.nsIn K a k with
      | some (some u) => litB K v u
      | _ => false) && konsB a ks ws
    | [] => false)
def gloB (x : Str) (v : Val) : Bool := match v with
  | .kon ks ws => (match C.kon.lookup x with
    | some l => decide (ks.map keyOf = l.map fun k => some (.inr k)) && He.eqO (PySem.W.nsIn K mainGlobals x) (some (some (.ref (He.ga K x)))) && konsB K (He.ga K x) l ws
    | none => false)
  | v => (match PySem.W.nsIn K mainGlobals x with
    | some (some u) => litB K v u
    | _ => false)
def clsB (c : Addr) : Bool := PySem.W.plainGet K c Str.empty && PySem.W.hasDictIn K c && PySem.W.plainOver K c && He.eqO (PySem.W.findIn K (.ref c) "__setattr__") (some (some (.builtin "object.__setattr__")))
def clsIB (c : Addr) : Bool := clsB K c && He.eqO (PySem.W.findIn K (.ref c) "__class__") (some (some (.builtin "object.__class__"))) &&
  He.eqO (PySem.W.specialIn K (.builtin "object.__class__") "__get__") (some (some (.builtin "getset_descriptor.__get__"))) && decide (PySem.W.takesIn K (.builtin "object.__class__") = some true) &&
  decide (PySem.W.mroIn K c (.type "object") = some true) && flatTys.all fun n => decide (PySem.W.kitOne K (.type n) (.ref c) = some false)
def methB (c : Addr) (m : Str) (f : Addr) : Bool := He.eqO (PySem.W.findIn K (.ref c) m) (some (some (.ref f))) && PySem.W.isFn K (.ref f) && PySem.W.keepIn K (.ref f)
def mkB (c f : Addr) : Bool := PySem.W.makesIn K c && He.eqO (PySem.W.findIn K (.ref c) "__init__") (some (some (.ref f))) && PySem.W.isFn K (.ref f) && PySem.W.keepIn K (.ref c)
def exnB (c : Addr) : Bool := PySem.W.keepIn K (.ref c) && decide (PySem.W.subIn K (.ref c) (.type "BaseException") = some true) && decide (PySem.W.typeIn K (.ref c) = some (.type "type")) &&
  He.eqO (PySem.W.findIn K (.ref c) "__str__") (some (some (.builtin "BaseException.__str__"))) && PySem.W.excIn K c He.veBase "ValueError.__new__"
def nam0 (n : Str) : Bool := match n.cps.toList with
  | 0 :: _ => false
  | _ => true
def HdC.ok (T : Tab) (M : Md) : Bool :=
  (M.glo.all fun p => match T.glo[p.2]? with
    | some v => gloB C K p.1 v
    | none => false) &&
  (M.dfn.all fun p => He.eqO (PySem.W.nsIn K mainGlobals p.1) (some (some (.ref (C.fa K p.2)))) && PySem.W.keepIn K (.ref (C.fa K p.2))) &&
  (M.cln.all fun p => He.eqO (PySem.W.nsIn K mainGlobals p.1) (some (some (.ref (C.ca K p.2)))) && PySem.W.keepIn K (.ref (C.ca K p.2)) && clsIB K (C.ca K p.2)) &&
  (M.blt.all fun n => He.eqO (PySem.W.nsIn K mainGlobals n) (some none)) &&
  (M.mths.all fun p => (nam0 p.1 && !(C.fld.contains p.1)) && T.mth.all fun q => !(decide (q.2.1 = p.2)) || (clsB K (C.ca K q.1) && methB K (C.ca K q.1) p.1 (C.fa K q.2.2))) &&
  (M.flds.all fun p => decide (C.fld[p.2]? = some p.1) && !C.cls.isEmpty && C.cls.all fun x => clsB K (He.ga K x) && He.eqO (PySem.W.findIn K (.ref (He.ga K x)) p.1) (some none)) &&
  (C.fld.all nam0 && decide C.fld.Nodup) &&
  (M.exn.all fun p => He.eqO (PySem.W.nsIn K mainGlobals p.1) (some (some (.ref (C.xa K p.2)))) && exnB K (C.xa K p.2)) &&
  (T.exs.all fun d => M.exn.all fun p => decide (PySem.W.exmOne K (.ref (C.xa K d)) (.ref (C.xa K p.2)) = some (T.sub.contains (d, p.2)))) &&
  (T.ini.all fun q => mkB K (C.ca K q.1) (C.fa K q.2))
end
/-! ### what it says -/
section
variable {C : HdC} {K : PySem.W.Frag} {N : Nm}
mutual
theorem lit_ok : ∀ (v : Val) (u : Value), litB K v u = true → ∃ w : V, RelV w u ∧ ∀ ρ L H, Rep K N ρ L H v w
  | .non, u, h => by
    cases u <;> simp only [litB, Bool.false_eq_true] at h
    exact ⟨.non, rfl, fun _ _ _ => by simp only [Rep]⟩
  | .bl b, u, h => by
    cases u <;> simp only [litB, Bool.false_eq_true, beq_iff_eq] at h
    subst h
    exact ⟨.bl b, rfl, fun _ _ _ => by simp only [Rep]⟩
  | .int i, u, h => by
    cases u <;> simp only [litB, Bool.false_eq_true, decide_eq_true_eq] at h
    subst h
    exact ⟨.int i, ⟨_, rfl⟩, fun _ _ _ => by simp only [Rep]⟩
  | .str s, u, h => by
    cases u <;> simp only [litB, Bool.false_eq_true, decide_eq_true_eq] at h
    subst h
    exact ⟨.str (S s), ⟨_, rfl⟩, fun _ _ _ => by simp only [Rep]⟩
  | .tup xs, u, h => by
    cases u <;> simp only [litB, Bool.false_eq_true] at h
    rename_i a
    split at h
    · rename_i c od its n sl e
      simp only [Bool.and_eq_true, decide_eq_true_eq] at h
      obtain ⟨⟨h1, h2⟩, h3⟩ := h
      obtain ⟨ws, r, hr⟩ := lits_ok xs its.toList h3
      refine ⟨.ref a, rfl, fun ρ L H => ?_⟩
      simp only [Rep]
      exact ⟨a, ws, rfl, .inr ⟨_, its, n, e, congrArg Value.type h1, rfl, h2, r⟩, hr ρ L H⟩
    · cases h
  | .lst _, u, h | .dct _ _, u, h | .obj _ _ _, u, h | .ref _, u, h | .fn _, u, h | .scr _, u, h | .kon _ _, u, h => by simp [litB] at h
theorem lits_ok : ∀ (xs : List Val) (us : List Value), litsB K xs us = true → ∃ ws : List V, Vals ws us ∧ ∀ ρ L H, Reps K N ρ L H xs ws
  | [], us, h => by
    cases us with
    | nil => exact ⟨[], .nil, fun _ _ _ => .nil⟩
    | cons _ _ => simp [litsB] at h
  | x :: xs, us, h => by
    cases us with
    | nil => simp [litsB] at h
    | cons u us =>
      simp only [litsB, Bool.and_eq_true] at h
      obtain ⟨w, r, hw⟩ := lit_ok x u h.1
      obtain ⟨ws, rs, hws⟩ := lits_ok xs us h.2
      exact ⟨w :: ws, .cons r rs, fun ρ L H => .cons (hw ρ L H) (hws ρ L H)⟩
end
theorem kons_ok {a : Addr} : ∀ {ks : List Str} {ws : List Val}, konsB K a ks ws = true → ∃ vs : List V, (∀ ρ L H, Reps K N ρ L H ws vs) ∧ ∀ (j : Nat) (k : Str), ks[j]? = some k → ∃ u x, vs[j]? = some x ∧ PySem.W.nsIn K a k = some (some u) ∧ RelV x u
  | [], ws, h => by
    cases ws with
    | nil => exact ⟨[], fun _ _ _ => .nil, fun j k e => by simp at e⟩
    | cons _ _ => simp [konsB] at h
  | k :: ks, ws, h => by
    cases ws with
    | nil => simp [konsB] at h
    | cons v ws =>
      simp only [konsB, Bool.and_eq_true] at h
      obtain ⟨h1, h2⟩ := h
      split at h1
      · rename_i u e
        obtain ⟨x, r, hx⟩ := lit_ok v u h1
        obtain ⟨vs, hvs, hk⟩ := kons_ok h2
        refine ⟨x :: vs, fun ρ L H => .cons (hx ρ L H) (hvs ρ L H), fun j k' ej => ?_⟩
        cases j with
        | zero => simp at ej; subst ej; exact ⟨u, x, rfl, e, r⟩
        | succ j => exact hk j k' (by simpa using ej)
      · cases h1
/-- a name that is no key -/
theorem ns_out {P : Params} {a : Addr} {ks : List Str} {z : Str} (h : He.dicW K a = some (He.keysIn P ks)) (n : z ∉ ks) : PySem.W.nsIn K a z = some none := by
  unfold He.dicW at h
  cases q : K.lookup a with
  | none => rw [q] at h; cases h
  | some o =>
    obtain ⟨oc, od, dt, osl⟩ := o
    rw [q] at h
    cases oc <;> try (cases od <;> cases dt <;> cases h; done)
    cases od <;> try (cases dt <;> cases h; done)
    cases dt <;> try (cases h; done)
    rename_i c es ep
    dsimp only at h
    split at h
    · have h2 := Option.some.inj h
      have all : ∀ {l : List DictEntry} {ks : List Str}, l.map He.keyOf = He.keysIn P ks → z ∉ ks → l.find? (·.key.isStr z) = none ∧ l.any (·.refKey) = false := by
        intro l
        induction l with
        | nil => intro ks _ _; exact ⟨rfl, rfl⟩
        | cons e l ih =>
          intro ks h n
          cases ks with
          | nil => cases h
          | cons k ks =>
            have h1 : He.keyOf e :: l.map He.keyOf = some (k, PyData.keyHash P k) :: He.keysIn P ks := h
            injection h1 with h2 h3
            simp only [List.mem_cons, not_or] at n
            obtain ⟨i1, i2⟩ := ih h3 n.2
            unfold He.keyOf at h2
            split at h2
            · rename_i x t ek
              obtain ⟨h5, _⟩ := Prod.mk.inj (Option.some.inj h2)
              subst h5
              have e1 : e.key.isStr z = false := by
                rw [ek]
                show (x == z) = false
                exact beq_eq_false_iff_ne.mpr (Ne.symm n.1)
              have e2 : e.refKey = false := by
                unfold DictEntry.refKey
                rw [ek]
              exact ⟨by rw [List.find?_cons, e1]; exact i1, by rw [List.any_cons, e2, i2]; rfl⟩
            · cases h2
      obtain ⟨a1, a2⟩ := all h2 n
      unfold PySem.W.nsIn
      rw [q]
      dsimp only
      rw [a1, a2]
      rfl
    · cases h
theorem keyIx_str {z : List Nat} : ∀ {ks : List Val} {l : List Str}, ks.map keyOf = l.map (fun k => some (.inr k)) → (keyIx (.str z) ks = none → S z ∉ l) ∧ ∀ j, keyIx (.str z) ks = some j → l[j]? = some (S z)
  | [], [], _ => ⟨fun _ => by simp, fun j e => by simp [keyIx] at e⟩
  | [], _ :: _, h => by simp at h
  | _ :: _, [], h => by simp at h
  | k :: ks, s :: l, h => by
    simp only [List.map_cons, List.cons.injEq] at h
    obtain ⟨i1, i2⟩ := keyIx_str (z := z) h.2
    have e0 := eqD_key (x := k) (y := .str z) h.1 rfl
    refine ⟨fun e => ?_, fun j e => ?_⟩
    · simp only [keyIx] at e
      split at e
      · cases e
      · rename_i hn
        have e2 : keyIx (.str z) ks = none := by
          cases q : keyIx (.str z) ks with
          | none => rfl
          | some j => rw [q] at e; cases e
        simp only [List.mem_cons, not_or]
        refine ⟨fun q => hn ?_, i1 e2⟩
        rw [e0, q]; simp
    · simp only [keyIx] at e
      split at e
      · rename_i hy
        cases e
        rw [e0] at hy
        have := of_decide_eq_true hy
        have : s = S z := Sum.inr.inj this
        rw [this]; rfl
      · cases q : keyIx (.str z) ks with
        | none => rw [q] at e; cases e
        | some i => rw [q] at e; cases e; simpa using i2 i q
theorem glo_rep {w : World} {h : Heap} {mg : Str → Option Value} {x : Str} {v : Val} (X : K.In h) (G : h.Ns mainGlobals mg) (hw : N.w = w) (kd : ∀ l, C.kon.lookup x = some l → He.dicW K (He.ga K x) = some (He.keysIn w.params l)) (c : gloB C K x v = true) :
    ∃ v' u, mg x = some u ∧ RelV v' u ∧ ∀ ρ L H, Rep K N ρ L H v v' := by
  have plain : (match PySem.W.nsIn K mainGlobals x with
    | some (some u) => litB K v u
    | _ => false) = true → ∃ v' u, mg x = some u ∧ RelV v' u ∧ ∀ ρ L H, Rep K N ρ L H v v' := fun c => by
    split at c
    · rename_i u e
      obtain ⟨v', r, hr⟩ := lit_ok (N := N) v u c
      exact ⟨v', u, PySem.W.mg_of X G e, r, hr⟩
    · cases c
  cases v with
  | kon ks ws =>
    simp only [gloB] at c
    split at c
    · rename_i l e
      simp only [Bool.and_eq_true, decide_eq_true_eq] at c
      obtain ⟨⟨c1, c2⟩, c3⟩ := c
      obtain ⟨es, n, KD⟩ := He.dicW_ok (kd l e)
      obtain ⟨vs, hvs, hk⟩ := kons_ok (N := N) c3
      refine ⟨.ref (He.ga K x), _, PySem.W.mg_of X G (He.eqO_ok c2), rfl, fun ρ L H => ?_⟩
      simp only [Rep]
      refine ⟨He.ga K x, es, n, vs, rfl, by rw [hw]; exact KD, hvs ρ L H, fun z => ?_⟩
      obtain ⟨i1, i2⟩ := keyIx_str (z := z) c1
      cases q : keyIx (.str z) ks with
      | none => exact ns_out (kd l e) (i1 q)
      | some j => exact hk j _ (i2 j q)
    · cases c
  | _ => exact plain c
theorem cls_of {c : Addr} (h : clsB K c = true) : Cls K c := by
  simp only [clsB, Bool.and_eq_true] at h
  exact ⟨h.1.1.1, h.1.1.2, h.1.2, He.eqO_ok h.2⟩
theorem clsI_of {c : Addr} (h : clsIB K c = true) : ClsI K c := by
  simp only [clsIB, Bool.and_eq_true, decide_eq_true_eq] at h
  obtain ⟨⟨⟨⟨⟨h1, h2⟩, h3⟩, h4⟩, h5⟩, h6⟩ := h
  exact ⟨cls_of h1, He.eqO_ok h2, He.eqO_ok h3, h4, h5, fun n hn => of_decide_eq_true (List.all_eq_true.mp h6 n hn)⟩
theorem meth_of {c f : Addr} {m : Str} (h : methB K c m f = true) : Meth K c m f := by
  simp only [methB, Bool.and_eq_true] at h
  exact ⟨He.eqO_ok h.1.1, h.1.2, h.2⟩
theorem mk_of {c f : Addr} (h : mkB K c f = true) : Mk K c f := by
  simp only [mkB, Bool.and_eq_true] at h
  exact ⟨h.1.1.1, He.eqO_ok h.1.1.2, h.1.2, h.2⟩
theorem exn_of {c : Addr} (h : exnB K c = true) : ExnI K c := by
  simp only [exnB, Bool.and_eq_true, decide_eq_true_eq] at h
  obtain ⟨⟨⟨⟨h1, h2⟩, h3⟩, h4⟩, h5⟩ := h
  exact ⟨h1, h2, h3, He.eqO_ok h4, _, _, _, _, PySem.F.excBase_ValueError, h5⟩
theorem look_mem {α : Type} {n : Str} {g : α} : ∀ {l : List (Str × α)}, l.lookup n = some g → (n, g) ∈ l := fun {l} h => PySem.mem_of_lookup h
theorem look2_mem {c m f : Nat} : ∀ {l : List (Nat × Nat × Nat)}, look2 c m l = some f → (c, m, f) ∈ l
  | [], h => by cases h
  | (a, b, g) :: l, h => by
    simp only [look2] at h
    split at h
    · rename_i q
      cases h
      obtain ⟨rfl, rfl⟩ := q
      exact List.mem_cons_self
    · exact List.mem_cons_of_mem _ (look2_mem h)
theorem look1_mem {c f : Nat} : ∀ {l : List (Nat × Nat)}, look1 c l = some f → (c, f) ∈ l
  | [], h => by cases h
  | (a, g) :: l, h => by
    simp only [look1] at h
    split at h
    · rename_i q
      cases h
      subst q
      exact List.mem_cons_self
    · exact List.mem_cons_of_mem _ (look1_mem h)
theorem nam0_S (n : Nat) : nam0 (S (List.replicate (n + 1) 0)) = false := by
  simp [nam0, S, List.replicate_succ]
theorem fl_lo {i : Nat} (h : i < C.fld.length) : C.fl i = C.fld[i] := by
  simp [HdC.fl, List.getD, List.getElem?_eq_getElem h]
theorem fl_hi {i : Nat} (h : C.fld.length ≤ i) : C.fl i = S (List.replicate (i + 1) 0) := by
  simp [HdC.fl, List.getD, List.getElem?_eq_none h]
theorem fl_inj (h0 : C.fld.all nam0 = true) (nd : C.fld.Nodup) (i j : Nat) (e : C.fl i = C.fl j) : i = j := by
  have out : ∀ {i j : Nat}, i < C.fld.length → C.fld.length ≤ j → C.fl i = C.fl j → False := fun {i j} hi hj e => by
    rw [fl_lo hi, fl_hi hj] at e
    have := List.all_eq_true.mp h0 _ (List.getElem_mem hi)
    rw [e, nam0_S] at this
    cases this
  rcases Nat.lt_or_ge i C.fld.length with hi | hi <;> rcases Nat.lt_or_ge j C.fld.length with hj | hj
  · rw [fl_lo hi, fl_lo hj] at e
    exact (List.getElem_inj nd).mp e
  · exact (out hi hj e).elim
  · exact (out hj hi e.symm).elim
  · rw [fl_hi hi, fl_hi hj] at e
    have := congrArg List.length (S_inj e)
    simpa using this
theorem fm_of {w : World} {mg : Str → Option Value} {base : Heap} {T : Tab} {M : Md} (X : K.In base) (G : base.Ns mainGlobals mg) (nd : base.NoDigits) (hT : T.rep = repT) (ok : C.ok K T M = true)
    (kd : ∀ x l, C.kon.lookup x = some l → He.dicW K (He.ga K x) = some (He.keysIn w.params l)) : Fm w K mg base (C.nm K w) T M := by
  simp only [HdC.ok, Bool.and_eq_true] at ok
  obtain ⟨⟨⟨⟨⟨⟨⟨⟨⟨o1, o2⟩, o3⟩, o4⟩, o5⟩, o6⟩, ⟨o7, o8⟩⟩, o9⟩, o10⟩, o11⟩ := ok
  refine ⟨rfl, nd, fun d => by rw [hT], fun n g h => ?_, fun n f h => ?_, fun n c h => ?_, fun n h => ?_, fun n m c f h1 h2 => ?_, fun n m i h e => ?_, fun n f h => ?_, fl_inj o7 (of_decide_eq_true o8), fun n c h => ?_, fun d c h1 h2 => ?_⟩
  · have z := List.all_eq_true.mp o1 _ (look_mem h)
    dsimp only at z
    cases q : T.glo[g]? with
    | none => rw [q] at z; cases z
    | some v =>
      rw [q] at z
      obtain ⟨v', u, e1, e2, e3⟩ := glo_rep (N := C.nm K w) X G rfl (kd n) z
      exact ⟨v, v', u, rfl, e1, e2, e3⟩
  · have z := List.all_eq_true.mp o2 _ (look_mem h)
    simp only [Bool.and_eq_true] at z
    exact ⟨PySem.W.mg_of X G (He.eqO_ok z.1), z.2⟩
  · have z := List.all_eq_true.mp o3 _ (look_mem h)
    simp only [Bool.and_eq_true] at z
    exact ⟨PySem.W.mg_of X G (He.eqO_ok z.1.1), z.1.2, clsI_of z.2⟩
  · exact PySem.W.mg_none_of X G (He.eqO_ok (List.all_eq_true.mp o4 _ h))
  · have z := List.all_eq_true.mp o5 _ (look_mem h1)
    simp only [Bool.and_eq_true] at z
    have z2 := List.all_eq_true.mp z.2 _ (look2_mem h2)
    simp only [decide_true, Bool.not_true, Bool.false_or, Bool.and_eq_true] at z2
    exact ⟨cls_of z2.1, meth_of z2.2⟩
  · have z := List.all_eq_true.mp o5 _ (look_mem h)
    simp only [Bool.and_eq_true, Bool.not_eq_true'] at z
    obtain ⟨⟨z1, z2⟩, _⟩ := z
    have e : C.fl i = n := e
    rcases Nat.lt_or_ge i C.fld.length with hi | hi
    · rw [fl_lo hi] at e
      have : C.fld.contains n = true := by rw [List.contains_iff_mem, ← e]; exact List.getElem_mem hi
      rw [z2] at this
      cases this
    · rw [fl_hi hi] at e
      rw [← e, nam0_S] at z1
      cases z1
  · have z := List.all_eq_true.mp o6 _ (look_mem h)
    simp only [Bool.and_eq_true, decide_eq_true_eq, Bool.not_eq_true', List.isEmpty_eq_false_iff] at z
    obtain ⟨⟨z1, z2⟩, z3⟩ := z
    refine ⟨?_, fun c => ?_⟩
    · obtain ⟨hi, e⟩ := List.getElem?_eq_some_iff.mp z1
      exact (fl_lo hi).trans e
    · have hc : C.cls.getD c (C.cls.headD "") ∈ C.cls := by
        cases hl : C.cls with
        | nil => exact absurd hl z2
        | cons y ys =>
          rcases Nat.lt_or_ge c (y :: ys).length with q | q
          · rw [List.getD, List.getElem?_eq_getElem q]; exact List.getElem_mem q
          · rw [List.getD, List.getElem?_eq_none q]; exact List.mem_cons_self
      have y := List.all_eq_true.mp z3 _ hc
      simp only [Bool.and_eq_true] at y
      exact ⟨cls_of y.1, He.eqO_ok y.2⟩
  · have z := List.all_eq_true.mp o9 _ (look_mem h)
    simp only [Bool.and_eq_true] at z
    exact ⟨PySem.W.mg_of X G (He.eqO_ok z.1), exn_of z.2⟩
  · obtain ⟨p, hp, rfl⟩ := List.mem_map.mp h2
    have z := List.all_eq_true.mp o10 d (List.contains_iff_mem.mp h1)
    exact of_decide_eq_true (List.all_eq_true.mp z p hp)
theorem ini_of {T : Tab} {M : Md} (ok : C.ok K T M = true) {c f : Nat} (h : look1 c T.ini = some f) : Mk K (C.ca K c) (C.fa K f) := by
  simp only [HdC.ok, Bool.and_eq_true] at ok
  exact mk_of (List.all_eq_true.mp ok.2 _ (look1_mem h))
end
/-! ### defs with their texts -/
structure DefOk (M : Md) (D : He.DefD) (d : Df) (L ps : List Str) : Prop where
  sc : FnScope L ps D.scope
  chk : chkSs M L d.body D.scope D.body = true
  len : ps.length = d.pars
  lenL : L.length = d.pars + d.locs
  nod : d.dfl = []
  nod2 : D.dfl = []
  bind : ∀ (kV doc pm : Value) (an : Option Addr) (cdv ct : Value) (us : List Value), us.length = ps.length → bindArgs (PySem.W.fnOf D.name D.qual D.params D.body D.scope .none kV doc pm an cdv ct) ⟨us, []⟩ = pure (ps.zip us)
inductive Ents (M : Md) : List He.DefD → List Df → Prop
  | nil {Ds : List He.DefD} : Ents M Ds []
  | cons {D : He.DefD} {d : Df} {L ps : List Str} {Ds : List He.DefD} {ds : List Df} : DefOk M D d L ps → Ents M Ds ds → Ents M (D :: Ds) (d :: ds)
theorem Ents.get {M : Md} {Ds : List He.DefD} {ds : List Df} (E : Ents M Ds ds) : ∀ {f : Nat} {d : Df}, ds[f]? = some d → ∃ D L ps, Ds[f]? = some D ∧ DefOk M D d L ps := by
  induction E with
  | nil => intro f d h; simp at h
  | cons k _ ih =>
    intro f d h
    cases f with
    | zero => simp at h; subst h; exact ⟨_, _, _, rfl, k⟩
    | succ f => simpa using ih (by simpa using h)
theorem dfI_of {K : PySem.W.Frag} {N : Nm} {M : Md} {D : He.DefD} {d : Df} {L ps : List Str} {fd : FuncData} (k : DefOk M D d L ps) (F : FunD K D.name D.qual D.params D.body D.scope (D.dvs K) (D.kws K) (He.fAd K D.at_) fd) : DfI K N M d (He.fAd K D.at_) fd ps [] := by
  have e : D.dvs K = [] := by unfold He.DefD.dvs; rw [k.nod2]; rfl
  rw [e] at F
  refine ⟨⟨_, _, _, _, _, _, L, F, k.sc, k.chk, k.lenL⟩, k.len, fun ρ Lx H => by rw [k.nod]; exact .nil, fun j hj => ?_⟩
  rw [k.nod] at hj
  have : j = 0 := Nat.le_zero.mp hj
  subst this
  exact ⟨[], .nil, F.bindsN k.bind⟩
/-- a class's j-th statement -/
def inCls (s : Stmt) (j : Nat) : Stmt := match s with
  | .ClassDef _ _ _ b _ _ _ _ _ _ _ => b.getD j (.Pass ⟨0, 0, 0, 0⟩)
  | _ => .Pass ⟨0, 0, 0, 0⟩
/-! ### the Hook -/
def HdC.tabs (C : HdC) : List He.Tab := C.kon.map fun p => (fun K => He.ga K p.1, p.2)
def obsN (n : Nat) (C : HdC) (T : Tab) (M : Md) (hds : List He.DefD) (g : Addr → Option Obj) : Bool × He.AlT := (C.ok (He.frG g (He.asD g n)) T M, He.obsT [.glo "law"] hds C.tabs (He.frG g (He.asD g n)))
def hookN (n : Nat) (C : HdC) (T : Tab) (M : Md) (hds : List He.DefD) : PySem.W.Hook where
  α := Bool × He.AlT
  obs := fun s => obsN n C T M hds s.heap.get?
  val := fun w => (true, He.valT hds C.tabs w)
  says := fun w h => ∃ K : PySem.W.Frag, K.In h ∧ C.ok K T M = true ∧ He.SaysT [.glo "law"] hds C.tabs w K
  of := fun _ _ e => ⟨_, He.frG_in, (Prod.mk.inj e).1, (Prod.mk.inj e).2⟩
  keeps := fun _ _ _ ⟨K, hK, c⟩ k => ⟨K, PySem.W.Frag.In.keeps hK k, c⟩
theorem obsN_eq {n : Nat} {C : HdC} {T : Tab} {M : Md} {hds : List He.DefD} {g : Addr → Option Obj} {s : Shared} (h : ∀ a, g a = s.heap.get? a) : obsN n C T M hds g = (hookN n C T M hds).obs s := by
  have e : g = s.heap.get? := funext h
  rw [e] <;> rfl
theorem tab_kon {C : HdC} {w : World} {K : PySem.W.Frag} {fa : List He.Fa} {fn : List He.DefD} (c : He.SaysT fa fn C.tabs w K) {x : Str} {l : List Str} (h : C.kon.lookup x = some l) : He.dicW K (He.ga K x) = some (He.keysIn w.params l) := by
  have e : C.tabs.map (fun t => He.dicW K (t.1 K)) = C.tabs.map fun t => some (He.keysIn w.params t.2) := congrArg (fun z : He.AlT => z.2) c
  have m := look_mem h
  have : ∀ {L : List (Str × List Str)}, (L.map fun p => ((fun K => He.ga K p.1, p.2) : He.Tab)).map (fun t => He.dicW K (t.1 K)) = (L.map fun p => ((fun K => He.ga K p.1, p.2) : He.Tab)).map (fun t => some (He.keysIn w.params t.2)) → (x, l) ∈ L → He.dicW K (He.ga K x) = some (He.keysIn w.params l) := by
    intro L
    induction L with
    | nil => intro _ m; cases m
    | cons p L ih =>
      intro e m
      simp only [List.map_cons, List.cons.injEq] at e
      rcases List.mem_cons.mp m with q | q
      · subst q; exact e.1
      · exact ih (by simpa using e.2) q
  exact this e m
theorem Md.mono {w : World} {K : PySem.W.Frag} {mg : Str → Option Value} {base : Heap} {N : Nm} {T : Tab} {M : Md} {bl : List Str} (F : Fm w K mg base N T M) (h : ∀ n ∈ bl, n ∈ M.blt) : Fm w K mg base N T { M with blt := bl } :=
  ⟨F.hw, F.nodig, F.frep, F.glo, F.dfn, F.cln, fun n hn => F.blt n (h n hn), F.mth, F.mno, F.fld, F.finj, F.exn, F.exm⟩
/-- the end of a law's proof but for its plain part -/
theorem walk_row {l : PySem.W.OpenLaw} {n k q0 : Nat} {q : Program} {loose : List Str} {XP : (Str → Option Value) → Heap → Prop} {dr : DefRec} {x : Str} {L : List Str} {T : Tab} {M Ml : Md} {C : HdC} {hds : List He.DefD} {dl : Df} {Dl : He.DefD}
    (hn : l.most = some n) (hn2 : n ≤ sizeLine) (hdf : dr.params.defaults = []) (room : Room (k + 2) callerA) (hname : dr.name = ("law" : Str)) (hT : T.rep = repT) (hM : M = { Ml with blt := M.blt }) (hb : ∀ n ∈ M.blt, n ∈ Ml.blt) (nr : ("repr" : Str) ∉ M.blt)
    (hC : C.fns = hds.map (·.at_)) (ents : Ents M hds T.defs) (hl : hds[T.defs.length]? = some Dl) (hat : Dl.at_ = (("law" : Str), none)) (okl : DefOk Ml Dl dl L [x])
    (plain : ∀ ns : List Int, ns.length ≤ n → ∃ st', runDf T (callF T (k + 1)) (mkOf T (callF T k)) dl [.scr ns] [] = .ok (.bl true) st') :
    PySem.W.WalkO q loose XP (hookN q0 C T Ml hds).says l.row.toRowW dr [] (fun f vs => PySem.call f vs) := by
  refine walk_nl (T := T) (M := M) (Ml := Ml) (dl := dl) (x := x) hn hn2 hdf room okl.len.symm (fun w mg fa h Y G hmg => ?_) plain
  obtain ⟨K, inK, okK, says⟩ := Y
  obtain ⟨fd, F⟩ := says.d.def_ _ hl
  have efa : fa = He.fAd K Dl.at_ := by
    rw [hname] at hmg
    have e := hmg.symm.trans (He.glo_ok inK G (says.d.fact 0 (f := .glo "law") rfl))
    rw [hat]
    cases e
    rfl
  subst efa
  refine ⟨K, C.nm K w, fd, inK, dfI_of okl F, fun s u => ?_, fun base kb gb nd => ?_⟩
  · have e : Dl.dvs K = [] := by unfold He.DefD.dvs; rw [okl.nod2]; rfl
    rw [e] at F
    exact F.bindsA okl.bind s [u] rfl
  · have Fl : Fm w K mg base (C.nm K w) T Ml := fm_of kb gb nd hT okK fun x l h => tab_kon says h
    refine ⟨by rw [hM]; exact Md.mono Fl hb, Fl, nr, fun f d hd => ?_, fun c f h => ini_of okK h⟩
    obtain ⟨D, L', ps, hD, k⟩ := ents.get hd
    obtain ⟨fd', F'⟩ := says.d.def_ f hD
    have : (C.nm K w).fa f = He.fAd K D.at_ := by
      show He.fAd K (C.fns.getD f ("", none)) = _
      rw [hC, List.getD, List.getElem?_map, hD]; rfl
    rw [this]
    exact ⟨fd', ps, [], dfI_of k F'⟩
end Nlx
end
section
set_option Elab.async false
set_option linter.all false
set_option maxRecDepth 100000
set_option maxHeartbeats 0
/-! NlD_k53: the program of the law as a text of the core language (printed by gen.py). -/
namespace Nt
open Nl
/-! the defs, in the order of their numbers: 0 is_whole, 1 is_word, 2 is_short, 3 atom_text, 4 write_data, 5 read_whole, 6 read_atom, 7 pieces_of, 8 DataReader___init__, 9 DataReader_item, 10 DataReader_open_one, 11 DataReader_close_one, 12 DataReader_comma, 13 DataReader_take, 14 read_data, 15 _law_draw, 16 _law_take, 17 _law_data, 18 _law_word, 19 _law_written, 20 _law_number, 21 _law_read, 22 _law_told, 23 law -/
def d_is_whole : Df := ⟨1, 0, [], false, [
  .ret (.and (.bi (.isI .int) [.var 0]) (.not (.bi (.isI .bool) [.var 0])))]⟩
def x_is_word_1 : Ex := .cp1 (.or (.cmp .isin (.var 1) (.glo 0)) (.cmp .isin (.var 1) (.glo 1))) [1] true (.var 0) (.cst (.bl true))
def d_is_word : Df := ⟨1, 1, [], false, [
  .ifs (.or (.not (.bi (.isI .str) [.var 0])) (.or (.not (.chn .le .le (.cst (.int 1)) (.bi .len [.var 0]) (.glo 2))) (.cmp .nin (.idx (.var 0) (.cst (.int 0))) (.glo 0)))) [.ret (.cst (.bl false))] [],
  .ret (.bi .all [x_is_word_1])]⟩
def b_is_short_1 : List Sm := [.aug (.nm 1) .mul (.bin .pow (.cst (.int 10)) (.cst (.int 32)))]
def d_is_short : Df := ⟨1, 2, [], false, [
  .ifs (.not (.call 0 [.var 0])) [.ret (.cst (.bl false))] [],
  .asg (.nm 1) (.bin .pow (.cst (.int 10)) (.cst (.int 32))),
  .ifs (.chn .lt .lt (.neg (.var 1)) (.var 0) (.var 1)) [.ret (.cst (.bl true))] [],
  .for_ [2] true (.bi .range [.bin .sub (.bin .fdiv (.glo 4) (.cst (.int 32))) (.cst (.int 1))]) b_is_short_1,
  .ret (.chn .lt .lt (.neg (.var 1)) (.var 0) (.var 1))]⟩
def d_atom_text : Df := ⟨1, 0, [], false, [
  .ifs (.bi (.isI .bool) [.var 0]) [.ret (.ife (.var 0) (.cst (.str [43])) (.cst (.str [45])))] [],
  .ifs (.and (.not (.call 1 [.var 0])) (.and (.not (.call 2 [.var 0])) (.not (.and (.bi (.isI .str) [.var 0]) (.cmp .eq (.var 0) (.cst (.str []))))))) [.rai 1 (.cst (.str [110, 111, 32, 100, 97, 116, 97]))] [],
  .ret (.ife (.cmp .ne (.var 0) (.cst (.str []))) (.bi .str [.var 0]) (.cst (.str [46])))]⟩
def b_write_data_1 : List Sm := [.ex (.bm .append (.var 1) [.tup [.idx (.var 3) (.var 5), .bin .add (.var 4) (.cst (.int 1))]]), .ifs (.cmp .gt (.var 5) (.cst (.int 0))) [.ex (.bm .append (.var 1) [.tup [.cst (.str [44]), .cst (.int 0)]])] []]
def b_write_data_2 : List Sm := [.gen [.nm 3, .nm 4] (.bm .pop (.var 1) []), .ifs (.cmp .eq (.var 4) (.cst (.int 0))) [.ex (.bm .append (.var 2) [.var 3])] [.ifs (.and (.bi (.isI .tuple) [.var 3]) (.cmp .le (.var 4) (.glo 3))) [.ex (.bm .append (.var 2) [.cst (.str [91])]), .ex (.bm .append (.var 1) [.tup [.cst (.str [93]), .cst (.int 0)]]), .for_ [5] true (.bi .range [.bin .sub (.bi .len [.var 3]) (.cst (.int 1)), .neg (.cst (.int 1)), .neg (.cst (.int 1))]) b_write_data_1] [.ex (.bm .append (.var 2) [.call 3 [.var 3]])]]]
def d_write_data : Df := ⟨1, 5, [], false, [
  .gen [.nm 1, .nm 2] (.tup [.new (.lst [.tup [.var 0, .cst (.int 1)]]), .new (.lst [])]),
  .whl (.cmp .gt (.bi .len [.var 1]) (.cst (.int 0))) b_write_data_2,
  .ret (.bm .join (.cst (.str [])) [.var 2])]⟩
def x_read_whole_1 : Ex := .cp1 (.cmp .isin (.var 2) (.glo 1)) [2] true (.var 1) (.cst (.bl true))
def d_read_whole : Df := ⟨1, 2, [], false, [
  .asg (.nm 1) (.ife (.cmp .eq (.slc (.var 0) (.cst .non) (.cst (.int 1))) (.cst (.str [45]))) (.slc (.var 0) (.cst (.int 1)) (.cst .non)) (.var 0)),
  .ifs (.or (.not (.chn .le .le (.cst (.int 1)) (.bi .len [.var 1]) (.glo 4))) (.not (.bi .all [x_read_whole_1]))) [.rai 1 (.cst (.str [110, 111, 32, 100, 97, 116, 97]))] [],
  .ifs (.and (.cmp .eq (.idx (.var 1) (.cst (.int 0))) (.cst (.str [48]))) (.cmp .ne (.var 0) (.cst (.str [48])))) [.rai 1 (.cst (.str [110, 111, 32, 100, 97, 116, 97]))] [],
  .ret (.bi .int [.var 0])]⟩
def d_read_atom : Df := ⟨1, 0, [], false, [
  .ifs (.cmp .isin (.var 0) (.glo 5)) [.ret (.idx (.glo 5) (.var 0))] [],
  .ret (.ife (.call 1 [.var 0]) (.var 0) (.call 5 [.var 0]))]⟩
def b_pieces_of_1 : List Sm := [.ifs (.cmp .isin (.var 4) (.cst (.str [91, 93, 44]))) [.ifs (.cmp .lt (.var 2) (.var 3)) [.ex (.bm .append (.var 1) [.slc (.var 0) (.var 2) (.var 3)])] [], .ex (.bm .append (.var 1) [.var 4]), .asg (.nm 2) (.bin .add (.var 3) (.cst (.int 1)))] []]
def d_pieces_of : Df := ⟨1, 4, [], false, [
  .gen [.nm 1, .nm 2] (.tup [.new (.lst []), .cst (.int 0)]),
  .for_ [3, 4] false (.bi .enum [.var 0]) b_pieces_of_1,
  .ret (.bin .add (.var 1) (.ife (.cmp .lt (.var 2) (.bi .len [.var 0])) (.lst [.slc (.var 0) (.var 2) (.cst .non)]) (.lst [])))]⟩
def d_DataReader___init__ : Df := ⟨1, 0, [], false, [
  .asg (.fld (.var 0) 0) (.new (.lst [])),
  .asg (.fld (.var 0) 1) (.cst (.bl true)),
  .asg (.fld (.var 0) 2) (.new (.lst []))]⟩
def d_DataReader_item : Df := ⟨2, 0, [], false, [
  .ifs (.not (.fld (.var 0) 1)) [.rai 1 (.cst (.str [110, 111, 32, 100, 97, 116, 97]))] [],
  .ifs (.cmp .gt (.bi .len [.fld (.var 0) 0]) (.cst (.int 0))) [.ex (.bm .append (.idx (.fld (.var 0) 0) (.neg (.cst (.int 1)))) [.var 1])] [.ex (.bm .append (.fld (.var 0) 2) [.var 1])],
  .asg (.fld (.var 0) 1) (.cst (.bl false))]⟩
def d_DataReader_open_one : Df := ⟨1, 0, [], false, [
  .ifs (.or (.not (.fld (.var 0) 1)) (.cmp .ge (.bi .len [.fld (.var 0) 0]) (.glo 3))) [.rai 1 (.cst (.str [110, 111, 32, 100, 97, 116, 97]))] [],
  .ex (.bm .append (.fld (.var 0) 0) [.new (.lst [])])]⟩
def d_DataReader_close_one : Df := ⟨1, 1, [], false, [
  .ifs (.or (.cmp .eq (.bi .len [.fld (.var 0) 0]) (.cst (.int 0))) (.and (.fld (.var 0) 1) (.cmp .gt (.bi .len [.idx (.fld (.var 0) 0) (.neg (.cst (.int 1)))]) (.cst (.int 0))))) [.rai 1 (.cst (.str [110, 111, 32, 100, 97, 116, 97]))] [],
  .asg (.nm 1) (.bi .tuple [.bm .pop (.fld (.var 0) 0) []]),
  .asg (.fld (.var 0) 1) (.cst (.bl true)),
  .ex (.met 3 (.var 0) [.var 1])]⟩
def d_DataReader_comma : Df := ⟨1, 0, [], false, [
  .ifs (.or (.fld (.var 0) 1) (.cmp .eq (.bi .len [.fld (.var 0) 0]) (.cst (.int 0)))) [.rai 1 (.cst (.str [110, 111, 32, 100, 97, 116, 97]))] [],
  .asg (.fld (.var 0) 1) (.cst (.bl true))]⟩
def d_DataReader_take : Df := ⟨2, 0, [], false, [
  .ifs (.cmp .eq (.var 1) (.cst (.str [91]))) [.ex (.met 4 (.var 0) [])] [.ifs (.cmp .eq (.var 1) (.cst (.str [93]))) [.ex (.met 1 (.var 0) [])] [.ifs (.cmp .eq (.var 1) (.cst (.str [44]))) [.ex (.met 2 (.var 0) [])] [.ex (.met 3 (.var 0) [.call 6 [.var 1]])]]]]⟩
def b_read_data_1 : List Sm := [.ex (.met 5 (.var 1) [.var 2])]
def d_read_data : Df := ⟨1, 2, [], false, [
  .ifs (.not (.bi (.isI .str) [.var 0])) [.rai 1 (.cst (.str [110, 111, 32, 100, 97, 116, 97]))] [],
  .asg (.nm 1) (.mk 0 []),
  .for_ [2] true (.call 7 [.var 0]) b_read_data_1,
  .ifs (.or (.cmp .gt (.bi .len [.fld (.var 1) 0]) (.cst (.int 0))) (.cmp .ne (.bi .len [.fld (.var 1) 2]) (.cst (.int 1)))) [.rai 1 (.cst (.str [110, 111, 32, 100, 97, 116, 97]))] [],
  .ret (.idx (.fld (.var 1) 2) (.cst (.int 0)))]⟩
def b__law_draw_1 : List Sm := [.asg (.nm 1) (.bin .add (.bin .mod (.bi .int [.bin .add (.bin .mul (.var 1) (.cst (.int 48271))) (.var 2)]) (.cst (.int 2147483629))) (.cst (.int 1)))]
def x__law_draw_2 : Ex := .cp1 (.bi .abs [.bi .int [.var 2]]) [2] true (.slc (.var 0) (.cst .non) (.cst (.int 63))) (.cst (.bl true))
def d__law_draw : Df := ⟨1, 2, [], true, [
  .asg (.nm 1) (.cst (.int 7)),
  .for_ [2] true (.slc (.var 0) (.cst .non) (.cst (.int 63))) b__law_draw_1,
  .ret (.new (.lst [x__law_draw_2, .cst (.int 0), .cst (.int 0), .cst (.int 0), .var 1, .cst (.int 0)]))]⟩
def d__law_take : Df := ⟨2, 1, [], false, [
  .ifs (.and (.cmp .eq (.idx (.var 0) (.cst (.int 3))) (.cst (.int 0))) (.cmp .lt (.idx (.var 0) (.cst (.int 1))) (.bi .len [.idx (.var 0) (.cst (.int 0))]))) [.gen [.sub (.var 0) (.cst (.int 2)), .sub (.var 0) (.cst (.int 3)), .sub (.var 0) (.cst (.int 1))] (.tup [.idx (.idx (.var 0) (.cst (.int 0))) (.idx (.var 0) (.cst (.int 1))), .cst (.int 60), .bin .add (.idx (.var 0) (.cst (.int 1))) (.cst (.int 1))])] [],
  .ifs (.cmp .gt (.idx (.var 0) (.cst (.int 3))) (.cst (.int 0))) [.asg (.nm 2) (.bin .mod (.bi .int [.idx (.var 0) (.cst (.int 2))]) (.var 1)), .asg (.sub (.var 0) (.cst (.int 2))) (.bin .fdiv (.idx (.var 0) (.cst (.int 2))) (.var 1)), .asg (.sub (.var 0) (.cst (.int 3))) (.ife (.cmp .gt (.idx (.var 0) (.cst (.int 2))) (.cst (.int 0))) (.bin .sub (.idx (.var 0) (.cst (.int 3))) (.cst (.int 1))) (.cst (.int 0))), .ret (.var 2)] [],
  .asg (.sub (.var 0) (.cst (.int 5))) (.bin .add (.idx (.var 0) (.cst (.int 5))) (.cst (.int 1))),
  .asg (.sub (.var 0) (.cst (.int 4))) (.bin .mod (.bi .int [.bin .add (.bin .add (.bin .mul (.idx (.var 0) (.cst (.int 4))) (.cst (.int 48271))) (.bin .mul (.bin .mul (.idx (.var 0) (.cst (.int 5))) (.idx (.var 0) (.cst (.int 5)))) (.cst (.int 69621)))) (.cst (.int 11))]) (.cst (.int 2147483647))),
  .ret (.bin .mod (.bi .int [.bin .fdiv (.idx (.var 0) (.cst (.int 4))) (.cst (.int 13))]) (.var 1))]⟩
def x__law_data_1 : Ex := .cp1 (.call 17 [.var 0, .bin .sub (.var 1) (.cst (.int 1))]) [3] true (.bi .range [.call 16 [.var 0, .cst (.int 4)]]) (.cst (.bl true))
def d__law_data : Df := ⟨2, 2, [], false, [
  .asg (.nm 2) (.call 16 [.var 0, .cst (.int 6)]),
  .ifs (.and (.cmp .gt (.var 1) (.cst (.int 0))) (.cmp .lt (.var 2) (.cst (.int 3)))) [.ret (.bi .tuple [x__law_data_1])] [],
  .ifs (.cmp .eq (.var 2) (.cst (.int 3))) [.ret (.ife (.cmp .gt (.call 16 [.var 0, .cst (.int 4)]) (.cst (.int 0))) (.slc (.cst (.str [97, 98, 122, 57])) (.call 16 [.var 0, .cst (.int 3)]) (.cst .non)) (.cst (.str [97, 50, 51, 52, 53, 54, 55, 56, 57, 48, 49, 50])))] [],
  .ret (.idx (.lst [.cst (.int 0), .neg (.cst (.int 1)), .cst (.int 7), .bin .pow (.cst (.int 10)) (.cst (.int 40)), .neg (.bin .pow (.cst (.int 10)) (.cst (.int 20))), .cst (.int 1000), .cst (.bl true), .cst (.bl false), .cst (.str [])]) (.call 16 [.var 0, .cst (.int 9)]))]⟩
def x__law_word_1 : Ex := .cp1 (.or (.chn .le .le (.cst (.str [97])) (.var 1) (.cst (.str [122]))) (.chn .le .le (.cst (.str [48])) (.var 1) (.cst (.str [57])))) [1] true (.var 0) (.cst (.bl true))
def d__law_word : Df := ⟨1, 1, [], false, [
  .ifs (.or (.not (.bi (.isI .str) [.var 0])) (.or (.not (.chn .le .le (.cst (.int 1)) (.bi .len [.var 0]) (.cst (.int 12)))) (.not (.chn .le .le (.cst (.str [97])) (.idx (.var 0) (.cst (.int 0))) (.cst (.str [122])))))) [.ret (.cst (.bl false))] [],
  .ret (.bi .all [x__law_word_1])]⟩
def x__law_written_1 : Ex := .cp1 (.call 19 [.var 2]) [2] true (.var 0) (.cst (.bl true))
def d__law_written : Df := ⟨1, 2, [], false, [
  .ifs (.bi (.isI .tuple) [.var 0]) [.asg (.nm 1) (x__law_written_1), .ret (.ife (.cmp .isin (.cst (.non)) (.var 1)) (.cst (.non)) (.bin .add (.bin .add (.cst (.str [91])) (.bm .join (.cst (.str [44])) [.var 1])) (.cst (.str [93]))))] [],
  .ifs (.call 18 [.var 0]) [.ret (.var 0)] [],
  .ifs (.or (.bi (.isI .bool) [.var 0]) (.and (.bi (.isI .str) [.var 0]) (.cmp .eq (.var 0) (.cst (.str []))))) [.ret (.idx (.dct [.cst (.str [84, 114, 117, 101]), .cst (.str [43]), .cst (.str [70, 97, 108, 115, 101]), .cst (.str [45]), .cst (.str []), .cst (.str [46])]) (.bi .str [.var 0]))] [],
  .ret (.ife (.bi (.isI .int) [.var 0]) (.bi .str [.var 0]) (.cst (.non)))]⟩
def x__law_number_1 : Ex := .cp1 (.cmp .nin (.var 2) (.cst (.str [48, 49, 50, 51, 52, 53, 54, 55, 56, 57]))) [2] true (.var 1) (.cst (.bl true))
def d__law_number : Df := ⟨1, 2, [], false, [
  .asg (.nm 1) (.ife (.cmp .eq (.slc (.var 0) (.cst .non) (.cst (.int 1))) (.cst (.str [45]))) (.slc (.var 0) (.cst (.int 1)) (.cst .non)) (.var 0)),
  .ifs (.or (.cmp .eq (.var 1) (.cst (.str []))) (.or (.bi .any [x__law_number_1]) (.and (.cmp .eq (.idx (.var 1) (.cst (.int 0))) (.cst (.str [48]))) (.cmp .ne (.var 0) (.cst (.str [48])))))) [.ret (.cst (.non))] [],
  .ret (.bi .int [.var 0])]⟩
def b__law_read_1 : List Sm := [.ifs (.cmp .isin (.var 5) (.cst (.str [91, 93, 44, 59]))) [.ifs (.cmp .ne (.var 3) (.cst (.str []))) [.asg (.nm 6) (.bm .get (.dct [.cst (.str [43]), .cst (.bl true), .cst (.str [45]), .cst (.bl false), .cst (.str [46]), .cst (.str [])]) [.var 3, .ife (.call 18 [.var 3]) (.var 3) (.call 20 [.var 3])]), .ifs (.or (.cmp .is (.var 6) (.cst (.non))) (.not (.var 4))) [.ret (.cst (.non))] [], .gen [.nm 2, .nm 4, .nm 3] (.tup [.lst [.var 6], .cst (.bl false), .cst (.str [])])] [], .ifs (.cmp .eq (.var 5) (.cst (.str [91]))) [.ifs (.not (.var 4)) [.ret (.cst (.non))] [], .ex (.bm .append (.var 1) [.new (.lst [])])] [.ifs (.cmp .eq (.var 5) (.cst (.str [44]))) [.ifs (.or (.var 4) (.cmp .eq (.var 1) (.lst []))) [.ret (.cst (.non))] [], .ex (.bm .append (.idx (.var 1) (.neg (.cst (.int 1)))) [.idx (.var 2) (.cst (.int 0))]), .asg (.nm 4) (.cst (.bl true))] [.ifs (.cmp .eq (.var 5) (.cst (.str [93]))) [.ifs (.or (.cmp .eq (.var 1) (.lst [])) (.and (.var 4) (.cmp .ne (.idx (.var 1) (.neg (.cst (.int 1)))) (.lst [])))) [.ret (.cst (.non))] [], .asg (.nm 7) (.bm .pop (.var 1) []), .gen [.nm 2, .nm 4] (.tup [.lst [.bi .tuple [.bin .add (.var 7) (.ife (.var 4) (.lst []) (.lst [.idx (.var 2) (.cst (.int 0))]))]], .cst (.bl false)])] []]]] [.asg (.nm 3) (.bin .add (.var 3) (.var 5))]]
def d__law_read : Df := ⟨1, 7, [], false, [
  .gen [.nm 1, .nm 2, .nm 3, .nm 4] (.tup [.new (.lst []), .lst [], .cst (.str []), .cst (.bl true)]),
  .for_ [5] true (.bin .add (.var 0) (.cst (.str [59]))) b__law_read_1,
  .ret (.ife (.and (.cmp .eq (.var 1) (.lst [])) (.and (.not (.var 4)) (.cmp .nin (.cst (.str [59])) (.var 0)))) (.var 2) (.cst (.non)))]⟩
def b__law_told_1 : List Sm := [.ret (.ife (.cmp .eq (.var 0) (.cst (.int 0))) (.lst [.call 4 [.var 1]]) (.lst [.call 14 [.var 1]]))]
def d__law_told : Df := ⟨2, 0, [], false, [
  .try_ b__law_told_1 1 (.ret (.cst (.non)))]⟩
def b_law_1 : List Sm := [.asg (.nm 9) (.call 21 [.var 8]), .ifs (.cmp .ne (.bi .repr [.call 22 [.cst (.int 1), .var 8]]) (.bi .repr [.ife (.and (.cmp .isn (.var 9) (.cst (.non))) (.cmp .eq (.call 19 [.idx (.var 9) (.cst (.int 0))]) (.var 8))) (.var 9) (.cst (.non))])) [.ret (.cst (.bl false))] []]
def b_law_2 : List Sm := [.gen [.nm 6, .nm 7] (.tup [.call 16 [.var 1, .bin .add (.bi .len [.var 4]) (.cst (.int 1))], .idx (.cst (.str [91, 93, 44, 97, 48, 45, 49, 32, 65, 43, 46])) (.call 16 [.var 1, .cst (.int 11)])]), .for_ [8] true (.lst [.bin .add (.bin .add (.slc (.var 4) (.cst .non) (.var 6)) (.var 7)) (.slc (.var 4) (.var 6) (.cst .non)), .bin .add (.slc (.var 4) (.cst .non) (.var 6)) (.slc (.var 4) (.bin .add (.var 6) (.cst (.int 1))) (.cst .non)), .bin .add (.bin .add (.slc (.var 4) (.cst .non) (.var 6)) (.var 7)) (.slc (.var 4) (.bin .add (.var 6) (.cst (.int 1))) (.cst .non))]) b_law_1]
def b_law_3 : List Sm := [.asg (.nm 3) (.call 17 [.var 1, .cst (.int 5)]), .asg (.nm 4) (.call 19 [.var 3]), .ifs (.or (.cmp .ne (.call 22 [.cst (.int 0), .var 3]) (.lst [.var 4])) (.cmp .ne (.bi .repr [.call 22 [.cst (.int 1), .var 4]]) (.bi .repr [.lst [.var 3]]))) [.ret (.cst (.bl false))] [], .for_ [5] true (.bi .range [.cst (.int 8)]) b_law_2]
def b_law_4 : List Sm := [.ifs (.cmp .isn (.call 22 [.cst (.int 0), .var 10]) (.cst (.non))) [.ret (.cst (.bl false))] []]
def b_law_5 : List Sm := [.asg (.nm 12) (.tup [.var 12])]
def x_law_6 : Ex := .cp1 (.call 22 [.cst (.int 1), .var 13]) [13] true (.lst [.cst (.non), .cst (.int 5), .tup [.cst (.int 1)], .cst (.str []), .cst (.str [91, 97, 93, 91, 98, 93]), .cst (.str [97, 44, 98]), .cst (.str [91, 97])]) (.cst (.bl true))
def d_law : Df := ⟨1, 13, [], false, [
  .asg (.nm 1) (.call 15 [.var 0]),
  .for_ [2] true (.bi .range [.cst (.int 4)]) b_law_3,
  .for_ [10] true (.lst [.cst (.non), .cst (.str [65]), .cst (.str [43]), .cst (.str [97, 32, 98]), .cst (.str [57, 97]), .cst (.str [97, 98, 99, 100, 101, 102, 103, 104, 105, 106, 107, 108, 109]), .lst [.cst (.int 1)], .tup [.cst (.int 1), .cst (.non)], .tup [.tup [.cst (.non)]], .lst [.cst (.str [97])], .tup [.cst (.str [97]), .lst []], .cst (.str [93]), .tup [.cst (.str [93])]]) b_law_4,
  .asg (.nm 11) (.bin .mul (.cst (.str [57])) (.cst (.int 4000))),
  .ifs (.or (.cmp .ne (.call 22 [.cst (.int 0), .bi .int [.var 11]]) (.lst [.var 11])) (.or (.cmp .is (.call 22 [.cst (.int 1), .bin .add (.cst (.str [45])) (.var 11)]) (.cst (.non))) (.or (.cmp .isn (.call 22 [.cst (.int 1), .bin .add (.var 11) (.cst (.str [48]))]) (.cst (.non))) (.cmp .isn (.call 22 [.cst (.int 0), .bin .add (.bi .int [.var 11]) (.cst (.int 1))]) (.cst (.non)))))) [.ret (.cst (.bl false))] [],
  .asg (.nm 12) (.tup []),
  .for_ [2] true (.bi .range [.cst (.int 999)]) b_law_5,
  .ifs (.or (.cmp .ne (.call 22 [.cst (.int 0), .var 12]) (.lst [.bin .add (.bin .mul (.cst (.str [91])) (.cst (.int 1000))) (.bin .mul (.cst (.str [93])) (.cst (.int 1000)))])) (.or (.cmp .isn (.call 22 [.cst (.int 0), .tup [.var 12]]) (.cst (.non))) (.cmp .isn (.call 22 [.cst (.int 1), .bin .add (.bin .mul (.cst (.str [91])) (.cst (.int 1001))) (.bin .mul (.cst (.str [93])) (.cst (.int 1001)))]) (.cst (.non))))) [.ret (.cst (.bl false))] [],
  .ret (.and (.cmp .isn (.call 22 [.cst (.int 1), .bin .add (.bin .mul (.cst (.str [91])) (.cst (.int 1000))) (.bin .mul (.cst (.str [93])) (.cst (.int 1000)))]) (.cst (.non))) (.cmp .eq (x_law_6) (.bin .mul (.lst [.cst (.non)]) (.cst (.int 7)))))]⟩
def Tr (rep : Val → List Nat) : Tab := {
    defs := [d_is_whole, d_is_word, d_is_short, d_atom_text, d_write_data, d_read_whole, d_read_atom, d_pieces_of, d_DataReader___init__, d_DataReader_item, d_DataReader_open_one, d_DataReader_close_one, d_DataReader_comma, d_DataReader_take, d_read_data, d__law_draw, d__law_take, d__law_data, d__law_word, d__law_written, d__law_number, d__law_read, d__law_told],
    mth := [(0, 0, 8), (0, 3, 9), (0, 4, 10), (0, 1, 11), (0, 2, 12), (0, 5, 13)], ini := [(0, 8)], glo := [.str [97, 98, 99, 100, 101, 102, 103, 104, 105, 106, 107, 108, 109, 110, 111, 112, 113, 114, 115, 116, 117, 118, 119, 120, 121, 122],
    .str [48, 49, 50, 51, 52, 53, 54, 55, 56, 57],
    .int 12,
    .int 1000,
    .int 4000,
    .kon [.str [43], .str [45], .str [46]] [.bl true, .bl false, .str []]], sub := [(0, 0), (1, 0), (1, 1)], exs := [0, 1], rep := rep }
end Nt
end
section
set_option linter.all false
set_option maxRecDepth 100000
set_option maxHeartbeats 4000000
/-! NlPl: the evaluator's plain laws. -/
namespace Nl
variable {T : Tab} {cl mk : Nat → List Val → Store → Res Val}
noncomputable def mkN (T : Tab) : Nat → Nat → List Val → Store → Res Val
  | 0 => noF
  | k + 1 => mkOf T (callF T k)
theorem callF_succ {T : Tab} {f : Nat} {d : Df} (h : T.defs[f]? = some d) (k : Nat) (args : List Val) (st : Store) : callF T (k + 1) f args st = runDf T (callF T k) (mkN T k) d args st := by
  cases k with
  | zero =>
    have e : callF T 0 = noF := by funext f args st; simp only [callF, noF]
    rw [e]; simp only [callF, h, mkN]
  | succ k => simp only [callF, h, mkN]
/-- the parameters' places, then the others -/
def env0 (d : Df) (args : List Val) : Env := args.map some ++ List.replicate d.locs none
theorem pure_ret {d : Df} {args : List Val} {st s : Store} {v : Val} (hl : args.length = d.pars) (hd : d.dfl = []) (ho : d.opn = false) (hc : closedAll args = true) (h : evSs T cl mk d.body (env0 d args) [] = .ret v s) (hv : v.closed = true) : runDf T cl mk d args st = .ok v st := by
  unfold runDf
  simp only [hd, List.length_nil, Nat.sub_zero, List.drop_nil, List.append_nil, hl, Nat.zero_le, Nat.le_refl, and_self, if_true, hc, ho, Bool.not_false, Bool.and_self]
  show (match evSs T cl mk d.body (env0 d args) [] with | .ret v _ => if v.closed = true then Res.ok v st else .stuck | .next _ _ => .ok .non st | .exc c m _ _ => .exc c m st | _ => .stuck) = _
  rw [h]
  simp [hv]
theorem pure_exc {d : Df} {args : List Val} {st s : Store} {c : Nat} {m : List Nat} {e : Env} (hl : args.length = d.pars) (hd : d.dfl = []) (ho : d.opn = false) (hc : closedAll args = true) (h : evSs T cl mk d.body (env0 d args) [] = .exc c m e s) : runDf T cl mk d args st = .exc c m st := by
  unfold runDf
  simp only [hd, List.length_nil, Nat.sub_zero, List.drop_nil, List.append_nil, hl, Nat.zero_le, Nat.le_refl, and_self, if_true, hc, ho, Bool.not_false, Bool.and_self]
  show (match evSs T cl mk d.body (env0 d args) [] with | .ret v _ => if v.closed = true then Res.ok v st else .stuck | .next _ _ => .ok .non st | .exc c m _ _ => .exc c m st | _ => .stuck) = _
  rw [h]
/-- not pure -/
theorem open_run {d : Df} {args : List Val} {st : Store} (hl : args.length = d.pars) (hd : d.dfl = []) (ho : (closedAll args && !d.opn) = false) :
    runDf T cl mk d args st = (match evSs T cl mk d.body (env0 d args) st with
      | .ret v s => .ok v (trim st.length v s)
      | .next _ s => .ok .non (trim st.length .non s)
      | .exc c m _ s => .exc c m (trim st.length .non s)
      | _ => .stuck) := by
  unfold runDf
  simp only [hd, List.length_nil, Nat.sub_zero, List.drop_nil, List.append_nil, hl, Nat.zero_le, Nat.le_refl, and_self, if_true, ho, Bool.false_eq_true, if_false]
  rfl
theorem trim_same {n : Nat} {v : Val} {st : Store} (h : st.length = n) : trim n v st = st := by
  unfold trim
  rw [List.take_of_length_le (by omega)]
  split <;> rfl
/-! ### loops -/
theorem stands_none {all : List Val} {st : Store} : stands none all st := fun a h => by cases h
theorem forL_nil {t : List Nat} {one : Bool} {all : List Val} {body : Env → Store → RS} {env : Env} {st : Store} : forL t one none all body [] env st = .next env st := by
  unfold forL; rw [if_pos stands_none]
theorem forL_cons {t : List Nat} {one : Bool} {all : List Val} {body : Env → Store → RS} {x : Val} {r : List Val} {env env' : Env} {st : Store} (h : putTg t one x env = some env') :
    forL t one none all body (x :: r) env st = (match body env' st with
        | .next e s => forL t one none all body r e s
        | .cnt e s => forL t one none all body r e s
        | .brk e s => .next e s
        | o => o) := by
  rw [forL, if_pos stands_none, h] <;> rfl
theorem mapL_nil {t : List Nat} {one : Bool} {all : List Val} {c : Env → Store → Res Bool} {e : Env → Store → Res Val} {env : Env} {st : Store} : mapL t one none all c e [] env st = .ok [] st := by
  unfold mapL; rw [if_pos stands_none]
theorem mapL_cons {t : List Nat} {one : Bool} {all : List Val} {c : Env → Store → Res Bool} {e : Env → Store → Res Val} {x : Val} {r : List Val} {env env' : Env} {st : Store} (h : putTg t one x env = some env') :
    mapL t one none all c e (x :: r) env st = ((c env' st).calm.bind fun b s => if b then (e env' s).calm.bind fun v s2 => (mapL t one none all c e r env s2).bind fun vs s3 => .ok (v :: vs) s3 else mapL t one none all c e r env s) := by
  rw [mapL, if_pos stands_none, h]
/-- a walk that leaves the store as it is -/
theorem mapL_map {one : Bool} {t : List Nat} {all : List Val} {c : Env → Store → Res Bool} {e : Env → Store → Res Val} {env : Env} {st : Store} (f : Val → Val) : ∀ {xs : List Val}, (∀ x ∈ xs, ∃ env', putTg t one x env = some env' ∧ c env' st = .ok true st ∧ e env' st = .ok (f x) st) → mapL t one none all c e xs env st = .ok (xs.map f) st
  | [], _ => mapL_nil
  | x :: xs, h => by
    obtain ⟨env', h1, h2, h3⟩ := h x List.mem_cons_self
    rw [mapL_cons h1, h2, Res.calm_ok, Res.bind_ok, if_pos rfl, h3, Res.calm_ok, Res.bind_ok, mapL_map f (fun y hy => h y (List.mem_cons_of_mem _ hy)), Res.bind_ok]
    rfl
theorem whileN_mono {c : Env → Store → Res Bool} {b : Env → Store → RS} : ∀ {n m : Nat} {env : Env} {st : Store} {r : RS}, whileN c b n env st = some r → n ≤ m → whileN c b m env st = some r
  | 0, _, _, _, _, h, _ => by simp [whileN] at h
  | n + 1, 0, _, _, _, _, hm => by omega
  | n + 1, m + 1, env, st, r, h, hm => by
    unfold whileN at h ⊢
    cases hc : c env st with
    | ok k s =>
      rw [hc] at h
      cases k with
      | false => exact h
      | true =>
        dsimp only at h ⊢
        cases hb : b env s with
        | next e s2 => rw [hb] at h; exact whileN_mono (n := n) (m := m) h (by omega)
        | cnt e s2 => rw [hb] at h; exact whileN_mono (n := n) (m := m) h (by omega)
        | _ => rw [hb] at h; exact h
    | exc k m s => rw [hc] at h; exact h
    | stuck => rw [hc] at h; exact h
theorem whileD_of {c : Env → Store → Res Bool} {b : Env → Store → RS} {n : Nat} {env : Env} {st : Store} {r : RS} (h : whileN c b n env st = some r) : whileD c b env st = r := by
  have hx : ∃ n r, whileN c b n env st = some r := ⟨n, r, h⟩
  unfold whileD
  rw [dif_pos hx]
  have h2 := hx.choose_spec.choose_spec
  have h3 := whileN_mono h2 (Nat.le_max_left _ n)
  have h4 := whileN_mono h (Nat.le_max_right hx.choose n)
  rw [h3] at h4
  exact Option.some.inj h4
theorem whileD_end {c : Env → Store → Res Bool} {b : Env → Store → RS} {env : Env} {st s : Store} (h : c env st = .ok false s) : whileD c b env st = .next env s :=
  whileD_of (n := 1) (by simp only [whileN, h])
/-- one turn -/
theorem whileD_turn {c : Env → Store → Res Bool} {b : Env → Store → RS} {env e : Env} {st s s2 : Store} (h : c env st = .ok true s) (hb : b env s = .next e s2) : whileD c b env st = whileD c b e s2 := by
  by_cases hx : ∃ n r, whileN c b n e s2 = some r
  · obtain ⟨n, r, hr⟩ := hx
    rw [whileD_of hr]
    exact whileD_of (n := n + 1) (by simp only [whileN, h, hb]; exact hr)
  · have hy : ¬ ∃ n r, whileN c b n env st = some r := fun ⟨n, r, hr⟩ => hx <| by
      cases n with
      | zero => simp [whileN] at hr
      | succ n => simp only [whileN, h, hb] at hr; exact ⟨n, r, hr⟩
    unfold whileD
    rw [dif_neg hx, dif_neg hy]
theorem whileD_exc {c : Env → Store → Res Bool} {b : Env → Store → RS} {env e : Env} {st s s2 : Store} {k : Nat} {m : List Nat} (h : c env st = .ok true s) (hb : b env s = .exc k m e s2) : whileD c b env st = .exc k m e s2 :=
  whileD_of (n := 1) (by simp only [whileN, h, hb])
/-! ### the evaluator, piece by piece -/
section
variable {env : Env} {st : Store}
@[simp] theorem ev_var {i : Nat} : ev T cl mk (.var i) env st = (match env[i]? with | some (some v) => .ok v st | _ => .stuck) := by first | (simp only [ev]; done) | (simp only [ev]; rfl)
@[simp] theorem ev_cst {v : Val} : ev T cl mk (.cst v) env st = .ok v st := by first | (simp only [ev]; done) | (simp only [ev]; rfl)
@[simp] theorem ev_glo {g : Nat} : ev T cl mk (.glo g) env st = Res.opt T.glo[g]? st := by first | (simp only [ev]; done) | (simp only [ev]; rfl)
@[simp] theorem ev_bin {o : Bop} {a b : Ex} : ev T cl mk (.bin o a b) env st = (ev T cl mk a env st).bind fun x s => (ev T cl mk b env s).bind fun y s => Res.opt (binV o (rd s x) (rd s y)) s := by first | (simp only [ev]; done) | (simp only [ev]; rfl)
@[simp] theorem ev_neg {a : Ex} : ev T cl mk (.neg a) env st = (ev T cl mk a env st).bind fun x s => match x with | .int i => .ok (.int (-i)) s | _ => .stuck := by first | (simp only [ev]; done) | (simp only [ev]; rfl)
@[simp] theorem ev_cmp {o : Cop} {a b : Ex} : ev T cl mk (.cmp o a b) env st = (ev T cl mk a env st).bind fun x s => (ev T cl mk b env s).bind fun y s => Res.opt ((cmpV o (rd s x) (rd s y)).map .bl) s := by first | (simp only [ev]; done) | (simp only [ev]; rfl)
@[simp] theorem ev_chn {o p : Cop} {a b c : Ex} : ev T cl mk (.chn o p a b c) env st = (ev T cl mk a env st).bind fun x s => (ev T cl mk b env s).bind fun y s => match cmpV o (rd s x) (rd s y) with
    | some b => if b then (ev T cl mk c env s).bind fun z s => Res.opt ((cmpV p (rd s y) (rd s z)).map .bl) s else .ok (.bl false) s
    | none => .stuck := by
  simp only [ev]
  congr 1; funext x s; congr 1; funext y s
  cases cmpV o (rd s x) (rd s y) with
  | none => rfl
  | some b => cases b <;> rfl
@[simp] theorem ev_and {a b : Ex} : ev T cl mk (.and a b) env st = (ev T cl mk a env st).bind fun x s => (asBool x s).bind fun k s => if k then ev T cl mk b env s else .ok (.bl false) s := by first | (simp only [ev]; done) | (simp only [ev]; rfl)
@[simp] theorem ev_or {a b : Ex} : ev T cl mk (.or a b) env st = (ev T cl mk a env st).bind fun x s => (asBool x s).bind fun k s => if k then .ok (.bl true) s else ev T cl mk b env s := by first | (simp only [ev]; done) | (simp only [ev]; rfl)
@[simp] theorem ev_not {a : Ex} : ev T cl mk (.not a) env st = (ev T cl mk a env st).bind fun x s => (asBool x s).bind fun k s => .ok (.bl !k) s := by first | (simp only [ev]; done) | (simp only [ev]; rfl)
@[simp] theorem ev_ife {c a b : Ex} : ev T cl mk (.ife c a b) env st = (ev T cl mk c env st).bind fun x s => (asBool x s).bind fun k s => if k then ev T cl mk a env s else ev T cl mk b env s := by first | (simp only [ev]; done) | (simp only [ev]; rfl)
@[simp] theorem ev_tup {xs : List Ex} : ev T cl mk (.tup xs) env st = (evs T cl mk xs env st).bind fun vs s => .ok (.tup vs) s := by first | (simp only [ev]; done) | (simp only [ev]; rfl)
@[simp] theorem ev_lst {xs : List Ex} : ev T cl mk (.lst xs) env st = (evs T cl mk xs env st).bind fun vs s => .ok (.lst vs) s := by first | (simp only [ev]; done) | (simp only [ev]; rfl)
@[simp] theorem ev_dct {kvs : List Ex} : ev T cl mk (.dct kvs) env st = (evs T cl mk kvs env st).bind fun xs s => if (altL xs).1.all inV.keyV && distK (altL xs).1 && decide (xs.length ≤ 30) then .ok (.dct (altL xs).1 (altL xs).2) s else .stuck := by first | (simp only [ev]; done) | (simp only [ev]; rfl)
@[simp] theorem ev_idx {a i : Ex} : ev T cl mk (.idx a i) env st = (ev T cl mk a env st).bind fun x s => (ev T cl mk i env s).bind fun y s => Res.opt (idxV (rd s x) y) s := by first | (simp only [ev]; done) | (simp only [ev]; rfl)
@[simp] theorem ev_slc {a l h : Ex} : ev T cl mk (.slc a l h) env st = (ev T cl mk a env st).bind fun x s => (ev T cl mk l env s).bind fun y s => if (optI y).isSome then (ev T cl mk h env s).bind fun z s => Res.opt (slcV (rd s x) y z) s else .stuck := by first | (simp only [ev]; done) | (simp only [ev]; rfl)
@[simp] theorem ev_fld {a : Ex} {f : Nat} : ev T cl mk (.fld a f) env st = (ev T cl mk a env st).bind fun x s => Res.opt (fldV s f x) s := by first | (simp only [ev]; done) | (simp only [ev]; rfl)
@[simp] theorem ev_call {f : Nat} {xs : List Ex} : ev T cl mk (.call f xs) env st = (evs T cl mk xs env st).bind fun vs s => cl f vs s := by first | (simp only [ev]; done) | (simp only [ev]; rfl)
@[simp] theorem ev_mk {c : Nat} {xs : List Ex} : ev T cl mk (.mk c xs) env st = (evs T cl mk xs env st).bind fun vs s => mk c vs s := by first | (simp only [ev]; done) | (simp only [ev]; rfl)
@[simp] theorem ev_met {m : Nat} {o : Ex} {xs : List Ex} : ev T cl mk (.met m o xs) env st = (ev T cl mk o env st).bind fun x s => match (clsV s x).bind fun c => look2 c m T.mth with
    | some f => (evs T cl mk xs env s).bind fun vs s => cl f (x :: vs) s
    | none => .stuck := by first | (simp only [ev]; done) | (simp only [ev]; rfl)
@[simp] theorem ev_bi {b : Bi} {xs : List Ex} : ev T cl mk (.bi b xs) env st = (evs T cl mk xs env st).bind fun vs s => Res.opt (biV T b (vs.map (rdI s))) s := by first | (simp only [ev]; done) | (simp only [ev]; rfl)
@[simp] theorem ev_bm {b : Bm} {o : Ex} {xs : List Ex} : ev T cl mk (.bm b o xs) env st = (ev T cl mk o env st).bind fun x s => if rcvT b (rd s x) then (evs T cl mk xs env s).bind fun vs s => (match bmV b x vs s with
    | some (v, s') => .ok v s'
    | none => .stuck) else .stuck := by first | (simp only [ev]; done) | (simp only [ev]; rfl)
theorem ev_cp1 {e it c : Ex} {t : List Nat} {one : Bool} : ev T cl mk (.cp1 e t one it c) env st = (ev T cl mk it env st).bind fun x s => match walked s x with
    | some (g, xs) => if xs.length ≤ line then (mapL t one g xs (fun env s => (ev T cl mk c env s).bind asBool) (fun env s => ev T cl mk e env s) xs (wipeE t env) s).bind fun vs s => .ok (.lst vs) s else .stuck
    | none => .stuck := by first | (simp only [ev]; done) | (simp only [ev]; rfl)
@[simp] theorem ev_new {a : Ex} : ev T cl mk (.new a) env st = (ev T cl mk a env st).bind fun x s => match x with
    | .lst xs => .ok (.ref s.length) (s ++ [.lst xs])
    | .dct ks vs => .ok (.ref s.length) (s ++ [.dct ks vs])
    | _ => .stuck := by first | (simp only [ev]; done) | (simp only [ev]; rfl)
@[simp] theorem ev_frz {a : Ex} : ev T cl mk (.frz a) env st = (ev T cl mk a env st).bind fun x s => frzV s x := by first | (simp only [ev]; done) | (simp only [ev]; rfl)
@[simp] theorem evs_nil : evs T cl mk [] env st = .ok [] st := by first | (simp only [evs]; done) | (simp only [evs]; rfl)
@[simp] theorem evs_cons {x : Ex} {xs : List Ex} : evs T cl mk (x :: xs) env st = (ev T cl mk x env st).bind fun v s => (evs T cl mk xs env s).bind fun vs s => .ok (v :: vs) s := by first | (simp only [evs]; done) | (simp only [evs]; rfl)
@[simp] theorem evS_asg {l : Lv} {e : Ex} : evS T cl mk (.asg l e) env st = (ev T cl mk e env st).into env fun v s => putLv T cl mk l v env s := by first | (simp only [evS]; done) | (simp only [evS]; rfl)
@[simp] theorem evS_gen {ls : List Lv} {e : Ex} : evS T cl mk (.gen ls e) env st = (ev T cl mk e env st).into env fun v s => match v with
    | .tup vs => if vs.length = ls.length then putLvs T cl mk ls vs env s else .stuck
    | _ => .stuck := by first | (simp only [evS]; done) | (simp only [evS]; rfl)
@[simp] theorem evS_aug {i : Nat} {o : Bop} {e : Ex} : evS T cl mk (.aug (.nm i) o e) env st = (match env[i]? with
    | some (some x) => (ev T cl mk e env st).into env fun y s => match augV o x y with
      | some v => .next (env.set i (some v)) s
      | none => .stuck
    | _ => .stuck) := by first | (simp only [evS]; done) | (simp only [evS]; rfl)
@[simp] theorem evS_ex {e : Ex} : evS T cl mk (.ex e) env st = (ev T cl mk e env st).into env fun _ s => .next env s := by first | (simp only [evS]; done) | (simp only [evS]; rfl)
@[simp] theorem evS_ret {e : Ex} : evS T cl mk (.ret e) env st = (ev T cl mk e env st).into env fun v s => .ret v s := by first | (simp only [evS]; done) | (simp only [evS]; rfl)
@[simp] theorem evS_retN : evS T cl mk .retN env st = .ret .non st := by first | (simp only [evS]; done) | (simp only [evS]; rfl)
@[simp] theorem evS_ifs {c : Ex} {a b : List Sm} : evS T cl mk (.ifs c a b) env st = ((ev T cl mk c env st).bind asBool).into env fun k s => if k then evSs T cl mk a env s else evSs T cl mk b env s := by first | (simp only [evS]; done) | (simp only [evS]; rfl)
theorem evS_whl {c : Ex} {b : List Sm} : evS T cl mk (.whl c b) env st = whileD (fun env st => (ev T cl mk c env st).bind asBool) (fun env st => evSs T cl mk b env st) env st := by first | (simp only [evS]; done) | (simp only [evS]; rfl)
theorem evS_for {t : List Nat} {one : Bool} {it : Ex} {b : List Sm} : evS T cl mk (.for_ t one it b) env st = (ev T cl mk it env st).into env fun x s => match walked s x with
    | some (g, xs) => forL t one g xs (fun env st => evSs T cl mk b env st) xs env s
    | none => .stuck := by first | (simp only [evS]; done) | (simp only [evS]; rfl)
@[simp] theorem evS_brk : evS T cl mk .brk env st = .brk env st := by first | (simp only [evS]; done) | (simp only [evS]; rfl)
@[simp] theorem evS_cnt : evS T cl mk .cnt env st = .cnt env st := by first | (simp only [evS]; done) | (simp only [evS]; rfl)
@[simp] theorem evS_pas : evS T cl mk .pas env st = .next env st := by first | (simp only [evS]; done) | (simp only [evS]; rfl)
@[simp] theorem evS_rai {c : Nat} {e : Ex} : evS T cl mk (.rai c e) env st = (ev T cl mk e env st).into env fun v s => match v with
    | .str m => .exc c m env s
    | _ => .stuck := by first | (simp only [evS]; done) | (simp only [evS]; rfl)
@[simp] theorem evSs_nil : evSs T cl mk [] env st = .next env st := by first | (simp only [evSs]; done) | (simp only [evSs]; rfl)
@[simp] theorem evSs_cons {s : Sm} {r : List Sm} : evSs T cl mk (s :: r) env st = (evS T cl mk s env st).then fun env st => evSs T cl mk r env st := by first | (simp only [evSs]; done) | (simp only [evSs]; rfl)
@[simp] theorem putLv_nm {i : Nat} {v : Val} : putLv T cl mk (.nm i) v env st = .next (env.set i (some v)) st := rfl
@[simp] theorem putLv_fld {o : Ex} {f : Nat} {v : Val} : putLv T cl mk (.fld o f) v env st = (ev T cl mk o env st).into env fun x s => match setFldV x f v s with
    | some s' => .next env s'
    | none => .stuck := rfl
@[simp] theorem putLv_sub {o i : Ex} {v : Val} : putLv T cl mk (.sub o i) v env st = (ev T cl mk o env st).into env fun x s => (ev T cl mk i env s).into env fun y s => match setItV x y v s with
    | some s' => .next env s'
    | none => .stuck := rfl
@[simp] theorem putLvs_nil : putLvs T cl mk [] [] env st = .next env st := rfl
@[simp] theorem putLvs_cons {l : Lv} {ls : List Lv} {v : Val} {vs : List Val} : putLvs T cl mk (l :: ls) (v :: vs) env st = (putLv T cl mk l v env st).then fun env st => putLvs T cl mk ls vs env st := rfl
@[simp] theorem asBool_bl {b : Bool} : asBool (.bl b) st = .ok b st := rfl
end
/-! ### comprehensions -/
theorem walked_str {s : List Nat} {st : Store} : walked st (.str s) = some (none, s.map fun c => .str [c]) := rfl
theorem walked_lst {xs : List Val} {st : Store} : walked st (.lst xs) = some (none, xs) := rfl
theorem walked_tup {xs : List Val} {st : Store} : walked st (.tup xs) = some (none, xs) := rfl
/-- over a text, each sign by itself -/
theorem cp1_str {e it : Ex} {i : Nat} {env : Env} {st : Store} {s : List Nat} (f : Nat → Val) (hs : s.length ≤ line) (hit : ev T cl mk it env st = .ok (.str s) st) (h : ∀ c ∈ s, ev T cl mk e ((env.set i none).set i (some (.str [c]))) st = .ok (f c) st) :
    ev T cl mk (.cp1 e [i] true it (.cst (.bl true))) env st = .ok (.lst (s.map f)) st := by
  rw [ev_cp1, hit, Res.bind_ok, walked_str]
  dsimp only
  rw [List.length_map, if_pos hs]
  have key : ∀ {l : List Nat} {all : List Val}, (∀ c ∈ l, c ∈ s) → mapL [i] true none all (fun env s => (ev T cl mk (.cst (.bl true)) env s).bind asBool) (fun env s => ev T cl mk e env s) (l.map fun c => .str [c]) (wipeE [i] env) st = .ok (l.map f) st := by
    intro l
    induction l with
    | nil => intro all _; exact mapL_nil
    | cons c l ih =>
      intro all hm
      rw [List.map_cons, mapL_cons (env' := (env.set i none).set i (some (.str [c]))) rfl, ev_cst, Res.bind_ok, asBool_bl, Res.calm_ok, Res.bind_ok, if_pos rfl]
      rw [h c (hm c List.mem_cons_self), Res.calm_ok, Res.bind_ok, ih fun d hd => hm d (List.mem_cons_of_mem _ hd)]
      rfl
  rw [key fun c h => h, Res.bind_ok]
/-- over a list or a tuple that nobody changes, the store as it is -/
theorem cp1_lst {e it : Ex} {i : Nat} {env : Env} {st : Store} {v : Val} {xs : List Val} (f : Val → Val) (hs : xs.length ≤ line) (hit : ev T cl mk it env st = .ok v st) (hv : walked st v = some (none, xs)) (h : ∀ x ∈ xs, ev T cl mk e ((env.set i none).set i (some x)) st = .ok (f x) st) :
    ev T cl mk (.cp1 e [i] true it (.cst (.bl true))) env st = .ok (.lst (xs.map f)) st := by
  rw [ev_cp1, hit, Res.bind_ok, hv]
  dsimp only
  rw [if_pos hs]
  have key : ∀ {l : List Val} {all : List Val}, (∀ c ∈ l, c ∈ xs) → mapL [i] true none all (fun env s => (ev T cl mk (.cst (.bl true)) env s).bind asBool) (fun env s => ev T cl mk e env s) l (wipeE [i] env) st = .ok (l.map f) st := by
    intro l
    induction l with
    | nil => intro all _; exact mapL_nil
    | cons c l ih =>
      intro all hm
      rw [mapL_cons (env' := (env.set i none).set i (some c)) rfl, ev_cst, Res.bind_ok, asBool_bl, Res.calm_ok, Res.bind_ok, if_pos rfl]
      rw [h c (hm c List.mem_cons_self), Res.calm_ok, Res.bind_ok, ih fun d hd => hm d (List.mem_cons_of_mem _ hd)]
      rfl
  rw [key fun c h => h, Res.bind_ok]
theorem bools_map {α : Type} (g : α → Bool) : ∀ s : List α, bools (s.map fun c => .bl (g c)) = some (s.map g)
  | [] => rfl
  | c :: s => by simp only [List.map_cons, bools, bools_map g s, Option.map_some]
theorem strs_map {α : Type} (g : α → List Nat) : ∀ s : List α, strL (s.map fun c => .str (g c)) = some (s.map g)
  | [] => rfl
  | c :: s => by simp only [List.map_cons, strL, strs_map g s, Option.map_some]
/-! ### values -/
section
variable {st : Store}
@[simp] theorem rd_non : rd st .non = .non := rfl
@[simp] theorem rd_bl {b : Bool} : rd st (.bl b) = .bl b := rfl
@[simp] theorem rd_int {i : Int} : rd st (.int i) = .int i := rfl
@[simp] theorem rd_str {s : List Nat} : rd st (.str s) = .str s := rfl
@[simp] theorem rd_tup {s : List Val} : rd st (.tup s) = .tup s := rfl
@[simp] theorem rd_lst {s : List Val} : rd st (.lst s) = .lst s := rfl
@[simp] theorem rd_dct {s t : List Val} : rd st (.dct s t) = .dct s t := rfl
@[simp] theorem rd_kon {s t : List Val} : rd st (.kon s t) = .kon s t := rfl
@[simp] theorem rd_scr {s : List Int} : rd st (.scr s) = .scr s := rfl
@[simp] theorem rd_ref {a : Nat} : rd st (.ref a) = (match st[a]? with
    | some (.lst xs) => .lst xs
    | some (.dct ks vs) => .dct ks vs
    | _ => .ref a) := rfl
@[simp] theorem rdI_non : rdI st .non = .non := rfl
@[simp] theorem rdI_bl {b : Bool} : rdI st (.bl b) = .bl b := rfl
@[simp] theorem rdI_int {i : Int} : rdI st (.int i) = .int i := rfl
@[simp] theorem rdI_str {s : List Nat} : rdI st (.str s) = .str s := rfl
@[simp] theorem rdI_tup {s : List Val} : rdI st (.tup s) = .tup s := rfl
@[simp] theorem rdI_lst {s : List Val} : rdI st (.lst s) = .lst s := rfl
@[simp] theorem rdI_dct {s t : List Val} : rdI st (.dct s t) = .dct s t := rfl
@[simp] theorem rdI_ref {a : Nat} : rdI st (.ref a) = (match st[a]? with
    | some (.lst xs) => .lst xs
    | some (.dct ks vs) => .dct ks vs
    | some (.ins c fs vs) => .obj c fs vs
    | _ => .ref a) := rfl
@[simp] theorem cmp_lt {i j : Int} : cmpV .lt (.int i) (.int j) = some (decide (i < j)) := rfl
@[simp] theorem cmp_le {i j : Int} : cmpV .le (.int i) (.int j) = some (decide (i ≤ j)) := rfl
@[simp] theorem cmp_gt {i j : Int} : cmpV .gt (.int i) (.int j) = some (decide (j < i)) := rfl
@[simp] theorem cmp_ge {i j : Int} : cmpV .ge (.int i) (.int j) = some (decide (j ≤ i)) := rfl
@[simp] theorem cmp_ltS {i j : List Nat} : cmpV .lt (.str i) (.str j) = some (ltS i j) := rfl
@[simp] theorem cmp_leS {i j : List Nat} : cmpV .le (.str i) (.str j) = some (!ltS j i) := rfl
@[simp] theorem cmp_eq {x y : Val} : cmpV .eq x y = eqV x y := rfl
@[simp] theorem cmp_ne {x y : Val} : cmpV .ne x y = (eqV x y).map (!·) := rfl
@[simp] theorem cmp_is {x y : Val} : cmpV .is x y = isV x y := rfl
@[simp] theorem cmp_isn {x y : Val} : cmpV .isn x y = (isV x y).map (!·) := rfl
@[simp] theorem cmp_in {x y : Val} : cmpV .isin x y = inV x y := rfl
@[simp] theorem cmp_nin {x y : Val} : cmpV .nin x y = (inV x y).map (!·) := rfl
@[simp] theorem eqV_int {i j : Int} : eqV (.int i) (.int j) = some (i == j) := by simp [eqV, Val.data, eqD, depthV]
@[simp] theorem eqV_str {i j : List Nat} : eqV (.str i) (.str j) = some (i == j) := by simp [eqV, Val.data, eqD, depthV]
@[simp] theorem eqV_intS {i : Int} {j : List Nat} : eqV (.int i) (.str j) = some false := by simp [eqV, Val.data, eqD, depthV]
@[simp] theorem eqV_blS {i : Bool} {j : List Nat} : eqV (.bl i) (.str j) = some false := by simp [eqV, Val.data, eqD, depthV]
@[simp] theorem eqV_nonS {j : List Nat} : eqV .non (.str j) = some false := by simp [eqV, Val.data, eqD, depthV]
@[simp] theorem inV_str {t : List Nat} {c : Nat} : inV (.str [c]) (.str t) = some (decide (c ∈ t)) := rfl
@[simp] theorem inV_kon {ks vs : List Val} {z : List Nat} : inV (.str z) (.kon ks vs) = some (keyIx (.str z) ks).isSome := rfl
@[simp] theorem idx_kon {ks vs : List Val} {z : List Nat} : idxV (.kon ks vs) (.str z) = (keyIx (.str z) ks).bind fun j => vs[j]? := rfl
@[simp] theorem isV_bl {a b : Bool} : isV (.bl a) (.bl b) = some (a == b) := rfl
@[simp] theorem isV_non : isV .non .non = some true := rfl
@[simp] theorem isV_bln {a : Bool} : isV (.bl a) .non = some false := rfl
@[simp] theorem isV_intn {a : Int} : isV (.int a) .non = some false := rfl
@[simp] theorem isV_strn {a : List Nat} : isV (.str a) .non = some false := rfl
@[simp] theorem isV_tupn {a : List Val} : isV (.tup a) .non = some false := rfl
@[simp] theorem isV_lstn {a : List Val} : isV (.lst a) .non = some false := rfl
@[simp] theorem add_int {i j : Int} : binV .add (.int i) (.int j) = some (.int (i + j)) := rfl
@[simp] theorem sub_int {i j : Int} : binV .sub (.int i) (.int j) = some (.int (i - j)) := rfl
theorem mul_int {i j : Int} (h : mulOk i j = true) : binV .mul (.int i) (.int j) = some (.int (i * j)) := by simp [binV, h]
theorem add_str {s t : List Nat} (h : s.length + t.length ≤ line) : binV .add (.str s) (.str t) = some (.str (s ++ t)) := by simp [binV, h]
theorem add_lst {s t : List Val} (h : s.length + t.length ≤ line) : binV .add (.lst s) (.lst t) = some (.lst (s ++ t)) := by simp [binV, h]
@[simp] theorem opt_i {i : Int} : optI (.int i) = some (some i) := rfl
@[simp] theorem opt_n : optI .non = some none := rfl
@[simp] theorem isTy_intI {i : Int} : isTy .int (.int i) = some true := rfl
@[simp] theorem isTy_intB {i : Bool} : isTy .int (.bl i) = some true := rfl
@[simp] theorem isTy_intS {i : List Nat} : isTy .int (.str i) = some false := rfl
@[simp] theorem isTy_intT {i : List Val} : isTy .int (.tup i) = some false := rfl
@[simp] theorem isTy_intL {i : List Val} : isTy .int (.lst i) = some false := rfl
@[simp] theorem isTy_intN : isTy .int .non = some false := rfl
@[simp] theorem isTy_bolI {i : Int} : isTy .bool (.int i) = some false := rfl
@[simp] theorem isTy_bolB {i : Bool} : isTy .bool (.bl i) = some true := rfl
@[simp] theorem isTy_bolS {i : List Nat} : isTy .bool (.str i) = some false := rfl
@[simp] theorem isTy_bolT {i : List Val} : isTy .bool (.tup i) = some false := rfl
@[simp] theorem isTy_bolL {i : List Val} : isTy .bool (.lst i) = some false := rfl
@[simp] theorem isTy_bolN : isTy .bool .non = some false := rfl
@[simp] theorem isTy_strI {i : Int} : isTy .str (.int i) = some false := rfl
@[simp] theorem isTy_strB {i : Bool} : isTy .str (.bl i) = some false := rfl
@[simp] theorem isTy_strS {i : List Nat} : isTy .str (.str i) = some true := rfl
@[simp] theorem isTy_strT {i : List Val} : isTy .str (.tup i) = some false := rfl
@[simp] theorem isTy_strL {i : List Val} : isTy .str (.lst i) = some false := rfl
@[simp] theorem isTy_strN : isTy .str .non = some false := rfl
@[simp] theorem isTy_tupI {i : Int} : isTy .tuple (.int i) = some false := rfl
@[simp] theorem isTy_tupB {i : Bool} : isTy .tuple (.bl i) = some false := rfl
@[simp] theorem isTy_tupS {i : List Nat} : isTy .tuple (.str i) = some false := rfl
@[simp] theorem isTy_tupT {i : List Val} : isTy .tuple (.tup i) = some true := rfl
@[simp] theorem isTy_tupL {i : List Val} : isTy .tuple (.lst i) = some false := rfl
@[simp] theorem isTy_tupN : isTy .tuple .non = some false := rfl
@[simp] theorem bi_isI {t : Ty} {x : Val} : biV T (.isI t) [x] = (isTy t x).map .bl := rfl
theorem bi_lenS {s : List Nat} (h : s.length ≤ line) : biV T .len [.str s] = some (.int s.length) := by simp [biV, biLen, h]
@[simp] theorem bi_lenT {s : List Val} : biV T .len [.tup s] = some (.int s.length) := rfl
@[simp] theorem bi_lenL {s : List Val} : biV T .len [.lst s] = some (.int s.length) := rfl
@[simp] theorem bi_all {s : List Val} : biV T .all [.lst s] = (bools s).map fun bs => .bl (bs.all id) := rfl
@[simp] theorem bi_any {s : List Val} : biV T .any [.lst s] = (bools s).map fun bs => .bl (bs.any id) := rfl
@[simp] theorem bi_intI {i : Int} : biV T .int [.int i] = some (.int i) := rfl
@[simp] theorem bi_absI {i : Int} : biV T .abs [.int i] = some (.int (if i < 0 then -i else i)) := rfl
@[simp] theorem bi_tupL {s : List Val} : biV T .tuple [.lst s] = some (.tup s) := rfl
@[simp] theorem bi_tupT {s : List Val} : biV T .tuple [.tup s] = some (.tup s) := rfl
theorem idx_str {s : List Nat} {i c : Nat} (hs : s.length ≤ line) (h : s[i]? = some c) : idxV (.str s) (.int (i : Int)) = some (.str [c]) := by
  obtain ⟨hi, rfl⟩ := List.getElem?_eq_some_iff.mp h
  simp [idxV, hs, ixOf, hi]
theorem idx_str0 {c : Nat} {s : List Nat} (hs : (c :: s).length ≤ line) : idxV (.str (c :: s)) (.int 0) = some (.str [c]) := idx_str (i := 0) hs rfl
theorem idx_lst {s : List Val} {i : Nat} {c : Val} (h : s[i]? = some c) : idxV (.lst s) (.int (i : Int)) = some c := by
  obtain ⟨hi, rfl⟩ := List.getElem?_eq_some_iff.mp h
  simp [idxV, ixOf, hi]
theorem idx_tup {s : List Val} {i : Nat} {c : Val} (h : s[i]? = some c) : idxV (.tup s) (.int (i : Int)) = some c := by
  obtain ⟨hi, rfl⟩ := List.getElem?_eq_some_iff.mp h
  simp [idxV, ixOf, hi]
end
/-! ### loops by an invariant over what is left -/
theorem forL_inv {t : List Nat} {one : Bool} {all : List Val} {body : Env → Store → RS} (I : List Val → Env → Store → Prop)
    (step : ∀ x r env st, I (x :: r) env st → ∃ env', putTg t one x env = some env' ∧ ∃ e s, (body env' st = .next e s ∨ body env' st = .cnt e s) ∧ I r e s) : ∀ xs env st, I xs env st → ∃ e s, forL t one none all body xs env st = .next e s ∧ I [] e s
  | [], env, st, h => ⟨env, st, forL_nil, h⟩
  | x :: r, env, st, h => by
    obtain ⟨env', h1, e, s, h2, h3⟩ := step x r env st h
    obtain ⟨e2, s2, h4, h5⟩ := forL_inv I step r e s h3
    refine ⟨e2, s2, ?_, h5⟩
    rw [forL_cons h1]
    rcases h2 with h2 | h2 <;> rw [h2] <;> exact h4
/-- .. that may end the def -/
theorem forL_out {t : List Nat} {one : Bool} {all : List Val} {body : Env → Store → RS} (I : List Val → Env → Store → Prop) (O : RS → Prop)
    (step : ∀ x r env st, I (x :: r) env st → ∃ env', putTg t one x env = some env' ∧ ((∃ e s, (body env' st = .next e s ∨ body env' st = .cnt e s) ∧ I r e s) ∨ ((∃ v s, body env' st = .ret v s ∧ O (.ret v s)) ∨ ∃ c m e s, body env' st = .exc c m e s ∧ O (.exc c m e s)))) :
    ∀ xs env st, I xs env st → (∃ e s, forL t one none all body xs env st = .next e s ∧ I [] e s) ∨ O (forL t one none all body xs env st) ∧ ((∃ v s, forL t one none all body xs env st = .ret v s) ∨ ∃ c m e s, forL t one none all body xs env st = .exc c m e s)
  | [], env, st, h => .inl ⟨env, st, forL_nil, h⟩
  | x :: r, env, st, h => by
    obtain ⟨env', h1, h2⟩ := step x r env st h
    rcases h2 with ⟨e, s, h2, h3⟩ | ⟨v, s, h2, h3⟩ | ⟨c, m, e, s, h2, h3⟩
    · have h4 := forL_out (all := all) I O step r e s h3
      rw [forL_cons h1]
      rcases h2 with h2 | h2 <;> rw [h2] <;> exact h4
    · right
      rw [forL_cons h1, h2]
      exact ⟨h3, .inl ⟨v, s, rfl⟩⟩
    · right
      rw [forL_cons h1, h2]
      exact ⟨h3, .inr ⟨c, m, e, s, rfl⟩⟩
theorem for_run {it : Ex} {b : List Sm} {t : List Nat} {one : Bool} {env : Env} {st s : Store} {v : Val} {xs : List Val} (hi : ev T cl mk it env st = .ok v s) (hw : walked s v = some (none, xs)) :
    evS T cl mk (.for_ t one it b) env st = forL t one none xs (fun env st => evSs T cl mk b env st) xs env s := by
  rw [evS_for, hi, Res.into_ok, hw]
/-! ### methods of lists in the store -/
section
variable {st : Store}
theorem rd_at {a : Nat} {A : List Val} (h : st[a]? = some (.lst A)) : rd st (.ref a) = .lst A := by simp [h]
theorem pop_at {a : Nat} {A : List Val} {x : Val} (h : st[a]? = some (.lst (A ++ [x]))) : bmV .pop (.ref a) [] st = some (x, st.set a (.lst A)) := by
  simp [bmV, bmPop, h]
theorem app_at {a : Nat} {A : List Val} {v : Val} (h : st[a]? = some (.lst A)) (hl : A.length < line) : bmV .append (.ref a) [v] st = some (.non, st.set a (.lst (A ++ [v]))) := by
  simp [bmV, bmAppend, h, hl]
theorem rcv_list {b : Bm} {A : List Val} (h : b = .append ∨ b = .pop ∨ b = .extend) : rcvT b (.lst A) = true := by
  rcases h with rfl | rfl | rfl <;> rfl
/-- x.append(v) of a list in the store -/
theorem ev_app {o e : Ex} {env : Env} {s : Store} {a : Nat} {A : List Val} {v : Val} (ho : ev T cl mk o env st = .ok (.ref a) st) (he : ev T cl mk e env st = .ok v s) (h0 : ∃ B, st[a]? = some (.lst B)) (h : s[a]? = some (.lst A)) (hl : A.length < line) :
    ev T cl mk (.bm .append o [e]) env st = .ok .non (s.set a (.lst (A ++ [v]))) := by
  obtain ⟨B, h0⟩ := h0
  rw [ev_bm, ho, Res.bind_ok, rd_at h0, rcv_list (.inl rfl), if_pos rfl, evs_cons, he, Res.bind_ok, evs_nil, Res.bind_ok, Res.bind_ok]
  rw [app_at h hl]
theorem ev_pop {o : Ex} {env : Env} {a : Nat} {A : List Val} {x : Val} (ho : ev T cl mk o env st = .ok (.ref a) st) (h : st[a]? = some (.lst (A ++ [x]))) :
    ev T cl mk (.bm .pop o []) env st = .ok x (st.set a (.lst A)) := by
  rw [ev_bm, ho, Res.bind_ok, rd_at h, rcv_list (.inr (.inl rfl)), if_pos rfl, evs_nil, Res.bind_ok]
  rw [pop_at h]
end
theorem join_at {st : Store} {sep : List Nat} {v : Val} {ts : List (List Nat)} (h : rd st v = .lst (ts.map .str)) (hl : (ts.map List.length).sum + ts.length * sep.length ≤ line) : bmV .join (.str sep) [v] st = some (.str (joinS sep ts), st) := by
  simp only [bmV, bmJoin, h, strs_map id, List.map_id, Option.bind_some]
  rw [show strL (ts.map .str) = some ts by have := strs_map (fun x : List Nat => x) ts; simpa using this]
  simp only [Option.bind_some, hl, if_true]
theorem joinS_nil : ∀ l : List (List Nat), joinS [] l = l.flatten
  | [] => rfl
  | [a] => by simp [joinS]
  | a :: b :: l => by
    have e : joinS [] (a :: b :: l) = a ++ [] ++ joinS [] (b :: l) := rfl
    rw [e, joinS_nil (b :: l)]; simp
theorem open_next {d : Df} {args : List Val} {st s : Store} {e : Env} (hl : args.length = d.pars) (hd : d.dfl = []) (ho : (closedAll args && !d.opn) = false) (h : evSs T cl mk d.body (env0 d args) st = .next e s) : runDf T cl mk d args st = .ok .non (trim st.length .non s) := by
  rw [open_run hl hd ho, h]
theorem open_exc {d : Df} {args : List Val} {st s : Store} {e : Env} {c : Nat} {m : List Nat} (hl : args.length = d.pars) (hd : d.dfl = []) (ho : (closedAll args && !d.opn) = false) (h : evSs T cl mk d.body (env0 d args) st = .exc c m e s) : runDf T cl mk d args st = .exc c m (trim st.length .non s) := by
  rw [open_run hl hd ho, h]
theorem open_ret {d : Df} {args : List Val} {st s : Store} {v : Val} (hl : args.length = d.pars) (hd : d.dfl = []) (ho : (closedAll args && !d.opn) = false) (h : evSs T cl mk d.body (env0 d args) st = .ret v s) : runDf T cl mk d args st = .ok v (trim st.length v s) := by
  rw [open_run hl hd ho, h]
theorem trim_keep {n i : Nat} {v : Val} {s : Store} {o : Ob} (h : s[i]? = some o) (hi : i < n) (hu : o.under n = false) : trim n v s = s := by
  unfold trim
  rw [if_neg]
  simp only [Bool.and_eq_true, not_and, Bool.not_eq_true]
  intro _
  rw [List.all_eq_false]
  refine ⟨o, ?_, by simp [hu]⟩
  rw [List.mem_iff_getElem?]
  exact ⟨i, by rw [List.getElem?_take_of_lt hi]; exact h⟩
theorem evS_try {b : List Sm} {c : Nat} {h : Hd} {env : Env} {st : Store} : evS T cl mk (.try_ b c h) env st = (match evSs T cl mk b env st with
    | .exc d m env' s => if T.exs.contains d then (if T.sub.contains (d, c) then (match h with
        | .ret x => (match hxV T cl mk m env' s x with
          | some v => .ret v s
          | none => .stuck)
        | .rai c' x => (match hxV T cl mk m env' s x with
          | some (.str m') => .exc c' m' env' s
          | _ => .stuck))
      else .exc d m env' s) else .stuck
    | o => o) := by
  simp only [evS] <;> rfl
/-- a comprehension whose parts change the store -/
theorem mapL_inv {t : List Nat} {one : Bool} {all : List Val} {c : Env → Store → Res Bool} {e : Env → Store → Res Val} {env : Env} (I : List Val → List Val → Store → Prop)
    (step : ∀ x r acc st, I (x :: r) acc st → ∃ env', putTg t one x env = some env' ∧ ∃ v s, c env' st = .ok true st ∧ e env' st = .ok v s ∧ I r (acc ++ [v]) s) : ∀ xs acc st, I xs acc st → ∃ vs s, mapL t one none all c e xs env st = .ok vs s ∧ I [] (acc ++ vs) s
  | [], acc, st, h => ⟨[], st, mapL_nil, by simpa using h⟩
  | x :: xs, acc, st, h => by
    obtain ⟨env', h1, v, s, h2, h3, h4⟩ := step x xs acc st h
    obtain ⟨vs, s2, h5, h6⟩ := mapL_inv I step xs (acc ++ [v]) s h4
    refine ⟨v :: vs, s2, ?_, by simpa using h6⟩
    rw [mapL_cons h1, h2, Res.calm_ok, Res.bind_ok, if_pos rfl, h3, Res.calm_ok, Res.bind_ok, h5, Res.bind_ok]
end Nl
end
section
set_option linter.all false
set_option maxRecDepth 100000
set_option maxHeartbeats 4000000
/-! k53, the plain part: words, numbers, atoms. -/
namespace Nt
open Nl
variable {rep : Val → List Nat} {st : Store} {k : Nat}
mutual
theorem data_closed : ∀ v : Val, v.data = true → v.closed = true
  | .non, _ | .bl _, _ | .int _, _ | .str _, _ => by simp only [Val.closed]
  | .lst xs, h => by simp only [Val.data] at h; simp only [Val.closed]; exact datas_closed xs h
  | .tup xs, h => by simp only [Val.data] at h; simp only [Val.closed]; exact datas_closed xs h
  | .dct _ _, h | .obj _ _ _, h | .ref _, h | .fn _, h | .scr _, h | .kon _ _, h => by simp [Val.data] at h
theorem datas_closed : ∀ xs : List Val, dataAll xs = true → closedAll xs = true
  | [], _ => by simp only [closedAll]
  | x :: xs, h => by
    simp only [dataAll, Bool.and_eq_true] at h
    simp only [closedAll, Bool.and_eq_true]
    exact ⟨data_closed x h.1, datas_closed xs h.2⟩
end
/-- text or exception -/
abbrev noData : List Nat := [110, 111, 32, 100, 97, 116, 97]
def out (r : Option Val) (st : Store) : Res Val := match r with
  | some v => .ok v st
  | none => .exc 1 noData st
@[simp] theorem out_some {v : Val} : out (some v) st = .ok v st := rfl
@[simp] theorem out_none : out none st = .exc 1 noData st := rfl
def lets : List Nat := [97, 98, 99, 100, 101, 102, 103, 104, 105, 106, 107, 108, 109, 110, 111, 112, 113, 114, 115, 116, 117, 118, 119, 120, 121, 122]
def digL : List Nat := [48, 49, 50, 51, 52, 53, 54, 55, 56, 57]
@[simp] theorem glo0 : (Tr rep).glo[0]? = some (.str lets) := rfl
@[simp] theorem glo1 : (Tr rep).glo[1]? = some (.str digL) := rfl
@[simp] theorem glo2 : (Tr rep).glo[2]? = some (.int 12) := rfl
@[simp] theorem glo3 : (Tr rep).glo[3]? = some (.int 1000) := rfl
@[simp] theorem glo4 : (Tr rep).glo[4]? = some (.int 4000) := rfl
@[simp] theorem glo5 : (Tr rep).glo[5]? = some (.kon [.str [43], .str [45], .str [46]] [.bl true, .bl false, .str []]) := rfl
def isInt : Val → Bool
  | .int _ => true
  | _ => false
theorem c_is_whole (v : Val) (hv : v.data = true) : callF (Tr rep) (k + 1) 0 [v] st = .ok (.bl (isInt v)) st := by
  rw [callF_succ (d := d_is_whole) rfl]
  refine pure_ret (s := []) rfl rfl rfl (by simp [closedAll, data_closed v hv]) ?_ rfl
  cases v <;> simp [Val.data] at hv <;> simp [d_is_whole, env0, isInt]
/-! ### words -/
def isL (c : Nat) : Bool := decide (97 ≤ c ∧ c ≤ 122)
@[simp] theorem mem_lets {c : Nat} : c ∈ lets ↔ isL c = true := by
  simp [isL, lets]
  omega
@[simp] theorem mem_digs {c : Nat} : c ∈ digL ↔ isDig c = true := by
  simp [isDig, digL]
  omega
def wordS : List Nat → Bool
  | [] => false
  | c :: s => decide (s.length ≤ 11) && isL c && (c :: s).all fun d => isL d || isDig d
def isWord : Val → Bool
  | .str s => wordS s
  | _ => false
def small : Val → Bool
  | .str s => decide (s.length ≤ line)
  | _ => true
theorem len_succ {c : Nat} {s : List Nat} {T : Tab} (hs : (c :: s).length ≤ line) : biV T .len [.str (c :: s)] = some (.int ((s.length : Int) + 1)) := by
  have h1 := bi_lenS (T := T) hs
  simpa only [List.length_cons, Int.natCast_add, Int.cast_ofNat_Int] using h1
theorem c_is_word (v : Val) (hv : v.data = true) (hs : small v = true) : callF (Tr rep) (k + 1) 1 [v] st = .ok (.bl (isWord v)) st := by
  rw [callF_succ (d := d_is_word) rfl]
  refine pure_ret (s := []) rfl rfl rfl (by simp [closedAll, data_closed v hv]) ?_ rfl
  cases v with
  | str s =>
    simp only [small, decide_eq_true_eq] at hs
    have hcp : ∀ {env : Env}, env = [some (Val.str s), none] → ev (Tr rep) (callF (Tr rep) k) (mkN (Tr rep) k) x_is_word_1 env [] = .ok (.lst (s.map fun c => .bl (isL c || isDig c))) [] := by
      rintro env rfl
      refine cp1_str (fun c => .bl (isL c || isDig c)) hs (by simp) fun c hc => ?_
      cases h : isL c <;> simp [h]
    cases s with
    | nil => simp [d_is_word, env0, bi_lenS, isWord, wordS, hs]
    | cons c s =>
      have h1 := len_succ (T := Tr rep) hs
      have h2 := idx_str0 hs
      have e2' : (1 ≤ (s.length : Int) + 1) := by omega
      by_cases e1 : s.length ≤ 11
      · have e1' : ((s.length : Int) + 1 ≤ 12) := by omega
        cases e2 : isL c
        · simp [d_is_word, env0, h1, h2, isWord, wordS, e1, e2, e1', e2']
        · simp only [d_is_word, env0, evSs_cons, evS_ifs, evS_ret, ev_bi, evs_cons, evs_nil]
          simp [h1, h2, isWord, wordS, bools_map, e1, e2, e1', e2']
          rw [hcp rfl]
          simp [bools, bools_map, e2, List.all_map, Function.comp_def]
      · have e1' : ¬ ((s.length : Int) + 1 ≤ 12) := by omega
        simp [d_is_word, env0, h1, h2, isWord, wordS, e1, e1', e2']
  | _ => first | (simp [Val.data] at hv; done) | simp [d_is_word, env0, isWord]
theorem ltS1 {a b : Nat} : ltS [a] [b] = decide (a < b) := by
  unfold ltS
  by_cases h : a < b
  · simp [h]
  · by_cases h2 : b < a
    · simp [h, h2]
    · simp [h, h2, ltS]
theorem isL_le {c : Nat} : (!ltS [c] [97]) = decide (97 ≤ c) ∧ (!ltS [122] [c]) = decide (c ≤ 122) := by
  rw [ltS1, ltS1]
  constructor
  · by_cases h : c < 97 <;> simp [h] <;> omega
  · by_cases h : 122 < c <;> simp [h] <;> omega
theorem isD_le {c : Nat} : (!ltS [c] [48]) = decide (48 ≤ c) ∧ (!ltS [57] [c]) = decide (c ≤ 57) := by
  rw [ltS1, ltS1]
  constructor
  · by_cases h : c < 48 <;> simp [h] <;> omega
  · by_cases h : 57 < c <;> simp [h] <;> omega
theorem c_law_word (v : Val) (hv : v.data = true) (hs : small v = true) : callF (Tr rep) (k + 1) 18 [v] st = .ok (.bl (isWord v)) st := by
  rw [callF_succ (d := d__law_word) rfl]
  refine pure_ret (s := []) rfl rfl rfl (by simp [closedAll, data_closed v hv]) ?_ rfl
  cases v with
  | str s =>
    simp only [small, decide_eq_true_eq] at hs
    have hcp : ∀ {env : Env}, env = [some (Val.str s), none] → ev (Tr rep) (callF (Tr rep) k) (mkN (Tr rep) k) x__law_word_1 env [] = .ok (.lst (s.map fun c => .bl (isL c || isDig c))) [] := by
      rintro env rfl
      refine cp1_str (fun c => .bl (isL c || isDig c)) hs (by simp) fun c hc => ?_
      simp only [ev_or, ev_chn, ev_cst, Res.bind_ok, ev_var, List.set_cons_succ, List.set_cons_zero, List.getElem?_cons_succ, List.getElem?_cons_zero, rd_str, cmp_leS, isL_le.1, isL_le.2, isD_le.1, isD_le.2]
      by_cases h1 : 97 ≤ c <;> by_cases h2 : c ≤ 122 <;> by_cases h3 : 48 ≤ c <;> by_cases h4 : c ≤ 57 <;> simp [isL, isDig, h1, h2, h3, h4]
    cases s with
    | nil => simp [d__law_word, env0, bi_lenS, isWord, wordS, hs]
    | cons c s =>
      have h1 := len_succ (T := Tr rep) hs
      have h2 := idx_str0 hs
      have e2' : (1 ≤ (s.length : Int) + 1) := by omega
      by_cases e1 : s.length ≤ 11
      · have e1' : ((s.length : Int) + 1 ≤ 12) := by omega
        cases e2 : isL c
        · have : ¬ (97 ≤ c ∧ c ≤ 122) := by simpa [isL] using e2
          by_cases g1 : 97 ≤ c
          · have g2 : ¬ c ≤ 122 := fun h => this ⟨g1, h⟩
            have g3 : 122 < c := by omega
            have g4 : ¬ c < 97 := by omega
            simp [d__law_word, env0, h1, h2, isWord, wordS, e1, e2, e1', e2', ltS1, g3, g4]
          · have g3 : c < 97 := by omega
            simp [d__law_word, env0, h1, h2, isWord, wordS, e1, e2, e1', e2', g3, ltS1]
        · have g : 97 ≤ c ∧ c ≤ 122 := by simpa [isL] using e2
          have g1 : ¬ c < 97 := by omega
          have g2 : ¬ 122 < c := by omega
          simp [d__law_word, env0, h1, h2, isWord, wordS, e1, e1', e2', ltS1, g1, g2, hcp rfl, bools, bools_map, e2, List.all_map, Function.comp_def]
      · have e1' : ¬ ((s.length : Int) + 1 ≤ 12) := by omega
        simp [d__law_word, env0, h1, h2, isWord, wordS, e1, e1', e2']
  | _ => first | (simp [Val.data] at hv; done) | simp [d__law_word, env0, isWord]
end Nt
end
section
set_option linter.all false
set_option maxRecDepth 100000
set_option maxHeartbeats 4000000
/-! k53, the plain part: short numbers, atoms. -/
namespace Nt
open Nl
variable {rep : Val → List Nat} {st : Store} {k : Nat}
/-- powers of ten -/
def p10 (n : Nat) : Int := Int.ofNat (10 ^ n)
theorem p10_mul (a b : Nat) : p10 a * p10 b = p10 (a + b) := by
  unfold p10
  rw [Nat.pow_add]
  rfl
theorem p10_le {a b : Nat} (h : a ≤ b) : p10 a ≤ p10 b := by
  unfold p10
  exact Int.ofNat_le.mpr (Nat.pow_le_pow_right (by decide) h)
theorem pow_log (m : Nat) : (10 ^ m).log2 < 4 * m + 1 := by
  have h0 : (10 ^ m : Nat) ≠ 0 := Nat.pos_iff_ne_zero.mp (Nat.pow_pos (by decide))
  rw [Nat.log2_lt h0]
  calc 10 ^ m ≤ 16 ^ m := Nat.pow_le_pow_left (by decide) m
    _ = 2 ^ (4 * m) := by rw [show (16 : Nat) = 2 ^ 4 by decide, ← Nat.pow_mul]
    _ < 2 ^ (4 * m + 1) := Nat.pow_lt_pow_right (by decide) (by omega)
theorem pow_mulOk (a b : Nat) (h : a + b ≤ 10000) : mulOk (p10 a) (p10 b) = true := by
  unfold mulOk
  have e : ∀ n : Nat, (p10 n).natAbs = 10 ^ n := fun n => rfl
  rw [e, e]
  have h1 := pow_log a
  have h2 := pow_log b
  have : (10 ^ a).log2 + (10 ^ b).log2 < 1000000 := by omega
  rw [decide_eq_true this, Bool.or_true]
def shortI (i : Int) : Bool := decide (-p10 4000 < i) && decide (i < p10 4000)
def isShort : Val → Bool
  | .int i => shortI i
  | _ => false
theorem pow32 : binV .pow (.int 10) (.int 32) = some (.int (p10 32)) := by
  have h : powOk 10 32 = true := by decide +kernel
  have e : (10 : Int) ^ (32 : Int).toNat = p10 32 := by decide +kernel
  simp only [binV, h, if_true, e]
theorem short_32 {i : Int} (h1 : -p10 32 < i) (h2 : i < p10 32) : shortI i = true := by
  have h : p10 32 ≤ p10 4000 := p10_le (by decide)
  unfold shortI
  rw [decide_eq_true (show -p10 4000 < i by omega), decide_eq_true (show i < p10 4000 by omega)]
  rfl
theorem ev_p32 {cl mk : Nat → List Val → Store → Res Val} {env : Env} {st : Store} : ev (Tr rep) cl mk (.bin .pow (.cst (.int 10)) (.cst (.int 32))) env st = .ok (.int (p10 32)) st := by
  rw [ev_bin, ev_cst, Res.bind_ok, ev_cst, Res.bind_ok, rd_int, rd_int, pow32, Res.opt_some]
theorem short_step {cl mk : Nat → List Val → Store → Res Val} {i : Int} {x : Val} {j : Nat} (h : j + 32 ≤ 10000) : evSs (Tr rep) cl mk b_is_short_1 [some (Val.int i), some (.int (p10 j)), some x] [] = .next [some (Val.int i), some (.int (p10 (j + 32))), some x] [] := by
  have hm : augV .mul (.int (p10 j)) (.int (p10 32)) = some (.int (p10 (j + 32))) := by
    have hok := pow_mulOk j 32 (by omega)
    simp only [augV, hok, if_true, p10_mul]
  rw [b_is_short_1, evSs_cons, evS_aug]
  show ((ev _ _ _ _ _ _).into _ _).then _ = _
  rw [ev_p32, Res.into_ok, hm]
  rw [RS.then_next, evSs_nil]
  rfl
theorem c_is_short (v : Val) (hv : v.data = true) : callF (Tr rep) (k + 2) 2 [v] st = .ok (.bl (isShort v)) st := by
  rw [callF_succ (d := d_is_short) rfl]
  refine pure_ret (s := []) rfl rfl rfl (by simp [closedAll, data_closed v hv]) ?_ rfl
  have hw := c_is_whole (rep := rep) (k := k) (st := []) v hv
  have hd : binV .fdiv (.int 4000) (.int 32) = some (.int 125) := by
    have h : divOk 32 = true := by decide +kernel
    simp only [binV, h, if_true]
    rfl
  have hr : ∀ T, biV T .range [.int 124] = some (.lst (rangeN 0 1 124)) := fun T => rfl
  have hlen : (rangeN 0 1 124).length = 124 := by decide +kernel
  cases hi : isInt v with
  | false =>
    have : isShort v = false := by cases v <;> simp [isInt] at hi <;> rfl
    simp [d_is_short, env0, hw, hi, this]
  | true =>
    cases v with
    | int i =>
      -- the loop
      obtain ⟨e, s, hloop, e0, j, o, e1, e2⟩ := forL_inv (t := [2]) (one := true) (all := rangeN 0 1 124) (body := fun env st => evSs (Tr rep) (callF (Tr rep) (k + 1)) (mkN (Tr rep) (k + 1)) b_is_short_1 env st)
        (fun r env st => st = [] ∧ ∃ m o, m + 32 * r.length = 4000 ∧ env = [some (Val.int i), some (.int (p10 m)), o]) (fun x r env st ⟨h0, j, o, h1, h2⟩ => by
          subst h0 h2
          simp only [List.length_cons] at h1
          refine ⟨[some (Val.int i), some (.int (p10 j)), some x], rfl, [some (Val.int i), some (.int (p10 (j + 32))), some x], [], .inl (short_step (by omega)), rfl, j + 32, some x, by omega, rfl⟩)
        (rangeN 0 1 124) [some (Val.int i), some (.int (p10 32)), none] [] ⟨rfl, 32, none, by rw [hlen], rfl⟩
      simp only [List.length_nil, Nat.mul_zero, Nat.add_zero] at e1
      subst e0 e1 e2
      have hfor : evS (Tr rep) (callF (Tr rep) (k + 1)) (mkN (Tr rep) (k + 1)) (.for_ [2] true (.bi .range [.bin .sub (.bin .fdiv (.glo 4) (.cst (.int 32))) (.cst (.int 1))]) b_is_short_1) [some (Val.int i), some (.int (p10 32)), none] [] = .next [some (Val.int i), some (.int (p10 4000)), o] [] := by
        rw [for_run (v := .lst (rangeN 0 1 124)) (s := []) (by simp only [ev_bi, evs_cons, evs_nil, ev_bin, ev_glo, glo4, ev_cst, Res.opt_some, Res.bind_ok, rd_int, hd, sub_int, List.map_cons, List.map_nil, rdI_int]; exact congrArg (fun z => Res.opt z _) (hr _)) walked_lst]
        exact hloop
      by_cases h1 : -p10 32 < i
      · by_cases h2 : i < p10 32
        · have hs := short_32 h1 h2
          simp [d_is_short, env0, hw, hi, pow32, h1, h2, isShort, hs]
        · simp [d_is_short, env0, hw, hi, pow32, h1, h2, isShort, hfor, shortI]
          by_cases h3 : -p10 4000 < i <;> simp [h3]
      · simp [d_is_short, env0, hw, hi, pow32, h1, isShort, hfor, shortI]
        by_cases h3 : -p10 4000 < i <;> simp [h3]
    | _ => simp [isInt] at hi
/-! ### atoms -/
def atomT : Val → Option (List Nat)
  | .bl b => some (if b then [43] else [45])
  | .str s => if s = [] then some [46] else if wordS s then some s else none
  | .int i => if shortI i then some (intStr i) else none
  | _ => none
theorem short_log {i : Int} (h : shortI i = true) : i.natAbs.log2 < 14000 := by
  simp only [shortI, Bool.and_eq_true, decide_eq_true_eq] at h
  have h1 : i.natAbs < 10 ^ 4000 := by
    have : p10 4000 = ((10 ^ 4000 : Nat) : Int) := rfl
    rw [this] at h
    omega
  rcases Nat.eq_zero_or_pos i.natAbs with h0 | h0
  · rw [h0]; decide
  · rw [Nat.log2_lt (by omega)]
    have h2 : (10 : Nat) ^ 4000 ≤ 2 ^ 14000 := by decide +kernel
    exact Nat.lt_of_lt_of_le h1 h2
theorem c_atom_text (v : Val) (hv : v.data = true) (hs : small v = true) : callF (Tr rep) (k + 3) 3 [v] st = out ((atomT v).map .str) st := by
  have hw := c_is_word (rep := rep) (k := k + 1) (st := []) v hv hs
  have hsh := c_is_short (rep := rep) (k := k) (st := []) v hv
  rw [callF_succ (d := d_atom_text) rfl]
  cases ha : atomT v with
  | some t =>
    refine pure_ret (s := []) rfl rfl rfl (by simp [closedAll, data_closed v hv]) ?_ rfl
    cases v with
    | bl b => cases b <;> simp [atomT] at ha <;> subst ha <;> simp [d_atom_text, env0]
    | int i =>
      simp only [atomT] at ha
      split at ha
      · rename_i h
        cases ha
        have hl := short_log h
        have hb : biV (Tr rep) .str [.int i] = some (.str (intStr i)) := by simp [biV, biStr, hl]
        simp [d_atom_text, env0, hw, hsh, isWord, isShort, h, hb]
      · cases ha
    | str z =>
      simp only [atomT] at ha
      split at ha
      · rename_i h
        cases ha
        subst h
        simp [d_atom_text, env0, hw, hsh, isWord, isShort, wordS]
      · rename_i h
        split at ha
        · rename_i h2
          have e := Option.some.inj ha
          subst e
          have hb : biV (Tr rep) .str [.str z] = some (.str z) := rfl
          simp [d_atom_text, env0, hw, hsh, isWord, isShort, h, h2, hb]
        · cases ha
    | _ => simp [atomT] at ha
  | none =>
    refine pure_exc (s := []) (e := [some v]) rfl rfl rfl (by simp [closedAll, data_closed v hv]) ?_
    cases v with
    | bl b => cases b <;> simp [atomT] at ha
    | int i =>
      simp only [atomT] at ha
      split at ha
      · cases ha
      · rename_i h
        simp [d_atom_text, env0, hw, hsh, isWord, isShort, h]
    | str s =>
      simp only [atomT] at ha
      split at ha
      · cases ha
      · rename_i h
        split at ha
        · cases ha
        · rename_i h2
          simp [d_atom_text, env0, hw, hsh, isWord, isShort, h, h2]
    | non => simp [d_atom_text, env0, hw, hsh, isWord, isShort]
    | tup xs => simp [d_atom_text, env0, hw, hsh, isWord, isShort]
    | lst xs => simp [d_atom_text, env0, hw, hsh, isWord, isShort]
    | _ => simp [Val.data] at hv
end Nt
end
section
set_option linter.all false
set_option maxRecDepth 100000
set_option maxHeartbeats 4000000
/-! k53, the plain part: write_data. -/
namespace Nt
open Nl
variable {rep : Val → List Nat} {st : Store} {k : Nat}
mutual
def wrV : Nat → Val → Option (List Nat)
  | n, .tup xs => if n ≤ 1000 then (wrs (n + 1) xs).map fun ts => 91 :: (joinS [44] ts ++ [93]) else none
  | _, .bl b => atomT (.bl b)
  | _, .str s => atomT (.str s)
  | _, .int i => atomT (.int i)
  | _, .non | _, .lst _ | _, .dct _ _ | _, .obj _ _ _ | _, .ref _ | _, .fn _ | _, .scr _ | _, .kon _ _ => none
def wrs : Nat → List Val → Option (List (List Nat))
  | _, [] => some []
  | n, x :: xs => (wrV n x).bind fun t => (wrs n xs).map (t :: ·)
end
mutual
def smalls : Val → Bool
  | .str s => decide (s.length ≤ line)
  | .tup xs => smallsA xs
  | .lst _ | .non | .bl _ | .int _ | .dct _ _ | .obj _ _ _ | .ref _ | .fn _ | .scr _ | .kon _ _ => true
def smallsA : List Val → Bool
  | [] => true
  | x :: xs => smalls x && smallsA xs
end
mutual
def sv : Val → Nat
  | .tup xs => 2 + svs xs
  | .lst _ | .str _ | .non | .bl _ | .int _ | .dct _ _ | .obj _ _ _ | .ref _ | .fn _ | .scr _ | .kon _ _ => 1
def svs : List Val → Nat
  | [] => 0
  | x :: xs => sv x + 1 + svs xs
end
abbrev Itm := Val × Nat
def itT : Itm → Option (List Nat)
  | (.str s, 0) => some s
  | (_, 0) => none
  | (v, n + 1) => wrV (n + 1) v
def go : List Itm → Option (List Nat)
  | [] => some []
  | t :: r => (itT t).bind fun a => (go r).map (a ++ ·)
theorem go_app : ∀ a b : List Itm, go (a ++ b) = (go a).bind fun x => (go b).map (x ++ ·)
  | [], b => by simp [go]
  | t :: a, b => by
    simp only [List.cons_append, go, go_app a b]
    cases itT t <;> simp
    cases go a <;> simp
    cases go b <;> simp
def sepT (d : Nat) : List Val → List Itm
  | [] => []
  | [x] => [(x, d)]
  | x :: y :: r => (x, d) :: (.str [44], 0) :: sepT d (y :: r)
theorem go_sep (d : Nat) : ∀ xs : List Val, go (sepT (d + 1) xs) = (wrs (d + 1) xs).map (joinS [44])
  | [] => by simp [sepT, go, wrs, joinS]
  | [x] => by
    simp only [sepT, go, wrs, itT]
    cases wrV (d + 1) x <;> simp [joinS]
  | x :: y :: r => by
    have ih := go_sep d (y :: r)
    simp only [sepT, go, itT, wrs, ih] at ih ⊢
    cases wrV (d + 1) x <;> simp
    cases wrV (d + 1) y <;> simp
    cases wrs (d + 1) r <;> simp [joinS]
def szi : Itm → Nat
  | (_, 0) => 1
  | (v, _ + 1) => sv v
def sz : List Itm → Nat
  | [] => 0
  | t :: r => szi t + sz r
theorem sz_app : ∀ a b : List Itm, sz (a ++ b) = sz a + sz b
  | [], b => by simp [sz]
  | t :: a, b => by simp [sz, sz_app a b]; omega
theorem sz_sep (d : Nat) : ∀ xs : List Val, sz (sepT (d + 1) xs) ≤ svs xs
  | [] => by simp [sepT, sz]
  | [x] => by simp [sepT, sz, szi, svs]
  | x :: y :: r => by
    have ih := sz_sep d (y :: r)
    simp only [sepT, sz, szi, svs] at ih ⊢
    omega
theorem sv_pos (v : Val) : 1 ≤ sv v := by cases v <;> simp [sv] <;> omega
theorem szi_pos : ∀ t : Itm, 1 ≤ szi t
  | (_, 0) => by simp [szi]
  | (v, _ + 1) => by simp [szi]; exact sv_pos v
theorem len_sz : ∀ a : List Itm, a.length ≤ sz a
  | [] => by simp [sz]
  | t :: a => by have := len_sz a; have := szi_pos t; simp [sz]; omega
def gdI : Itm → Prop
  | (v, 0) => ∃ s, v = .str s
  | (v, _ + 1) => v.data = true ∧ smalls v = true
def fI (t : Itm) : Val := .tup [t.1, .int (t.2 : Int)]
theorem gd_sep (d : Nat) : ∀ xs : List Val, dataAll xs = true → smallsA xs = true → ∀ t ∈ sepT (d + 1) xs, gdI t
  | [], _, _, t, h => by simp [sepT] at h
  | [x], h1, h2, t, h => by
    simp only [dataAll, smallsA, Bool.and_eq_true] at h1 h2
    simp [sepT] at h
    subst h
    exact ⟨h1.1, h2.1⟩
  | x :: y :: r, h1, h2, t, h => by
    rw [dataAll, Bool.and_eq_true] at h1
    rw [smallsA, Bool.and_eq_true] at h2
    simp only [sepT, List.mem_cons] at h
    rcases h with rfl | rfl | h
    · exact ⟨h1.1, h2.1⟩
    · exact ⟨_, rfl⟩
    · exact gd_sep d (y :: r) h1.2 h2.2 t h
section
variable {cl mk : Nat → List Val → Store → Res Val} {dv : Val} {a3 a4 a5 : Option Val} {F : List (List Nat)} {r : List Itm}
abbrev wEnv (dv : Val) (a3 a4 a5 : Option Val) : Env := [some dv, some (.ref 0), some (.ref 1), a3, a4, a5]
abbrev wSt (todo : List Itm) (F : List (List Nat)) : Store := [.lst (todo.reverse.map fI), .lst (F.map .str)]
theorem wSt_pop {t : Itm} : wSt (t :: r) F = [.lst (r.reverse.map fI ++ [fI t]), .lst (F.map .str)] := by simp [wSt]
theorem pop_w {v : Val} {d : Nat} : evS (Tr rep) cl mk (.gen [.nm 3, .nm 4] (.bm .pop (.var 1) [])) (wEnv dv a3 a4 a5) (wSt ((v, d) :: r) F) = .next (wEnv dv (some v) (some (.int (d : Int))) a5) (wSt r F) := by
  rw [wSt_pop, evS_gen, ev_pop (A := r.reverse.map fI) (x := fI (v, d)) (a := 0) (by simp) (by simp)]
  simp [fI]
theorem app_f {s : List Nat} {e : Ex} {env : Env} {todo : List Itm} (he : ev (Tr rep) cl mk e env (wSt todo F) = .ok (.str s) (wSt todo F)) (h2 : env[2]? = some (some (.ref 1))) (hF : F.length < line) : evS (Tr rep) cl mk (.ex (.bm .append (.var 2) [e])) env (wSt todo F) = .next env (wSt todo (F ++ [s])) := by
  rw [evS_ex, ev_app (a := 1) (A := F.map .str) (by simp [h2]) he ⟨_, rfl⟩ rfl (by simpa using hF)]
  simp
theorem app_s {t : Itm} {e : Ex} {env : Env} {todo : List Itm} (he : ev (Tr rep) cl mk e env (wSt todo F) = .ok (fI t) (wSt todo F)) (h1 : env[1]? = some (some (.ref 0))) (hF : todo.length < line) : evS (Tr rep) cl mk (.ex (.bm .append (.var 1) [e])) env (wSt todo F) = .next env (wSt (t :: todo) F) := by
  rw [evS_ex, ev_app (a := 0) (A := todo.reverse.map fI) (by simp [h1]) he ⟨_, rfl⟩ rfl (by simpa using hF)]
  simp
/-- the inner loop -/
theorem rangeD (j : Nat) : rangeN ((j : Int)) (-1) (j + 1) = .int j :: rangeN ((j : Int) - 1) (-1) j := rfl
theorem push_w {xs : List Val} {d : Nat} {rest : List Itm} (hz : xs.length + xs.length + rest.length + 2 < line) : ∃ a5', evS (Tr rep) cl mk (.for_ [5] true (.bi .range [.bin .sub (.bi .len [.var 3]) (.cst (.int 1)), .neg (.cst (.int 1)), .neg (.cst (.int 1))]) b_write_data_1) (wEnv dv (some (.tup xs)) (some (.int ((d : Int)))) a5) (wSt rest F) = .next (wEnv dv (some (.tup xs)) (some (.int (d : Int))) a5') (wSt (sepT (d + 1) xs ++ rest) F) := by
  have hr : ev (Tr rep) cl mk (.bi .range [.bin .sub (.bi .len [.var 3]) (.cst (.int 1)), .neg (.cst (.int 1)), .neg (.cst (.int 1))]) (wEnv dv (some (.tup xs)) (some (.int (d : Int))) a5) (wSt rest F) = .ok (.lst (rangeN ((xs.length : Int) - 1) (-1) xs.length)) (wSt rest F) := by
    have hb : biV (Tr rep) .range [.int ((xs.length : Int) - 1), .int (-1), .int (-1)] = some (.lst (rangeN ((xs.length : Int) - 1) (-1) xs.length)) := by
      have h1 : xs.length < 2 ^ 25 := by unfold line at hz; omega
      have e : ((xs.length : Int) - 1 - -1).toNat = xs.length := by omega
      simp only [biV, biRange, rangeV, e, if_true]
      rw [if_pos (by omega)]
      rfl
    simp [hb]
  rw [for_run hr walked_lst]
  obtain ⟨e, s, h1, j, a, hj, e0, e1, e2⟩ := forL_inv (t := [5]) (one := true) (all := rangeN ((xs.length : Int) - 1) (-1) xs.length) (body := fun env st => evSs (Tr rep) cl mk b_write_data_1 env st)
    (fun q env st => ∃ (j : Nat) (a : Option Val), j ≤ xs.length ∧ q = rangeN ((j : Int) - 1) (-1) j ∧ env = wEnv dv (some (.tup xs)) (some (.int (d : Int))) a ∧ st = wSt ((if 0 < j ∧ j < xs.length then [(Val.str [44], 0)] else []) ++ sepT (d + 1) (xs.drop j) ++ rest) F)
    (fun x q env st ⟨j, a, hj, e0, e1, e2⟩ => by
      subst e1 e2
      cases j with
      | zero => simp [rangeN] at e0
      | succ j =>
        rw [show ((j + 1 : Nat) : Int) - 1 = (j : Int) by omega, rangeD] at e0
        cases e0
        have hjl : j < xs.length := by omega
        refine ⟨wEnv dv (some (.tup xs)) (some (.int (d : Int))) (some (.int j)), rfl, _, _, .inl ?_, j, some (.int j), by omega, rfl, rfl, rfl⟩
        have ix : idxV (.tup xs) (.int (j : Int)) = some xs[j] := idx_tup (List.getElem?_eq_getElem hjl)
        have hsl : ∀ l : List Val, (sepT (d + 1) l).length ≤ l.length + l.length := fun l => by
          have : ∀ n (l : List Val), l.length ≤ n → (sepT (d + 1) l).length ≤ l.length + l.length := by
            intro n
            induction n with
            | zero => intro l h; have := List.length_eq_zero_iff.mp (Nat.le_zero.mp h); subst this; simp [sepT]
            | succ n ih =>
              intro l h
              match l, h with
              | [], _ => simp [sepT]
              | [x], _ => simp [sepT]
              | x :: y :: r, h =>
                have := ih (y :: r) (by simpa using h)
                simp only [sepT, List.length_cons] at this ⊢
                omega
          exact this _ l (Nat.le_refl _)
        have hd : xs.drop j = xs[j] :: xs.drop (j + 1) := List.drop_eq_getElem_cons hjl
        have h3 := hsl (xs.drop (j + 1))
        rw [List.length_drop] at h3
        have A1 := app_s (rep := rep) (cl := cl) (mk := mk) (t := (xs[j], d + 1)) (e := .tup [.idx (.var 3) (.var 5), .bin .add (.var 4) (.cst (.int 1))]) (env := wEnv dv (some (.tup xs)) (some (.int (d : Int))) (some (.int j))) (F := F)
          (todo := (if 0 < j + 1 ∧ j + 1 < xs.length then [(Val.str [44], 0)] else []) ++ sepT (d + 1) (xs.drop (j + 1)) ++ rest) (by simp [ix, fI]) rfl (by split <;> simp <;> omega)
        have eq1 : (xs[j], d + 1) :: ((if 0 < j + 1 ∧ j + 1 < xs.length then [(Val.str [44], 0)] else []) ++ sepT (d + 1) (xs.drop (j + 1)) ++ rest) = sepT (d + 1) (xs.drop j) ++ rest := by
          rw [hd]
          cases hq : xs.drop (j + 1) with
          | nil =>
            have : xs.length ≤ j + 1 := List.drop_eq_nil_iff.mp hq
            rw [if_neg (by omega)]
            simp [sepT]
          | cons y r =>
            have : j + 1 < xs.length := by
              rcases Nat.lt_or_ge (j + 1) xs.length with z | z
              · exact z
              · rw [List.drop_eq_nil_iff.mpr z] at hq; cases hq
            rw [if_pos ⟨by omega, this⟩]
            simp [sepT]
        rw [eq1] at A1
        rw [b_write_data_1, evSs_cons, A1, RS.then_next, evSs_cons, evS_ifs]
        by_cases hj0 : 0 < j
        · have h3' := hsl (xs.drop j)
          rw [List.length_drop] at h3'
          have A2 := app_s (rep := rep) (cl := cl) (mk := mk) (t := (Val.str [44], 0)) (e := .tup [.cst (.str [44]), .cst (.int 0)]) (env := wEnv dv (some (.tup xs)) (some (.int (d : Int))) (some (.int j))) (F := F) (todo := sepT (d + 1) (xs.drop j) ++ rest) (by simp [fI]) rfl (by simp; omega)
          have hc : (decide ((0 : Int) < (j : Int))) = true := decide_eq_true (by omega)
          simp only [ev_cmp, ev_var, List.getElem?_cons_succ, List.getElem?_cons_zero, Res.bind_ok, ev_cst, rd_int, cmp_gt, hc, Option.map_some, Res.opt_some, asBool_bl, Res.into_ok, if_true]
          rw [evSs_cons, A2, RS.then_next, evSs_nil, RS.then_next, evSs_nil, if_pos ⟨hj0, hjl⟩]
          rfl
        · have : j = 0 := by omega
          subst this
          simp only [ev_cmp, ev_var, List.getElem?_cons_succ, List.getElem?_cons_zero, Res.bind_ok, ev_cst, rd_int, cmp_gt, Option.map_some, Res.opt_some, asBool_bl, Res.into_ok]
          rw [if_neg (by simp), evSs_nil, RS.then_next, evSs_nil, if_neg (by omega)]
          rfl)
    (rangeN ((xs.length : Int) - 1) (-1) xs.length) (wEnv dv (some (.tup xs)) (some (.int (d : Int))) a5) (wSt rest F) ⟨xs.length, a5, Nat.le_refl _, rfl, rfl, by rw [if_neg (by omega)]; simp [sepT]⟩
  have hj0 : j = 0 := by
    cases j with
    | zero => rfl
    | succ j => rw [show ((j + 1 : Nat) : Int) - 1 = (j : Int) by omega, rangeD] at e0; cases e0
  subst hj0 e1 e2
  refine ⟨a, ?_⟩
  rw [h1]
  simp
end
end Nt
end
section
set_option linter.all false
set_option maxRecDepth 100000
set_option maxHeartbeats 4000000
/-! k53, the plain part: write_data, the outer loop. -/
namespace Nt
open Nl
variable {rep : Val → List Nat} {st : Store} {k : Nat}
theorem wr_atom {d : Nat} {v : Val} (h : ∀ xs, v ≠ .tup xs) (hv : v.data = true) : wrV d v = atomT v := by
  cases v <;> simp [Val.data] at hv <;> simp only [wrV, atomT]
  exact absurd rfl (h _)
theorem smalls_small {v : Val} (h : smalls v = true) : small v = true := by cases v <;> simp [smalls, small] at h ⊢ <;> exact h
section
variable {dv : Val} {a3 a4 a5 : Option Val} {F : List (List Nat)} {r : List Itm}
theorem body_mark {s : List Nat} (hF : F.length < line) : evSs (Tr rep) (callF (Tr rep) (k + 3)) (mkN (Tr rep) (k + 3)) b_write_data_2 (wEnv dv a3 a4 a5) (wSt ((.str s, 0) :: r) F) = .next (wEnv dv (some (.str s)) (some (.int 0)) a5) (wSt r (F ++ [s])) := by
  rw [b_write_data_2, evSs_cons, pop_w, RS.then_next, evSs_cons, evS_ifs]
  have A := app_f (rep := rep) (cl := callF (Tr rep) (k + 3)) (mk := mkN (Tr rep) (k + 3)) (e := .var 3) (s := s) (env := wEnv dv (some (.str s)) (some (.int 0)) a5) (todo := r) (F := F) (by simp) rfl hF
  simp only [ev_cmp, ev_var, List.getElem?_cons_succ, List.getElem?_cons_zero, Res.bind_ok, ev_cst, rd_int, cmp_eq, eqV_int, Option.map_some, Res.opt_some, asBool_bl, Res.into_ok]
  rw [if_pos (by rfl), evSs_cons]
  have A' : evS (Tr rep) (callF (Tr rep) (k + 3)) (mkN (Tr rep) (k + 3)) (.ex (.bm .append (.var 2) [.var 3])) (wEnv dv (some (.str s)) (some (.int ((0 : Nat) : Int))) a5) (wSt r F) = .next (wEnv dv (some (.str s)) (some (.int 0)) a5) (wSt r (F ++ [s])) := A
  rw [A', RS.then_next, evSs_nil, RS.then_next, evSs_nil]
theorem ne_zero (d : Nat) : ((((d + 1 : Nat) : Int) == 0)) = false := by
  rw [beq_eq_false_iff_ne]; omega
theorem body_tup {xs : List Val} {d : Nat} (hd : d + 1 ≤ 1000) (hF : F.length < line) (hz : xs.length + xs.length + r.length + 3 < line) : ∃ a5', evSs (Tr rep) (callF (Tr rep) (k + 3)) (mkN (Tr rep) (k + 3)) b_write_data_2 (wEnv dv a3 a4 a5) (wSt ((.tup xs, d + 1) :: r) F) = .next (wEnv dv (some (.tup xs)) (some (.int ((d + 1 : Nat) : Int))) a5') (wSt (sepT (d + 2) xs ++ (.str [93], 0) :: r) (F ++ [[91]])) := by
  have A1 := app_f (rep := rep) (cl := callF (Tr rep) (k + 3)) (mk := mkN (Tr rep) (k + 3)) (e := .cst (.str [91])) (s := [91]) (env := wEnv dv (some (.tup xs)) (some (.int ((d + 1 : Nat) : Int))) a5) (todo := r) (F := F) (by simp) rfl hF
  have A2 := app_s (rep := rep) (cl := callF (Tr rep) (k + 3)) (mk := mkN (Tr rep) (k + 3)) (e := .tup [.cst (.str [93]), .cst (.int 0)]) (t := (.str [93], 0)) (env := wEnv dv (some (.tup xs)) (some (.int ((d + 1 : Nat) : Int))) a5) (todo := r) (F := F ++ [[91]]) (by simp [fI]) rfl (by omega)
  obtain ⟨a5', A3⟩ := push_w (rep := rep) (cl := callF (Tr rep) (k + 3)) (mk := mkN (Tr rep) (k + 3)) (dv := dv) (xs := xs) (d := d + 1) (rest := (.str [93], 0) :: r) (F := F ++ [[91]]) (a5 := a5) (by simp only [List.length_cons]; omega)
  refine ⟨a5', ?_⟩
  rw [b_write_data_2, evSs_cons, pop_w, RS.then_next, evSs_cons, evS_ifs]
  have hle : decide ((((d + 1 : Nat) : Int)) ≤ 1000) = true := decide_eq_true (by omega)
  simp only [ev_cmp, ev_var, List.getElem?_cons_succ, List.getElem?_cons_zero, Res.bind_ok, ev_cst, rd_int, cmp_eq, eqV_int, ne_zero, Option.map_some, Res.opt_some, asBool_bl, Res.into_ok]
  rw [if_neg (by simp), evSs_cons, evS_ifs]
  simp only [ev_and, ev_bi, evs_cons, evs_nil, ev_cmp, ev_var, List.getElem?_cons_succ, List.getElem?_cons_zero, Res.bind_ok, List.map_cons, List.map_nil, rdI_tup, bi_isI, isTy_tupT, Option.map_some, Res.opt_some, asBool_bl, if_true, ev_glo, glo3, rd_int, cmp_le, hle, Res.into_ok]
  rw [evSs_cons, A1, RS.then_next, evSs_cons, A2, RS.then_next, evSs_cons, A3, RS.then_next, evSs_nil, RS.then_next, evSs_nil, RS.then_next, evSs_nil]
theorem body_atom {v : Val} {d : Nat} (hn : wrV (d + 1) v = atomT v) (hv : v.data = true) (hs : small v = true) (ht : ∀ xs, v = .tup xs → ¬ d + 1 ≤ 1000) (hF : F.length < line) : evSs (Tr rep) (callF (Tr rep) (k + 3)) (mkN (Tr rep) (k + 3)) b_write_data_2 (wEnv dv a3 a4 a5) (wSt ((v, d + 1) :: r) F) = (match atomT v with
    | some s => .next (wEnv dv (some v) (some (.int ((d + 1 : Nat) : Int))) a5) (wSt r (F ++ [s]))
    | none => .exc 1 noData (wEnv dv (some v) (some (.int ((d + 1 : Nat) : Int))) a5) (wSt r F)) := by
  rw [b_write_data_2, evSs_cons, pop_w, RS.then_next, evSs_cons, evS_ifs]
  simp only [ev_cmp, ev_var, List.getElem?_cons_succ, List.getElem?_cons_zero, Res.bind_ok, ev_cst, rd_int, cmp_eq, eqV_int, ne_zero, Option.map_some, Res.opt_some, asBool_bl, Res.into_ok]
  rw [if_neg (by simp), evSs_cons, evS_ifs]
  have hc : (ev (Tr rep) (callF (Tr rep) (k + 3)) (mkN (Tr rep) (k + 3)) (.and (.bi (.isI .tuple) [.var 3]) (.cmp .le (.var 4) (.glo 3))) (wEnv dv (some v) (some (.int ((d + 1 : Nat) : Int))) a5) (wSt r F)) = .ok (.bl false) (wSt r F) := by
    cases v with
    | tup xs =>
      have hle : decide ((((d + 1 : Nat) : Int)) ≤ 1000) = false := decide_eq_false (by have := ht xs rfl; omega)
      simp only [ev_and, ev_bi, evs_cons, evs_nil, ev_cmp, ev_var, List.getElem?_cons_succ, List.getElem?_cons_zero, Res.bind_ok, List.map_cons, List.map_nil, rdI_tup, bi_isI, isTy_tupT, Option.map_some, Res.opt_some, asBool_bl, if_true, ev_glo, glo3, rd_int, cmp_le, hle]
    | _ => first | (simp [Val.data] at hv; done) | simp
  rw [hc, Res.bind_ok, asBool_bl, Res.into_ok, if_neg (by simp), evSs_cons]
  have hat := c_atom_text (rep := rep) (k := k) (st := wSt r F) v hv hs
  cases ha : atomT v with
  | some s =>
    have A := app_f (rep := rep) (cl := callF (Tr rep) (k + 3)) (mk := mkN (Tr rep) (k + 3)) (e := .call 3 [.var 3]) (s := s) (env := wEnv dv (some v) (some (.int ((d + 1 : Nat) : Int))) a5) (todo := r) (F := F) (by rw [ha] at hat; simp [hat]) rfl hF
    rw [A, RS.then_next, evSs_nil, RS.then_next, evSs_nil, RS.then_next, evSs_nil]
  | none =>
    rw [ha] at hat
    have hr : rd (wSt r F) (.ref 1) = .lst (F.map .str) := rfl
    have A : evS (Tr rep) (callF (Tr rep) (k + 3)) (mkN (Tr rep) (k + 3)) (.ex (.bm .append (.var 2) [.call 3 [.var 3]])) (wEnv dv (some v) (some (.int ((d + 1 : Nat) : Int))) a5) (wSt r F) = .exc 1 noData (wEnv dv (some v) (some (.int ((d + 1 : Nat) : Int))) a5) (wSt r F) := by
      rw [evS_ex, ev_bm]
      simp only [ev_var, List.getElem?_cons_succ, List.getElem?_cons_zero, Res.bind_ok, hr, rcv_list (.inl rfl), if_true, evs_cons, ev_call, evs_nil, hat, Option.map_none, out_none, Res.bind_exc, Res.into_exc]
    rw [A, RS.then_exc, RS.then_exc, RS.then_exc]
theorem whl_c {todo : List Itm} : (fun env st => (ev (Tr rep) (callF (Tr rep) (k + 3)) (mkN (Tr rep) (k + 3)) (.cmp .gt (.bi .len [.var 1]) (.cst (.int 0))) env st).bind asBool) (wEnv dv a3 a4 a5) (wSt todo F) = .ok (!todo.isEmpty) (wSt todo F) := by
  have h : decide (0 < todo.length) = !todo.isEmpty := by cases todo <;> simp
  simp [h]
/-- how the loop ends -/
def WrOK (dv : Val) (g : Option (List Nat)) (F : List (List Nat)) (res : RS) : Prop := match g with
  | some t => ∃ (P : List (List Nat)) (a3' a4' a5' : Option Val), P.flatten = t ∧ F.length + P.length < 3000000 ∧ res = .next (wEnv dv a3' a4' a5') (wSt [] (F ++ P))
  | none => ∃ e s, res = .exc 1 noData e s
/-- the whole loop -/
theorem wr_loop : ∀ (m : Nat) (todo : List Itm) (F : List (List Nat)) (a3 a4 a5 : Option Val), sz todo ≤ m → 3 * sz todo + F.length < 3000000 → (∀ t ∈ todo, gdI t) → WrOK dv (go todo) F (whileD (fun env st => (ev (Tr rep) (callF (Tr rep) (k + 3)) (mkN (Tr rep) (k + 3)) (.cmp .gt (.bi .len [.var 1]) (.cst (.int 0))) env st).bind asBool) (fun env st => evSs (Tr rep) (callF (Tr rep) (k + 3)) (mkN (Tr rep) (k + 3)) b_write_data_2 env st) (wEnv dv a3 a4 a5) (wSt todo F))
  | m, [], F, a3, a4, a5, h1, h2, h3 => by
    exact ⟨[], a3, a4, a5, rfl, by simp at h2 ⊢; omega, by rw [whileD_end (whl_c (todo := []))]; simp⟩
  | 0, t :: r, F, a3, a4, a5, h1, h2, h3 => by have := szi_pos t; simp [sz] at h1; omega
  | m + 1, t :: r, F, a3, a4, a5, h1, h2, h3 => by
    have hl : line = 16777216 := rfl
    have hp := szi_pos t
    have hlr := len_sz r
    simp only [sz] at h1 h2
    have hgd := h3 t List.mem_cons_self
    have hr : ∀ q ∈ r, gdI q := fun q hq => h3 q (List.mem_cons_of_mem _ hq)
    have hc := whl_c (rep := rep) (k := k) (dv := dv) (a3 := a3) (a4 := a4) (a5 := a5) (F := F) (todo := t :: r)
    -- one piece is written
    have one : ∀ (s : List Nat) (b3 b4 b5 : Option Val), itT t = some s → evSs (Tr rep) (callF (Tr rep) (k + 3)) (mkN (Tr rep) (k + 3)) b_write_data_2 (wEnv dv a3 a4 a5) (wSt (t :: r) F) = .next (wEnv dv b3 b4 b5) (wSt r (F ++ [s])) → WrOK dv (go (t :: r)) F (whileD (fun env st => (ev (Tr rep) (callF (Tr rep) (k + 3)) (mkN (Tr rep) (k + 3)) (.cmp .gt (.bi .len [.var 1]) (.cst (.int 0))) env st).bind asBool) (fun env st => evSs (Tr rep) (callF (Tr rep) (k + 3)) (mkN (Tr rep) (k + 3)) b_write_data_2 env st) (wEnv dv a3 a4 a5) (wSt (t :: r) F)) := fun s b3 b4 b5 hi hb => by
      have ih := wr_loop m r (F ++ [s]) b3 b4 b5 (by omega) (by simp; omega) hr
      rw [whileD_turn hc hb, show go (t :: r) = (go r).map (s ++ ·) by simp only [go, hi, Option.bind_some]]
      cases hg : go r with
      | none => rw [hg] at ih; exact ih
      | some u =>
        rw [hg] at ih
        obtain ⟨P, c3, c4, c5, e1, e2, e3⟩ := ih
        refine ⟨s :: P, c3, c4, c5, by simp [e1], by simp at e2 ⊢; omega, ?_⟩
        rw [e3]; simp
    obtain ⟨v, d⟩ := t
    cases d with
    | zero =>
      obtain ⟨s, rfl⟩ := hgd
      exact one s _ _ _ rfl (body_mark (by omega))
    | succ d =>
      obtain ⟨hv, hsm⟩ := hgd
      by_cases htup : ∃ xs, v = .tup xs ∧ d + 1 ≤ 1000
      · obtain ⟨xs, rfl, hd⟩ := htup
        have hxs : xs.length ≤ svs xs := by
          have : ∀ l : List Val, l.length ≤ svs l := fun l => by
            induction l with
            | nil => simp [svs]
            | cons y l ih => simp [svs]; omega
          exact this xs
        simp only [szi, sv] at h1 h2 hp
        obtain ⟨b5, hb⟩ := body_tup (rep := rep) (k := k) (dv := dv) (a3 := a3) (a4 := a4) (a5 := a5) (F := F) (r := r) (xs := xs) hd (by omega) (by omega)
        have hs : sz (sepT (d + 2) xs) ≤ svs xs := sz_sep (d + 1) xs
        have ih := wr_loop m (sepT (d + 2) xs ++ (.str [93], 0) :: r) (F ++ [[91]]) (some (.tup xs)) (some (.int ((d + 1 : Nat) : Int))) b5 (by rw [sz_app]; simp only [sz, szi]; omega) (by rw [sz_app]; simp only [sz, szi, List.length_append, List.length_cons, List.length_nil]; omega) (fun q hq => by
          rcases List.mem_append.mp hq with q1 | q1
          · exact gd_sep (d + 1) xs (by simpa only [Val.data] using hv) (by simpa only [smalls] using hsm) q q1
          · rcases List.mem_cons.mp q1 with rfl | q1
            · exact ⟨_, rfl⟩
            · exact hr q q1)
        have e : go ((.tup xs, d + 1) :: r) = (go (sepT (d + 2) xs ++ (.str [93], 0) :: r)).map (fun z => 91 :: z) := by
          rw [go_app, go_sep]
          simp only [go, itT, wrV, if_pos hd]
          cases wrs (d + 1 + 1) xs <;> simp
          cases go r <;> simp
        rw [e, whileD_turn hc hb]
        cases hg : go (sepT (d + 2) xs ++ (.str [93], 0) :: r) with
        | none => rw [hg] at ih; exact ih
        | some u =>
          rw [hg] at ih
          obtain ⟨P, c3, c4, c5, e1, e2, e3⟩ := ih
          refine ⟨[91] :: P, c3, c4, c5, by simp [e1], by simp at e2 ⊢; omega, ?_⟩
          rw [e3]; simp
      · have hn : wrV (d + 1) v = atomT v := by
          by_cases hx : ∃ xs, v = .tup xs
          · obtain ⟨xs, rfl⟩ := hx
            have : ¬ d + 1 ≤ 1000 := fun z => htup ⟨xs, rfl, z⟩
            simp only [wrV, if_neg this, atomT]
          · exact wr_atom (fun xs e => hx ⟨xs, e⟩) hv
        have hb := body_atom (rep := rep) (k := k) (dv := dv) (a3 := a3) (a4 := a4) (a5 := a5) (F := F) (r := r) hn hv (smalls_small hsm) (fun xs e z => htup ⟨xs, e, z⟩) (by omega)
        cases ha : atomT v with
        | some s =>
          rw [ha] at hb
          exact one s _ _ _ (by simp only [itT]; rw [hn, ha]) hb
        | none =>
          rw [ha] at hb
          have : go ((v, d + 1) :: r) = none := by simp only [go, itT, hn, ha, Option.bind_none]
          rw [this]
          exact ⟨_, _, whileD_exc hc hb⟩
end
theorem c_write_data (v : Val) (hv : v.data = true) (hs : smalls v = true) (hz : sv v ≤ 900000) (hl : ∀ t, wrV 1 v = some t → t.length ≤ line) : callF (Tr rep) (k + 4) 4 [v] st = out ((wrV 1 v).map .str) st := by
  have hw := wr_loop (rep := rep) (k := k) (dv := v) (sv v) [(v, 1)] [] none none none (by simp [sz, szi]) (by simp [sz, szi]; omega) (fun t ht => by simp at ht; subst ht; exact ⟨hv, hs⟩)
  have hgo : go [(v, 1)] = wrV 1 v := by
    simp only [go, itT]
    cases wrV 1 v <;> simp
  rw [hgo] at hw
  rw [callF_succ (d := d_write_data) rfl]
  have h0 : evS (Tr rep) (callF (Tr rep) (k + 3)) (mkN (Tr rep) (k + 3)) (.gen [.nm 1, .nm 2] (.tup [.new (.lst [.tup [.var 0, .cst (.int 1)]]), .new (.lst [])])) [some v, none, none, none, none, none] [] = .next (wEnv v none none none) (wSt [(v, 1)] []) := by
    simp [fI]
  cases hr : wrV 1 v with
  | some t =>
    rw [hr] at hw
    obtain ⟨P, c3, c4, c5, e1, e2, e3⟩ := hw
    refine pure_ret (s := wSt [] P) rfl rfl rfl (by simp [closedAll, data_closed v hv]) ?_ rfl
    have hj : bmV .join (.str []) [.ref 1] (wSt [] P) = some (.str t, wSt [] P) := by
      have hlen : (P.map List.length).sum ≤ line := by
        have : (P.map List.length).sum = t.length := by rw [← e1, List.length_flatten]
        rw [this]; exact hl t hr
      rw [join_at (ts := P) rfl (by simpa using hlen), joinS_nil, e1]
    simp only [List.nil_append] at e3
    show evSs _ _ _ d_write_data.body [some v, none, none, none, none, none] [] = _
    rw [d_write_data, evSs_cons, h0, RS.then_next, evSs_cons, evS_whl, e3, RS.then_next, evSs_cons, evS_ret]
    simp only [ev_bm, ev_cst, Res.bind_ok, evs_cons, ev_var, List.getElem?_cons_succ, List.getElem?_cons_zero, evs_nil]
    rw [if_pos (by rfl), hj]
    rfl
  | none =>
    rw [hr] at hw
    obtain ⟨e, s, e3⟩ := hw
    refine pure_exc (s := s) (e := e) rfl rfl rfl (by simp [closedAll, data_closed v hv]) ?_
    show evSs _ _ _ d_write_data.body [some v, none, none, none, none, none] [] = _
    rw [d_write_data, evSs_cons, h0, RS.then_next, evSs_cons, evS_whl, e3, RS.then_exc]
end Nt
end
section
set_option linter.all false
set_option maxRecDepth 100000
set_option maxHeartbeats 4000000
/-! k53, the plain part: pieces, numbers of texts, atoms of texts. -/
namespace Nt
open Nl
variable {rep : Val → List Nat} {st : Store} {k : Nat}
/-! ### slices -/
theorem clampI_nat {n a : Nat} (h : a ≤ n) : clampI n (a : Int) = a := by
  unfold clampI
  rw [if_pos (by omega)]
  simp; omega
theorem slc_ab {s : List Nat} {a b : Nat} (hs : s.length ≤ line) (h1 : a ≤ s.length) (h2 : b ≤ s.length) : slcV (.str s) (.int (a : Int)) (.int (b : Int)) = some (.str ((s.take b).drop a)) := by
  simp only [slcV, opt_i, Option.bind_some, hs, if_true, sliceL, clampI_nat h1, clampI_nat h2]
theorem slc_a {s : List Nat} {a : Nat} (hs : s.length ≤ line) (h1 : a ≤ s.length) : slcV (.str s) (.int (a : Int)) .non = some (.str (s.drop a)) := by
  simp only [slcV, opt_i, opt_n, Option.bind_some, hs, if_true, sliceL, clampI_nat h1, List.take_length]
theorem slc_b {s : List Nat} {b : Nat} (hs : s.length ≤ line) (h2 : b ≤ s.length) : slcV (.str s) .non (.int (b : Int)) = some (.str (s.take b)) := by
  simp only [slcV, opt_i, opt_n, Option.bind_some, hs, if_true, sliceL, clampI_nat h2, List.drop_zero]
theorem slc_b1 {s : List Nat} (hs : s.length ≤ line) : slcV (.str s) .non (.int 1) = some (.str (s.take 1)) := by
  simp only [slcV, opt_i, opt_n, Option.bind_some, hs, if_true, sliceL, List.drop_zero]
  congr 2
  cases s with
  | nil => rfl
  | cons c s => show List.take (clampI (c :: s).length ((1 : Nat) : Int)) _ = _; rw [clampI_nat (by simp)]
theorem slc_a1 {c : Nat} {s : List Nat} (hs : (c :: s).length ≤ line) : slcV (.str (c :: s)) (.int 1) .non = some (.str s) := by
  have := slc_a (a := 1) hs (by simp)
  simpa using this
/-! ### pieces -/
def isX (c : Nat) : Bool := decide (c = 91 ∨ c = 93 ∨ c = 44)
def P : List Nat → List Nat → List (List Nat)
  | tok, [] => if tok = [] then [] else [tok]
  | tok, c :: r => if isX c then (if tok = [] then [] else [tok]) ++ [c] :: P [] r else P (tok ++ [c]) r
theorem P_app {u : List Nat} {c : Nat} (hc : isX c = true) : ∀ (t tok : List Nat), P tok (t ++ c :: u) = P tok t ++ [c] :: P [] u
  | [], tok => by simp [P, hc]
  | d :: t, tok => by
    simp only [List.cons_append, P]
    split
    · simp [P_app hc t []]
    · exact P_app hc t _
theorem P_len : ∀ (t tok : List Nat), (P tok t).length ≤ 2 * t.length + 1
  | [], tok => by simp only [P]; split <;> simp
  | c :: t, tok => by
    simp only [P]
    split
    · have := P_len t []
      split <;> simp <;> omega
    · have := P_len t (tok ++ [c])
      simp; omega
theorem mem_X {c : Nat} : decide (c ∈ [91, 93, 44]) = isX c := by simp [isX]
abbrev chr (c : Nat) : Val := .str [c]
theorem c_pieces_of (t : List Nat) (ht : t.length ≤ 4000000) : callF (Tr rep) (k + 1) 7 [.str t] st = .ok (.lst ((P [] t).map .str)) st := by
  have hl : line = 16777216 := rfl
  rw [callF_succ (d := d_pieces_of) rfl]
  have hcl : (Val.lst ((P [] t).map Val.str)).closed = true := by
    simp only [Val.closed]
    have : ∀ l : List (List Nat), closedAll (l.map Val.str) = true := fun l => by induction l <;> simp_all [closedAll, Val.closed]
    exact this _
  have h0 : evS (Tr rep) (callF (Tr rep) k) (mkN (Tr rep) k) (.gen [.nm 1, .nm 2] (.tup [.new (.lst []), .cst (.int 0)])) [some (.str t), none, none, none, none] [] = .next [some (.str t), some (.ref 0), some (.int 0), none, none] [.lst []] := by simp
  have hen : ev (Tr rep) (callF (Tr rep) k) (mkN (Tr rep) k) (.bi .enum [.var 0]) [some (.str t), some (.ref 0), some (.int 0), none, none] [.lst []] = .ok (.lst (enumN 0 (t.map chr))) [.lst []] := by
    simp [biV, biEnum]
  obtain ⟨e, s, h1, pre, post, start, F, a3, a4, e0, e1, e2, e3, e4, e5, e6⟩ := forL_inv (t := [3, 4]) (one := false) (all := enumN 0 (t.map chr)) (body := fun env st => evSs (Tr rep) (callF (Tr rep) k) (mkN (Tr rep) k) b_pieces_of_1 env st)
    (fun q env st => ∃ (pre post : List Nat) (start : Nat) (F : List (List Nat)) (a3 a4 : Option Val), t = pre ++ post ∧ q = enumN (pre.length : Int) (post.map chr) ∧ env = [some (.str t), some (.ref 0), some (.int (start : Int)), a3, a4] ∧ st = [.lst (F.map .str)] ∧ start ≤ pre.length ∧ P [] t = F ++ P (pre.drop start) post ∧ F.length ≤ 2 * pre.length)
    (fun x q env st ⟨pre, post, start, F, a3, a4, e0, e1, e2, e3, e4, e5, e6⟩ => by
      subst e2 e3
      cases post with
      | nil => simp [enumN] at e1
      | cons c post =>
        simp only [List.map_cons, enumN, List.cons.injEq] at e1
        obtain ⟨rfl, rfl⟩ := e1
        refine ⟨[some (.str t), some (.ref 0), some (.int (start : Int)), some (.int (pre.length : Int)), some (.str [c])], rfl, ?_⟩
        have hlen : pre.length + (post.length + 1) = t.length := by rw [e0]; simp
        have htk : t.take pre.length = pre := by rw [e0]; simp
        rw [b_pieces_of_1]
        by_cases hx : isX c = true
        · refine ⟨[some (.str t), some (.ref 0), some (.int ((pre.length + 1 : Nat) : Int)), some (.int (pre.length : Int)), some (.str [c])], [.lst ((F ++ (if pre.drop start = [] then [] else [pre.drop start]) ++ [[c]]).map .str)], .inl ?_, pre ++ [c], post, pre.length + 1, _, _, _, by simp [e0], by simp, rfl, rfl, by simp, ?_, ?_⟩
          · have hin : inV (.str [c]) (.str [91, 93, 44]) = some true := by rw [inV_str, mem_X, hx]
            have hsl := slc_ab (s := t) (a := start) (b := pre.length) (by omega) (by omega) (by omega)
            rw [htk] at hsl
            have a2 : ∀ (G : List (List Nat)) (env : Env), G.length ≤ 2 * pre.length + 1 → env[1]? = some (some (.ref 0)) → env[4]? = some (some (.str [c])) → evS (Tr rep) (callF (Tr rep) k) (mkN (Tr rep) k) (.ex (.bm .append (.var 1) [.var 4])) env [.lst (G.map .str)] = .next env [.lst ((G ++ [[c]]).map .str)] := fun G env hG g1 g2 => by
              rw [evS_ex, ev_app (a := 0) (A := G.map .str) (v := .str [c]) (s := [.lst (G.map .str)]) (by simp [g1]) (by simp [g2]) ⟨_, rfl⟩ rfl (by simp; omega)]
              simp
            by_cases hlt : start < pre.length
            · have hne : pre.drop start ≠ [] := fun z => by have := List.drop_eq_nil_iff.mp z; omega
              have a1 : evS (Tr rep) (callF (Tr rep) k) (mkN (Tr rep) k) (.ex (.bm .append (.var 1) [.slc (.var 0) (.var 2) (.var 3)])) [some (.str t), some (.ref 0), some (.int (start : Int)), some (.int (pre.length : Int)), some (.str [c])] [.lst (F.map .str)] = .next [some (.str t), some (.ref 0), some (.int (start : Int)), some (.int (pre.length : Int)), some (.str [c])] [.lst ((F ++ [pre.drop start]).map .str)] := by
                rw [evS_ex, ev_app (a := 0) (A := F.map .str) (v := .str (pre.drop start)) (s := [.lst (F.map .str)]) (by simp) (by simp [hsl]) ⟨_, rfl⟩ rfl (by simp; omega)]
                simp
              have b1 := a2 (F ++ [pre.drop start]) [some (.str t), some (.ref 0), some (.int (start : Int)), some (.int (pre.length : Int)), some (.str [c])] (by simp; omega) rfl rfl
              simp [-evS_ex, -List.map_append, hin, hlt, a1, b1, hne]
            · have hne : pre.drop start = [] := List.drop_eq_nil_iff.mpr (by omega)
              have b1 := a2 F [some (.str t), some (.ref 0), some (.int (start : Int)), some (.int (pre.length : Int)), some (.str [c])] (by omega) rfl rfl
              simp [-evS_ex, -List.map_append, hin, hlt, b1, hne]
          · rw [e5]
            simp [P, hx]
          · split <;> simp <;> omega
        · have hx' : isX c = false := by simpa using hx
          refine ⟨[some (.str t), some (.ref 0), some (.int (start : Int)), some (.int (pre.length : Int)), some (.str [c])], [.lst (F.map .str)], .inl ?_, pre ++ [c], post, start, F, _, _, by simp [e0], by simp, rfl, rfl, by simp; omega, ?_, by simp; omega⟩
          · have hin : inV (.str [c]) (.str [91, 93, 44]) = some false := by rw [inV_str, mem_X, hx']
            simp [hin]
          · rw [e5]
            simp [P, hx', List.drop_append_of_le_length e4])
    (enumN 0 (t.map chr)) [some (.str t), some (.ref 0), some (.int 0), none, none] [.lst []] ⟨[], t, 0, [], none, none, rfl, rfl, rfl, rfl, Nat.le_refl _, rfl, Nat.le_refl _⟩
  have hpost : post = [] := by
    cases post with
    | nil => rfl
    | cons c p => simp [enumN] at e1
  subst hpost e2 e3
  simp only [List.append_nil] at e0
  subst e0
  refine pure_ret (s := [.lst (F.map .str)]) rfl rfl rfl (by simp [closedAll, Val.closed]) ?_ hcl
  show evSs _ _ _ d_pieces_of.body [some (.str t), none, none, none, none] [] = _
  rw [d_pieces_of, evSs_cons, h0, RS.then_next, evSs_cons, for_run hen walked_lst, h1, RS.then_next]
  have hln := bi_lenS (T := Tr rep) (s := t) (by omega)
  have hsl := slc_a (s := t) (a := start) (by omega) e4
  by_cases hlt : start < t.length
  · have hne : t.drop start ≠ [] := fun z => by have := List.drop_eq_nil_iff.mp z; omega
    have hp : P (t.drop start) [] = [t.drop start] := by simp [P, hne]
    rw [hp] at e5
    have hadd := add_lst (s := F.map Val.str) (t := [.str (t.drop start)]) (by simp; omega)
    simp [hln, hlt, hsl, hadd, e5]
  · have hne : t.drop start = [] := List.drop_eq_nil_iff.mpr (by omega)
    have hp : P (t.drop start) [] = [] := by simp [P, hne]
    rw [hp] at e5
    have hadd := add_lst (s := F.map Val.str) (t := []) (by simp; omega)
    simp [hln, hlt, hadd, e5]
end Nt
end
section
set_option linter.all false
set_option maxRecDepth 100000
set_option maxHeartbeats 4000000
/-! k53, the plain part: numbers of texts, atoms of texts. -/
namespace Nt
open Nl
variable {rep : Val → List Nat} {st : Store} {k : Nat}
def bodyT (t : List Nat) : List Nat := if t.take 1 = [45] then t.drop 1 else t
def numOk (t : List Nat) : Bool := match bodyT t with
  | [] => false
  | c :: b => (c :: b).all isDig && !(c == 48 && !(t == [48]))
def numT (t : List Nat) : Option Int := if numOk t then intOf t else none
def rwT (t : List Nat) : Option Int := if (bodyT t).length ≤ 4000 then numT t else none
theorem bodyT_cons {s : List Nat} : bodyT (45 :: s) = s := by simp [bodyT]
theorem bodyT_ne {c : Nat} {s : List Nat} (h : c ≠ 45) : bodyT (c :: s) = c :: s := by simp [bodyT, h]
theorem bodyT_nil : bodyT [] = [] := by simp [bodyT]
theorem bodyT_len (t : List Nat) : (bodyT t).length ≤ t.length := by unfold bodyT; split <;> simp
theorem bi_intS {T : Tab} {t : List Nat} {i : Int} (h : intOf t = some i) : biV T .int [.str t] = some (.int i) := by simp [biV, biInt, h]
theorem ev_body {cl mk : Nat → List Val → Store → Res Val} {t : List Nat} {env : Env} (ht : t.length ≤ line) (he : env[0]? = some (some (.str t))) :
    ev (Tr rep) cl mk (.ife (.cmp .eq (.slc (.var 0) (.cst .non) (.cst (.int 1))) (.cst (.str [45]))) (.slc (.var 0) (.cst (.int 1)) (.cst .non)) (.var 0)) env st = .ok (.str (bodyT t)) st := by
  have h1 := slc_b1 ht
  cases t with
  | nil => simp [he, h1, bodyT]
  | cons c s =>
    have h2 := slc_a1 ht
    by_cases hc : c = 45
    · subst hc
      simp [he, h1, h2, bodyT]
    · simp [he, h1, h2, bodyT, hc]
theorem intOf_some {t : List Nat} (h : numOk t = true) (hl : (bodyT t).length ≤ 4200) : ∃ i, intOf t = some i := by
  unfold numOk at h
  cases hb : bodyT t with
  | nil => rw [hb] at h; cases h
  | cons c b =>
    rw [hb] at h hl
    simp only [Bool.and_eq_true] at h
    cases t with
    | nil => simp [bodyT] at hb
    | cons d s =>
      by_cases hd : d = 45
      · subst hd
        rw [bodyT_cons] at hb
        subst hb
        exact ⟨_, if_pos ⟨by simp, h.1, hl⟩⟩
      · rw [bodyT_ne hd] at hb
        obtain ⟨rfl, rfl⟩ := List.cons.inj hb
        refine ⟨(natOf (d :: s) : Int), ?_⟩
        unfold intOf
        split
        · rename_i e; cases e; exact absurd rfl hd
        · exact if_pos ⟨by simp, h.1, hl⟩
theorem all_cp {cl mk : Nat → List Val → Store → Res Val} {t b : List Nat} (hb : b.length ≤ line) : ev (Tr rep) cl mk x_read_whole_1 [some (.str t), some (.str b), none] st = .ok (.lst (b.map fun c => .bl (isDig c))) st := by
  refine cp1_str (fun c => .bl (isDig c)) hb (by simp) fun c hc => ?_
  simp
theorem any_cp {cl mk : Nat → List Val → Store → Res Val} {t b : List Nat} (hb : b.length ≤ line) : ev (Tr rep) cl mk x__law_number_1 [some (.str t), some (.str b), none] st = .ok (.lst (b.map fun c => .bl (!isDig c))) st := by
  refine cp1_str (fun c => .bl (!isDig c)) hb (by simp) fun c hc => ?_
  have h : inV (.str [c]) (.str [48, 49, 50, 51, 52, 53, 54, 55, 56, 57]) = some (isDig c) := by
    rw [inV_str]
    show some (decide (c ∈ digL)) = _
    simp only [mem_digs, Bool.decide_eq_true]
  simp [h]
theorem c_read_whole (t : List Nat) (ht : t.length ≤ line) : callF (Tr rep) (k + 1) 5 [.str t] st = out ((rwT t).map .int) st := by
  have hbl : (bodyT t).length ≤ line := Nat.le_trans (bodyT_len t) ht
  have h0 : evS (Tr rep) (callF (Tr rep) k) (mkN (Tr rep) k) (.asg (.nm 1) (.ife (.cmp .eq (.slc (.var 0) (.cst .non) (.cst (.int 1))) (.cst (.str [45]))) (.slc (.var 0) (.cst (.int 1)) (.cst .non)) (.var 0))) [some (.str t), none, none] [] = .next [some (.str t), some (.str (bodyT t)), none] [] := by
    rw [evS_asg, ev_body ht rfl]
    rfl
  have hcp := all_cp (rep := rep) (st := []) (cl := callF (Tr rep) k) (mk := mkN (Tr rep) k) (t := t) hbl
  rw [callF_succ (d := d_read_whole) rfl]
  have hlen := bi_lenS (T := Tr rep) hbl
  have exc : ∀ {s : Store} {e : Env}, evSs (Tr rep) (callF (Tr rep) k) (mkN (Tr rep) k) d_read_whole.body [some (.str t), none, none] [] = .exc 1 noData e s → rwT t = none → runDf (Tr rep) (callF (Tr rep) k) (mkN (Tr rep) k) d_read_whole [.str t] st = out ((rwT t).map .int) st := fun {s e} h hr => by
    rw [hr]
    exact pure_exc (s := s) (e := e) rfl rfl rfl (by simp [closedAll, Val.closed]) h
  cases hb : bodyT t with
  | nil =>
    refine exc (s := []) (e := [some (.str t), some (.str []), none]) ?_ (by simp [rwT, numT, numOk, hb])
    rw [hb] at h0 hlen
    rw [d_read_whole, evSs_cons, h0]
    simp [hlen]
  | cons c b =>
    rw [hb] at h0 hlen hcp hbl
    simp only [List.length_cons, Int.natCast_add, Int.cast_ofNat_Int] at hlen
    have e1 : (1 ≤ (b.length : Int) + 1) := by omega
    have hix := idx_str0 hbl
    by_cases hl : b.length + 1 ≤ 4000
    · have e2 : (b.length : Int) + 1 ≤ 4000 := by omega
      by_cases ha : (c :: b).all isDig = true
      · have ha1 : isDig c = true ∧ b.all isDig = true := by simpa using ha
        by_cases hz : (c == 48 && !(t == [48])) = true
        · refine exc (s := []) (e := [some (.str t), some (.str (c :: b)), none]) ?_ (by simp only [rwT, numT, numOk, hb, ha, hz]; simp)
          simp only [Bool.and_eq_true, beq_iff_eq, Bool.not_eq_true', beq_eq_false_iff_ne] at hz
          obtain ⟨rfl, hz⟩ := hz
          rw [d_read_whole, evSs_cons, h0]
          have hne : ¬ ∃ x, x ∈ b ∧ isDig x = false := fun ⟨x, h1, h2⟩ => by
            rw [List.all_eq_true.mp ha1.2 x h1] at h2; cases h2
          simp [hlen, e1, e2, hcp, bools, bools_map, ha1.1, Function.comp_def, hix, hz, hne]
        · have hno : numOk t = true := by simp only [numOk, hb, ha, hz]; rfl
          obtain ⟨i, hi⟩ := intOf_some hno (by rw [hb]; simp; omega)
          have hr : rwT t = some i := by simp only [rwT, numT, hno, hb, List.length_cons, hl, if_true, hi]
          rw [hr]
          refine pure_ret (s := []) rfl rfl rfl (by simp [closedAll, Val.closed]) ?_ rfl
          have hbi := bi_intS (T := Tr rep) hi
          show evSs _ _ _ d_read_whole.body [some (.str t), none, none] [] = _
          rw [d_read_whole, evSs_cons, h0]
          by_cases hc : c = 48
          · subst hc
            have ht2 : t = [48] := by simpa using hz
            subst ht2
            simp [hlen, e1, e2, hcp, bools, bools_map, ha1.1, ha1.2, Function.comp_def, hix, hbi]
          · simp [hlen, e1, e2, hcp, bools, bools_map, ha1.1, ha1.2, Function.comp_def, hix, hbi, hc]
      · refine exc (s := []) (e := [some (.str t), some (.str (c :: b)), none]) ?_ (by simp only [rwT, numT, numOk, hb, ha]; simp)
        rw [d_read_whole, evSs_cons, h0]
        have hq : isDig c = false ∨ ∃ x, x ∈ b ∧ isDig x = false := by
          by_cases h1 : isDig c = true
          · right
            apply Classical.byContradiction
            intro h2
            apply ha
            rw [List.all_cons, h1, Bool.true_and, List.all_eq_true]
            intro x hx
            cases hd : isDig x with
            | true => rfl
            | false => exact absurd ⟨x, hx, hd⟩ h2
          · left; simpa using h1
        simp [hlen, e1, e2, hcp, bools, bools_map, Function.comp_def, hq]
    · have e2 : ¬ (b.length : Int) + 1 ≤ 4000 := by omega
      refine exc (s := []) (e := [some (.str t), some (.str (c :: b)), none]) ?_ (by simp only [rwT, hb, List.length_cons, if_neg hl])
      rw [d_read_whole, evSs_cons, h0]
      simp [hlen, e1, e2]
theorem c_law_number (t : List Nat) (ht : t.length ≤ line) (h42 : (bodyT t).length ≤ 4200) : callF (Tr rep) (k + 1) 20 [.str t] st = .ok ((match numT t with | some i => .int i | none => .non)) st := by
  have hbl : (bodyT t).length ≤ line := Nat.le_trans (bodyT_len t) ht
  have h0 : evS (Tr rep) (callF (Tr rep) k) (mkN (Tr rep) k) (.asg (.nm 1) (.ife (.cmp .eq (.slc (.var 0) (.cst .non) (.cst (.int 1))) (.cst (.str [45]))) (.slc (.var 0) (.cst (.int 1)) (.cst .non)) (.var 0))) [some (.str t), none, none] [] = .next [some (.str t), some (.str (bodyT t)), none] [] := by
    rw [evS_asg, ev_body ht rfl]
    rfl
  have hcp := any_cp (rep := rep) (st := []) (cl := callF (Tr rep) k) (mk := mkN (Tr rep) k) (t := t) hbl
  rw [callF_succ (d := d__law_number) rfl]
  have no : evSs (Tr rep) (callF (Tr rep) k) (mkN (Tr rep) k) d__law_number.body [some (.str t), none, none] [] = .ret .non [] → numT t = none → runDf (Tr rep) (callF (Tr rep) k) (mkN (Tr rep) k) d__law_number [.str t] st = .ok ((match numT t with | some i => .int i | none => .non)) st := fun h hr => by
    rw [hr]
    exact pure_ret (s := []) rfl rfl rfl (by simp [closedAll, Val.closed]) h rfl
  cases hb : bodyT t with
  | nil =>
    refine no ?_ (by simp [numT, numOk, hb])
    rw [hb] at h0
    rw [d__law_number, evSs_cons, h0]
    simp
  | cons c b =>
    rw [hb] at h0 hcp hbl
    have hix := idx_str0 hbl
    by_cases ha : (c :: b).all isDig = true
    · have ha1 : isDig c = true ∧ b.all isDig = true := by simpa using ha
      have hne : ¬ ∃ x, x ∈ b ∧ isDig x = false := fun ⟨x, h1, h2⟩ => by
        rw [List.all_eq_true.mp ha1.2 x h1] at h2; cases h2
      by_cases hz : (c == 48 && !(t == [48])) = true
      · refine no ?_ (by simp only [numT, numOk, hb, ha, hz]; simp)
        simp only [Bool.and_eq_true, beq_iff_eq, Bool.not_eq_true', beq_eq_false_iff_ne] at hz
        obtain ⟨rfl, hz⟩ := hz
        rw [d__law_number, evSs_cons, h0]
        simp [hcp, bools, bools_map, ha1.1, Function.comp_def, hix, hz, hne]
      · have hno : numOk t = true := by simp only [numOk, hb, ha, hz]; rfl
        obtain ⟨i, hi⟩ := intOf_some hno h42
        have hr : numT t = some i := by simp only [numT, hno, if_true, hi]
        rw [hr]
        refine pure_ret (s := []) rfl rfl rfl (by simp [closedAll, Val.closed]) ?_ rfl
        have hbi := bi_intS (T := Tr rep) hi
        show evSs _ _ _ d__law_number.body [some (.str t), none, none] [] = _
        rw [d__law_number, evSs_cons, h0]
        by_cases hc : c = 48
        · subst hc
          have ht2 : t = [48] := by simpa using hz
          subst ht2
          simp [hcp, bools, bools_map, ha1.1, ha1.2, Function.comp_def, hix, hbi, hne]
        · simp [hcp, bools, bools_map, ha1.1, ha1.2, Function.comp_def, hix, hbi, hc, hne]
    · have hq : isDig c = false ∨ ∃ x, x ∈ b ∧ isDig x = false := by
        by_cases h1 : isDig c = true
        · right
          apply Classical.byContradiction
          intro h2
          apply ha
          rw [List.all_cons, h1, Bool.true_and, List.all_eq_true]
          intro x hx
          cases hd : isDig x with
          | true => rfl
          | false => exact absurd ⟨x, hx, hd⟩ h2
        · left; simpa using h1
      refine no ?_ (by simp only [numT, numOk, hb, ha]; simp)
      rw [d__law_number, evSs_cons, h0]
      simp [hcp, bools, bools_map, Function.comp_def, hq]
/-! ### atoms of texts -/
def raT (t : List Nat) : Option Val := if t = [43] then some (.bl true) else if t = [45] then some (.bl false) else if t = [46] then some (.str []) else if wordS t then some (.str t) else (rwT t).map .int
theorem signs_ix {z : List Nat} : keyIx (.str z) [.str [43], .str [45], .str [46]] = if z = [43] then some 0 else if z = [45] then some 1 else if z = [46] then some 2 else none := by
  by_cases h1 : z = [43]
  · subst h1; simp [keyIx, eqD]
  · by_cases h2 : z = [45]
    · subst h2; simp [keyIx, eqD]
    · by_cases h3 : z = [46]
      · subst h3; simp [keyIx, eqD]
      · simp [keyIx, eqD, h1, h2, h3, Ne.symm h1, Ne.symm h2, Ne.symm h3]
theorem c_read_atom (t : List Nat) (ht : t.length ≤ line) : callF (Tr rep) (k + 2) 6 [.str t] st = out (raT t) st := by
  have hw := c_is_word (rep := rep) (k := k) (st := []) (.str t) rfl (by simpa [small] using ht)
  have hr := c_read_whole (rep := rep) (k := k) (st := []) t ht
  rw [callF_succ (d := d_read_atom) rfl]
  by_cases h1 : t = [43]
  · subst h1
    exact pure_ret (s := []) rfl rfl rfl (by simp [closedAll, Val.closed]) (by simp [d_read_atom, env0, signs_ix]) rfl
  · by_cases h2 : t = [45]
    · subst h2
      exact pure_ret (s := []) rfl rfl rfl (by simp [closedAll, Val.closed]) (by simp [d_read_atom, env0, signs_ix]) rfl
    · by_cases h3 : t = [46]
      · subst h3
        exact pure_ret (s := []) rfl rfl rfl (by simp [closedAll, Val.closed]) (by simp [d_read_atom, env0, signs_ix]) rfl
      · unfold raT
        rw [if_neg h1, if_neg h2, if_neg h3]
        cases hws : wordS t with
        | true => exact pure_ret (s := []) rfl rfl rfl (by simp [closedAll, Val.closed]) (by simp [d_read_atom, env0, signs_ix, h1, h2, h3, hw, isWord, hws]) rfl
        | false =>
          rw [if_neg (by simp)]
          cases hq : rwT t with
          | some i => exact pure_ret (s := []) rfl rfl rfl (by simp [closedAll, Val.closed]) (by simp [d_read_atom, env0, signs_ix, h1, h2, h3, hw, isWord, hws, hr, hq]) rfl
          | none => exact pure_exc (s := []) (e := [some (.str t)]) rfl rfl rfl (by simp [closedAll, Val.closed]) (by simp [d_read_atom, env0, signs_ix, h1, h2, h3, hw, isWord, hws, hr, hq])
end Nt
end
section
set_option linter.all false
set_option maxRecDepth 100000
set_option maxHeartbeats 4000000
/-! k53, the plain part: the reader. -/
namespace Nt
open Nl
variable {rep : Val → List Nat} {st : Store} {k : Nat}
structure RdS where
  rows : List (List Val)
  rdy : Bool
  told : List Val
def itemP (v : Val) (s : RdS) : Option RdS := if s.rdy then some (match s.rows with | [] => ⟨[], false, s.told ++ [v]⟩ | r :: R => ⟨(r ++ [v]) :: R, false, s.told⟩) else none
def openP (s : RdS) : Option RdS := if s.rdy && decide (s.rows.length < 1000) then some ⟨[] :: s.rows, true, s.told⟩ else none
def closeP (s : RdS) : Option RdS := match s.rows with
  | [] => none
  | r :: R => if s.rdy && !r.isEmpty then none else itemP (.tup r) ⟨R, true, s.told⟩
def commaP (s : RdS) : Option RdS := if s.rdy || s.rows.isEmpty then none else some ⟨s.rows, true, s.told⟩
def bdd (B : Nat) (s : RdS) : Prop := (∀ r ∈ s.rows, r.length ≤ B) ∧ s.told.length ≤ B ∧ s.rows.length ≤ B
structure RdR (s : RdS) (ids : List Nat) (st : Store) : Prop where
  h0 : st[0]? = some (.ins 0 [0, 1, 2] [.ref 1, .bl s.rdy, .ref 2])
  h1 : st[1]? = some (.lst (ids.reverse.map .ref))
  h2 : st[2]? = some (.lst s.told)
  nd : ids.Nodup
  len : ids.length = s.rows.length
  row : ∀ (j i : Nat) (r : List Val), ids[j]? = some i → s.rows[j]? = some r → 3 ≤ i ∧ st[i]? = some (.lst r)
theorem idx_last {A : List Val} {x : Val} : idxV (.lst (A ++ [x])) (.int (-1)) = some x := by
  have h : ixOf (A ++ [x]).length (-1) = some A.length := by
    unfold ixOf
    rw [if_neg (by decide), if_pos (by simp; omega)]
    congr 1
    simp only [List.length_append, List.length_cons, List.length_nil]
    omega
  simp only [idxV, h, Option.bind_some]
  simp
theorem getElem_lt {s : Store} {i : Nat} {o : Ob} (h : s[i]? = some o) : i < s.length := (List.getElem?_eq_some_iff.mp h).1
theorem set_get_ne {s : Store} {i j : Nat} {o : Ob} (h : i ≠ j) : (s.set i o)[j]? = s[j]? := List.getElem?_set_ne h
theorem set_get {s : Store} {i : Nat} {o p : Ob} (h : s[i]? = some p) : (s.set i o)[i]? = some o := List.getElem?_set_self (getElem_lt h)
/-- a written flag -/
theorem set_rdy {T : Tab} {cl mk : Nat → List Val → Store → Res Val} {env : Env} {s : Store} {b b' : Bool} {v : Val} {e : Ex} (he : ev T cl mk e env s = .ok (.bl b') s) (h : env[0]? = some (some (.ref 0))) (h0 : s[0]? = some (.ins 0 [0, 1, 2] [.ref 1, .bl b, .ref 2])) :
    evS T cl mk (.asg (.fld (.var 0) 1) e) env s = .next env (s.set 0 (.ins 0 [0, 1, 2] [.ref 1, .bl b', .ref 2])) := by
  simp [he, h, setFldV, h0, putF]
theorem fld_at {T : Tab} {cl mk : Nat → List Val → Store → Res Val} {env : Env} {s : Store} {b : Bool} {x : Nat} (h : env[x]? = some (some (.ref 0))) (h0 : s[0]? = some (.ins 0 [0, 1, 2] [.ref 1, .bl b, .ref 2])) :
    ev T cl mk (.fld (.var x) 0) env s = .ok (.ref 1) s ∧ ev T cl mk (.fld (.var x) 1) env s = .ok (.bl b) s ∧ ev T cl mk (.fld (.var x) 2) env s = .ok (.ref 2) s := by
  refine ⟨?_, ?_, ?_⟩ <;> simp [h, fldV, h0, getF]
theorem m_item {s : RdS} {ids : List Nat} {B : Nat} (v : Val) (R : RdR s ids st) (hb : bdd B s) (hB : B < 16000000) : match itemP v s with
    | some s' => ∃ st', callF (Tr rep) (k + 1) 9 [.ref 0, v] st = .ok .non st' ∧ RdR s' ids st' ∧ st'.length = st.length
    | none => ∃ st', callF (Tr rep) (k + 1) 9 [.ref 0, v] st = .exc 1 noData st' := by
  have hl : line = 16777216 := rfl
  rw [callF_succ (d := d_DataReader_item) rfl, open_run rfl rfl (by simp [closedAll, Val.closed])]
  have h0 := R.h0
  obtain ⟨f0, f1, f2⟩ := fld_at (T := Tr rep) (cl := callF (Tr rep) k) (mk := mkN (Tr rep) k) (env := [some (.ref 0), some v]) (x := 0) rfl h0
  show match itemP v s with
    | some s' => ∃ st', (match evSs (Tr rep) (callF (Tr rep) k) (mkN (Tr rep) k) d_DataReader_item.body [some (.ref 0), some v] st with | .ret v s => Res.ok v (trim st.length v s) | .next _ s => .ok .non (trim st.length .non s) | .exc c m _ s => .exc c m (trim st.length .non s) | _ => .stuck) = .ok .non st' ∧ RdR s' ids st' ∧ st'.length = st.length
    | none => ∃ st', (match evSs (Tr rep) (callF (Tr rep) k) (mkN (Tr rep) k) d_DataReader_item.body [some (.ref 0), some v] st with | .ret v s => Res.ok v (trim st.length v s) | .next _ s => .ok .non (trim st.length .non s) | .exc c m _ s => .exc c m (trim st.length .non s) | _ => .stuck) = .exc 1 noData st'
  unfold itemP
  cases hr : s.rdy with
  | false =>
    rw [hr] at f1 h0
    rw [if_neg (by simp)]
    refine ⟨trim st.length .non st, ?_⟩
    simp [d_DataReader_item, fldV, h0, getF]
  | true =>
    rw [hr] at f1 h0
    rw [if_pos rfl]
    cases hrows : s.rows with
    | nil =>
      have hids : ids = [] := List.length_eq_zero_iff.mp (by rw [R.len, hrows]; rfl)
      subst hids
      have h1 : st[1]? = some (.lst []) := R.h1
      have a1 := ev_app (T := Tr rep) (cl := callF (Tr rep) k) (mk := mkN (Tr rep) k) (o := .fld (.var 0) 2) (e := .var 1) (env := [some (.ref 0), some v]) (s := st) (A := s.told) (v := v) f2 (by simp) ⟨_, R.h2⟩ R.h2 (by have := hb.2.1; omega)
      have h0' : (st.set 2 (.lst (s.told ++ [v])))[0]? = some (.ins 0 [0, 1, 2] [.ref 1, .bl true, .ref 2]) := by rw [set_get_ne (by decide)]; exact h0
      have a2 := set_rdy (T := Tr rep) (cl := callF (Tr rep) k) (mk := mkN (Tr rep) k) (e := .cst (.bl false)) (b' := false) (env := [some (.ref 0), some v]) (v := v) (by simp) rfl h0'
      have hbody : evSs (Tr rep) (callF (Tr rep) k) (mkN (Tr rep) k) d_DataReader_item.body [some (.ref 0), some v] st = .next [some (.ref 0), some v] ((st.set 2 (.lst (s.told ++ [v]))).set 0 (.ins 0 [0, 1, 2] [.ref 1, .bl false, .ref 2])) := by
        rw [d_DataReader_item]
        simp only [evSs_cons, evS_ifs, ev_not, f1, Res.bind_ok, asBool_bl, Bool.not_true, Res.into_ok, Bool.false_eq_true, if_false, evSs_nil, RS.then_next, ev_cmp, ev_bi, evs_cons, evs_nil, f0, List.map_cons, List.map_nil, rdI_ref, h1, bi_lenL, Res.opt_some, rd_int, ev_cst, cmp_gt, Option.map_some, List.length_nil]
        have hz : decide ((0 : Int) < ((0 : Nat) : Int)) = false := rfl
        simp only [evS_ex, a1, Res.into_ok, RS.then_next, hz, Bool.false_eq_true, if_false, a2]
      rw [hbody]
      refine ⟨_, rfl, ?_, ?_⟩
      · rw [trim_same (by simp)]
        refine ⟨by rw [set_get h0'], ?_, ?_, List.nodup_nil, rfl, fun j i r e => by simp at e⟩
        · rw [set_get_ne (by decide), set_get_ne (by decide)]; exact R.h1
        · rw [set_get_ne (by decide), set_get R.h2]
      · rw [trim_same (by simp)]; simp
    | cons r R' =>
      cases ids with
      | nil => have := R.len; rw [hrows] at this; cases this
      | cons i I =>
        obtain ⟨hi3, hri⟩ := R.row 0 i r rfl (by rw [hrows]; rfl)
        have h1 := R.h1
        simp only [List.reverse_cons, List.map_append, List.map_cons, List.map_nil] at h1
        have hix : ev (Tr rep) (callF (Tr rep) k) (mkN (Tr rep) k) (.idx (.fld (.var 0) 0) (.neg (.cst (.int 1)))) [some (.ref 0), some v] st = .ok (.ref i) st := by
          rw [ev_idx, f0, Res.bind_ok]
          simp only [ev_neg, ev_cst, Res.bind_ok, rd_ref, h1, idx_last, Res.opt_some]
        have a1 := ev_app (T := Tr rep) (cl := callF (Tr rep) k) (mk := mkN (Tr rep) k) (o := .idx (.fld (.var 0) 0) (.neg (.cst (.int 1)))) (e := .var 1) (env := [some (.ref 0), some v]) (s := st) (A := r) (v := v) hix (by simp) ⟨_, hri⟩ hri (by have := hb.1 r (by rw [hrows]; exact List.mem_cons_self); omega)
        have h0' : (st.set i (.lst (r ++ [v])))[0]? = some (.ins 0 [0, 1, 2] [.ref 1, .bl true, .ref 2]) := by rw [set_get_ne (by omega)]; exact h0
        have a2 := set_rdy (T := Tr rep) (cl := callF (Tr rep) k) (mk := mkN (Tr rep) k) (e := .cst (.bl false)) (b' := false) (env := [some (.ref 0), some v]) (v := v) (by simp) rfl h0'
        have hgt : decide ((0 : Int) < ((I.reverse.map Val.ref ++ [Val.ref i]).length : Int)) = true := decide_eq_true (by simp only [List.length_append, List.length_cons, List.length_nil]; omega)
        have hbody : evSs (Tr rep) (callF (Tr rep) k) (mkN (Tr rep) k) d_DataReader_item.body [some (.ref 0), some v] st = .next [some (.ref 0), some v] ((st.set i (.lst (r ++ [v]))).set 0 (.ins 0 [0, 1, 2] [.ref 1, .bl false, .ref 2])) := by
          rw [d_DataReader_item]
          simp only [evSs_cons, evS_ifs, ev_not, f1, Res.bind_ok, asBool_bl, Bool.not_true, Res.into_ok, Bool.false_eq_true, if_false, evSs_nil, RS.then_next, ev_cmp, ev_bi, evs_cons, evs_nil, f0, List.map_cons, List.map_nil, rdI_ref, h1, bi_lenL, Res.opt_some, rd_int, ev_cst, cmp_gt, Option.map_some, hgt, if_true]
          simp only [evS_ex, a1, Res.into_ok, RS.then_next, hgt, if_true, a2]
        rw [hbody]
        refine ⟨_, rfl, ?_, ?_⟩
        · rw [trim_same (by simp)]
          refine ⟨by rw [set_get h0'], ?_, ?_, R.nd, by simpa [hrows] using R.len, fun j i' r' e1 e2 => ?_⟩
          · rw [set_get_ne (by decide), set_get_ne (by omega)]; exact R.h1
          · rw [set_get_ne (by decide), set_get_ne (by omega)]; exact R.h2
          · cases j with
            | zero =>
              simp at e1 e2
              subst e1 e2
              exact ⟨hi3, by rw [set_get_ne (by omega), set_get hri]⟩
            | succ j =>
              obtain ⟨q1, q2⟩ := R.row (j + 1) i' r' e1 (by rw [hrows]; exact e2)
              have : i' ≠ i := fun z => by
                subst z
                have nd := (List.nodup_cons.mp R.nd).1
                exact nd (List.mem_of_getElem? (by simpa using e1))
              exact ⟨q1, by rw [set_get_ne (by omega), set_get_ne (Ne.symm this)]; exact q2⟩
        · rw [trim_same (by simp)]; simp
theorem len_at {T : Tab} {cl mk : Nat → List Val → Store → Res Val} {e : Ex} {env : Env} {s : Store} {a : Nat} {A : List Val} (he : ev T cl mk e env s = .ok (.ref a) s) (h : s[a]? = some (.lst A)) : ev T cl mk (.bi .len [e]) env s = .ok (.int (A.length : Int)) s := by
  simp only [ev_bi, evs_cons, evs_nil, he, Res.bind_ok, List.map_cons, List.map_nil, rdI_ref, h, bi_lenL, Res.opt_some]
theorem m_open {s : RdS} {ids : List Nat} (R : RdR s ids st) (hn : 3 ≤ st.length) : match openP s with
    | some s' => ∃ ids' st', callF (Tr rep) (k + 1) 10 [.ref 0] st = .ok .non st' ∧ RdR s' ids' st' ∧ 3 ≤ st'.length ∧ ∀ n, n ≤ st.length → 3 ≤ n → trim n .non st' = st'
    | none => ∃ st', callF (Tr rep) (k + 1) 10 [.ref 0] st = .exc 1 noData st' := by
  have hl : line = 16777216 := rfl
  rw [callF_succ (d := d_DataReader_open_one) rfl]
  obtain ⟨f0, f1, f2⟩ := fld_at (T := Tr rep) (cl := callF (Tr rep) k) (mk := mkN (Tr rep) k) (env := [some (.ref 0)]) (x := 0) rfl R.h0
  have fl := len_at f0 R.h1
  have hlen : (ids.reverse.map Val.ref).length = s.rows.length := by simp [R.len]
  rw [hlen] at fl
  unfold openP
  have cond : ev (Tr rep) (callF (Tr rep) k) (mkN (Tr rep) k) (.or (.not (.fld (.var 0) 1)) (.cmp .ge (.bi .len [.fld (.var 0) 0]) (.glo 3))) [some (.ref 0)] st = .ok (.bl (!(s.rdy && decide (s.rows.length < 1000)))) st := by
    rw [ev_or, ev_not, f1]
    cases s.rdy with
    | false => simp only [Res.bind_ok, asBool_bl, Bool.not_false, if_true, Bool.false_and]
    | true =>
      have : (decide ((1000 : Int) ≤ (s.rows.length : Int))) = !decide (s.rows.length < 1000) := by
        by_cases h : s.rows.length < 1000
        · rw [decide_eq_true h, decide_eq_false (by omega)]; rfl
        · rw [decide_eq_false h, decide_eq_true (by omega)]; rfl
      simp only [Res.bind_ok, asBool_bl, Bool.not_true, Bool.false_eq_true, if_false, Bool.true_and, ev_cmp, fl, ev_glo, glo3, Res.opt_some, rd_int, cmp_ge, Option.map_some, this]
  cases hc : (s.rdy && decide (s.rows.length < 1000)) with
  | false =>
    rw [if_neg (by simp)]
    refine ⟨_, open_exc (e := [some (.ref 0)]) (s := st) rfl rfl (by simp [closedAll, Val.closed]) ?_⟩
    show evSs _ _ _ d_DataReader_open_one.body [some (.ref 0)] st = _
    rw [hc] at cond
    rw [d_DataReader_open_one]
    simp only [evSs_cons, evS_ifs, cond, Res.bind_ok, asBool_bl, Bool.not_false, Res.into_ok, if_true, evS_rai, ev_cst, RS.then_exc]
  | true =>
    rw [if_pos rfl]
    simp only [Bool.and_eq_true, decide_eq_true_eq] at hc
    have hc' : (s.rdy && decide (s.rows.length < 1000)) = true := by simp [hc]
    rw [hc'] at cond
    have h1' : (st ++ [Ob.lst []])[1]? = some (.lst (ids.reverse.map .ref)) := by rw [List.getElem?_append_left (by omega)]; exact R.h1
    have a1 := ev_app (T := Tr rep) (cl := callF (Tr rep) k) (mk := mkN (Tr rep) k) (o := .fld (.var 0) 0) (e := .new (.lst [])) (env := [some (.ref 0)]) (s := st ++ [.lst []]) (A := ids.reverse.map .ref) (v := .ref st.length) f0 (by simp) ⟨_, R.h1⟩ h1' (by rw [hlen]; omega)
    have hs1 : ((st ++ [Ob.lst []]).set 1 (.lst (ids.reverse.map .ref ++ [.ref st.length])))[1]? = some (.lst (ids.reverse.map .ref ++ [.ref st.length])) := set_get h1'
    have keep : ∀ n, n ≤ st.length → 3 ≤ n → trim n .non ((st ++ [Ob.lst []]).set 1 (.lst (ids.reverse.map .ref ++ [.ref st.length]))) = ((st ++ [Ob.lst []]).set 1 (.lst (ids.reverse.map .ref ++ [.ref st.length]))) := fun n h1 h2 => by
      refine trim_keep hs1 (by omega) ?_
      simp only [Ob.under]
      have : ∀ l : List Val, underAll n (l ++ [.ref st.length]) = false := fun l => by
        induction l with
        | nil => simp [underAll, Val.under]; omega
        | cons x l ih => simp [underAll, ih]
      exact this _
    refine ⟨st.length :: ids, _, open_next (e := [some (.ref 0)]) (s := (st ++ [Ob.lst []]).set 1 (.lst (ids.reverse.map Val.ref ++ [Val.ref st.length]))) rfl rfl (by simp [closedAll, Val.closed]) ?_, ?_⟩
    · show evSs _ _ _ d_DataReader_open_one.body [some (.ref 0)] st = _
      rw [d_DataReader_open_one]
      simp only [evSs_cons, evS_ifs, cond, Res.bind_ok, asBool_bl, Bool.not_true, Res.into_ok, Bool.false_eq_true, if_false, evSs_nil, RS.then_next, evS_ex, a1]
    · rw [keep _ (Nat.le_refl _) hn]
      refine ⟨⟨?_, ?_, ?_, ?_, ?_, ?_⟩, by simp; omega, keep⟩
      · rw [set_get_ne (by decide), List.getElem?_append_left (by omega)]
        have := R.h0
        rw [hc.1] at this
        exact this
      · rw [hs1]; simp
      · rw [set_get_ne (by decide), List.getElem?_append_left (by omega)]; exact R.h2
      · refine List.nodup_cons.mpr ⟨fun m => ?_, R.nd⟩
        obtain ⟨j, hj, e⟩ := List.mem_iff_getElem.mp m
        have hj2 : j < s.rows.length := by rw [← R.len]; exact hj
        obtain ⟨_, q⟩ := R.row j _ _ (List.getElem?_eq_getElem hj) (List.getElem?_eq_getElem hj2)
        have := getElem_lt q
        omega
      · simp [R.len]
      · intro j i r e1 e2
        cases j with
        | zero =>
          simp at e1 e2
          subst e1 e2
          exact ⟨hn, by rw [set_get_ne (by omega), List.getElem?_append_right (Nat.le_refl _)]; simp⟩
        | succ j =>
          obtain ⟨q1, q2⟩ := R.row j i r (by simpa using e1) (by simpa using e2)
          exact ⟨q1, by rw [set_get_ne (by omega), List.getElem?_append_left (getElem_lt q2)]; exact q2⟩
theorem m_comma {s : RdS} {ids : List Nat} (R : RdR s ids st) : match commaP s with
    | some s' => ∃ st', callF (Tr rep) (k + 1) 12 [.ref 0] st = .ok .non st' ∧ RdR s' ids st' ∧ st'.length = st.length
    | none => ∃ st', callF (Tr rep) (k + 1) 12 [.ref 0] st = .exc 1 noData st' := by
  rw [callF_succ (d := d_DataReader_comma) rfl]
  obtain ⟨f0, f1, f2⟩ := fld_at (T := Tr rep) (cl := callF (Tr rep) k) (mk := mkN (Tr rep) k) (env := [some (.ref 0)]) (x := 0) rfl R.h0
  have fl := len_at f0 R.h1
  have hlen : (ids.reverse.map Val.ref).length = s.rows.length := by simp [R.len]
  rw [hlen] at fl
  have cond : ev (Tr rep) (callF (Tr rep) k) (mkN (Tr rep) k) (.or (.fld (.var 0) 1) (.cmp .eq (.bi .len [.fld (.var 0) 0]) (.cst (.int 0)))) [some (.ref 0)] st = .ok (.bl (s.rdy || s.rows.isEmpty)) st := by
    rw [ev_or, f1]
    cases s.rdy with
    | true => simp only [Res.bind_ok, asBool_bl, if_true, Bool.true_or]
    | false =>
      have : ((s.rows.length : Int) == 0) = s.rows.isEmpty := by cases s.rows <;> simp <;> omega
      simp only [Res.bind_ok, asBool_bl, Bool.false_eq_true, if_false, Bool.false_or, ev_cmp, fl, ev_cst, rd_int, cmp_eq, eqV_int, Option.map_some, Res.opt_some, this]
  unfold commaP
  cases hc : (s.rdy || s.rows.isEmpty) with
  | true =>
    rw [if_pos rfl]
    refine ⟨_, open_exc (e := [some (.ref 0)]) (s := st) rfl rfl (by simp [closedAll, Val.closed]) ?_⟩
    show evSs _ _ _ d_DataReader_comma.body [some (.ref 0)] st = _
    rw [hc] at cond
    rw [d_DataReader_comma]
    simp only [evSs_cons, evS_ifs, cond, Res.bind_ok, asBool_bl, Res.into_ok, if_true, evS_rai, ev_cst, RS.then_exc]
  | false =>
    rw [if_neg (by simp)]
    rw [hc] at cond
    have a2 := set_rdy (T := Tr rep) (cl := callF (Tr rep) k) (mk := mkN (Tr rep) k) (e := .cst (.bl true)) (b' := true) (env := [some (.ref 0)]) (v := .non) (by simp) rfl R.h0
    refine ⟨_, open_next (e := [some (.ref 0)]) (s := st.set 0 (.ins 0 [0, 1, 2] [.ref 1, .bl true, .ref 2])) rfl rfl (by simp [closedAll, Val.closed]) ?_, ?_⟩
    · show evSs _ _ _ d_DataReader_comma.body [some (.ref 0)] st = _
      rw [d_DataReader_comma]
      simp only [evSs_cons, evS_ifs, cond, Res.bind_ok, asBool_bl, Res.into_ok, Bool.false_eq_true, if_false, evSs_nil, RS.then_next, a2]
    · rw [trim_same (by simp)]
      refine ⟨⟨set_get R.h0, by rw [set_get_ne (by decide)]; exact R.h1, by rw [set_get_ne (by decide)]; exact R.h2, R.nd, R.len, fun j i r e1 e2 => ?_⟩, by simp⟩
      obtain ⟨q1, q2⟩ := R.row j i r e1 e2
      exact ⟨q1, by rw [set_get_ne (by omega)]; exact q2⟩
theorem m_close {s : RdS} {ids : List Nat} {B : Nat} (R : RdR s ids st) (hb : bdd B s) (hB : B < 16000000) : match closeP s with
    | some s' => ∃ ids' st', callF (Tr rep) (k + 2) 11 [.ref 0] st = .ok .non st' ∧ RdR s' ids' st' ∧ st'.length = st.length
    | none => ∃ st', callF (Tr rep) (k + 2) 11 [.ref 0] st = .exc 1 noData st' := by
  rw [callF_succ (d := d_DataReader_close_one) rfl]
  obtain ⟨f0, f1, f2⟩ := fld_at (T := Tr rep) (cl := callF (Tr rep) (k + 1)) (mk := mkN (Tr rep) (k + 1)) (env := [some (.ref 0), none]) (x := 0) rfl R.h0
  have fl := len_at f0 R.h1
  have hlen : (ids.reverse.map Val.ref).length = s.rows.length := by simp [R.len]
  rw [hlen] at fl
  unfold closeP
  cases hrows : s.rows with
  | nil =>
    refine ⟨_, open_exc (e := [some (.ref 0), none]) (s := st) rfl rfl (by simp [closedAll, Val.closed]) ?_⟩
    show evSs _ _ _ d_DataReader_close_one.body [some (.ref 0), none] st = _
    rw [hrows] at fl
    rw [d_DataReader_close_one]
    have hz : (((([] : List (List Val)).length : Int)) == 0) = true := rfl
    simp only [evSs_cons, evS_ifs, ev_or, ev_cmp, fl, ev_cst, Res.bind_ok, rd_int, cmp_eq, eqV_int, hz, Option.map_some, Res.opt_some, asBool_bl, if_true, Res.into_ok, evS_rai, RS.then_exc]
  | cons r R' =>
    cases ids with
    | nil => have := R.len; rw [hrows] at this; cases this
    | cons i I =>
      obtain ⟨hi3, hri⟩ := R.row 0 i r rfl (by rw [hrows]; rfl)
      have h1 := R.h1
      simp only [List.reverse_cons, List.map_append, List.map_cons, List.map_nil] at h1
      have hix : ev (Tr rep) (callF (Tr rep) (k + 1)) (mkN (Tr rep) (k + 1)) (.idx (.fld (.var 0) 0) (.neg (.cst (.int 1)))) [some (.ref 0), none] st = .ok (.ref i) st := by
        rw [ev_idx, f0, Res.bind_ok]
        simp only [ev_neg, ev_cst, Res.bind_ok, rd_ref, h1, idx_last, Res.opt_some]
      have fl2 := len_at hix hri
      have cond : ev (Tr rep) (callF (Tr rep) (k + 1)) (mkN (Tr rep) (k + 1)) (.or (.cmp .eq (.bi .len [.fld (.var 0) 0]) (.cst (.int 0))) (.and (.fld (.var 0) 1) (.cmp .gt (.bi .len [.idx (.fld (.var 0) 0) (.neg (.cst (.int 1)))]) (.cst (.int 0))))) [some (.ref 0), none] st = .ok (.bl (s.rdy && !r.isEmpty)) st := by
        have hz : ((s.rows.length : Int) == 0) = false := by rw [beq_eq_false_iff_ne, hrows]; simp only [List.length_cons]; omega
        have hg : decide ((0 : Int) < (r.length : Int)) = !r.isEmpty := by cases r <;> simp
        rw [ev_or, ev_cmp, fl]
        simp only [ev_cst, Res.bind_ok, rd_int, cmp_eq, eqV_int, hz, Option.map_some, Res.opt_some, asBool_bl, Bool.false_eq_true, if_false, ev_and, f1]
        cases s.rdy with
        | false => simp only [Bool.false_eq_true, if_false, Bool.false_and]
        | true => simp only [if_true, Bool.true_and, ev_cmp, fl2, ev_cst, Res.bind_ok, rd_int, cmp_gt, Option.map_some, Res.opt_some, hg]
      cases hc : (s.rdy && !r.isEmpty) with
      | true =>
        dsimp only
        rw [if_pos hc]
        rw [hc] at cond
        refine ⟨_, open_exc (e := [some (.ref 0), none]) (s := st) rfl rfl (by simp [closedAll, Val.closed]) ?_⟩
        show evSs _ _ _ d_DataReader_close_one.body [some (.ref 0), none] st = _
        rw [d_DataReader_close_one]
        simp only [evSs_cons, evS_ifs, cond, Res.bind_ok, asBool_bl, Res.into_ok, if_true, evS_rai, ev_cst, RS.then_exc]
      | false =>
        dsimp only
        rw [if_neg (by rw [hc]; simp)]
        rw [hc] at cond
        have hpop := ev_pop (T := Tr rep) (cl := callF (Tr rep) (k + 1)) (mk := mkN (Tr rep) (k + 1)) (o := .fld (.var 0) 0) (env := [some (.ref 0), none]) (A := I.reverse.map .ref) (x := .ref i) f0 h1
        have hri1 : (st.set 1 (.lst (I.reverse.map .ref)))[i]? = some (.lst r) := by rw [set_get_ne (by omega)]; exact hri
        have h01 : (st.set 1 (.lst (I.reverse.map .ref)))[0]? = some (.ins 0 [0, 1, 2] [.ref 1, .bl s.rdy, .ref 2]) := by rw [set_get_ne (by decide)]; exact R.h0
        have a2 := set_rdy (T := Tr rep) (cl := callF (Tr rep) (k + 1)) (mk := mkN (Tr rep) (k + 1)) (e := .cst (.bl true)) (b' := true) (env := [some (.ref 0), some (.tup r)]) (v := .non) (by simp) rfl h01
        have R2 : RdR ⟨R', true, s.told⟩ I ((st.set 1 (.lst (I.reverse.map .ref))).set 0 (.ins 0 [0, 1, 2] [.ref 1, .bl true, .ref 2])) := by
          refine ⟨set_get h01, by rw [set_get_ne (by decide), set_get R.h1], by rw [set_get_ne (by decide), set_get_ne (by decide)]; exact R.h2, (List.nodup_cons.mp R.nd).2, by have := R.len; rw [hrows] at this; simpa using this, fun j i' r' e1 e2 => ?_⟩
          obtain ⟨q1, q2⟩ := R.row (j + 1) i' r' (by simpa using e1) (by rw [hrows]; simpa using e2)
          exact ⟨q1, by rw [set_get_ne (by omega), set_get_ne (by omega)]; exact q2⟩
        have hb2 : bdd B ⟨R', true, s.told⟩ := ⟨fun q hq => hb.1 q (by rw [hrows]; exact List.mem_cons_of_mem _ hq), hb.2.1, by have := hb.2.2; rw [hrows] at this; simp at this ⊢; omega⟩
        have hit := m_item (rep := rep) (k := k) (.tup r) R2 hb2 hB
        have hcls : (clsV ((st.set 1 (.lst (I.reverse.map .ref))).set 0 (.ins 0 [0, 1, 2] [.ref 1, .bl true, .ref 2])) (.ref 0)) = some 0 := by
          simp only [clsV]
          rw [set_get h01]
        have hlk : look2 0 3 (Tr rep).mth = some 9 := rfl
        cases hp : itemP (.tup r) ⟨R', true, s.told⟩ with
        | some s' =>
          rw [hp] at hit
          obtain ⟨st', c1, c2, c3⟩ := hit
          refine ⟨I, _, open_next (e := [some (.ref 0), some (.tup r)]) (s := st') rfl rfl (by simp [closedAll, Val.closed]) ?_, ?_⟩
          · show evSs _ _ _ d_DataReader_close_one.body [some (.ref 0), none] st = _
            rw [d_DataReader_close_one]
            simp only [evSs_cons, evS_ifs, cond, Res.bind_ok, asBool_bl, Res.into_ok, Bool.false_eq_true, if_false, evSs_nil, RS.then_next, evS_asg, ev_bi, evs_cons, evs_nil, hpop, List.map_cons, List.map_nil, rdI_ref, hri1, bi_tupL, Res.opt_some, putLv_nm, List.set_cons_succ, List.set_cons_zero]
            have a2' := a2
            rw [evS_asg] at a2'
            rw [a2']
            simp only [RS.then_next, evS_ex, ev_met, ev_var, List.getElem?_cons_zero, List.getElem?_cons_succ, Res.bind_ok, hcls, Option.bind_some, hlk, evs_cons, evs_nil, c1, Res.into_ok]
          · rw [trim_same (by rw [c3]; simp)]
            exact ⟨c2, by rw [c3]; simp⟩
        | none =>
          rw [hp] at hit
          obtain ⟨st', c1⟩ := hit
          refine ⟨_, open_exc (e := [some (.ref 0), some (.tup r)]) (s := st') rfl rfl (by simp [closedAll, Val.closed]) ?_⟩
          show evSs _ _ _ d_DataReader_close_one.body [some (.ref 0), none] st = _
          rw [d_DataReader_close_one]
          simp only [evSs_cons, evS_ifs, cond, Res.bind_ok, asBool_bl, Res.into_ok, Bool.false_eq_true, if_false, evSs_nil, RS.then_next, evS_asg, ev_bi, evs_cons, evs_nil, hpop, List.map_cons, List.map_nil, rdI_ref, hri1, bi_tupL, Res.opt_some, putLv_nm, List.set_cons_succ, List.set_cons_zero]
          have a2' := a2
          rw [evS_asg] at a2'
          rw [a2']
          simp only [RS.then_next, evS_ex, ev_met, ev_var, List.getElem?_cons_zero, List.getElem?_cons_succ, Res.bind_ok, hcls, Option.bind_some, hlk, evs_cons, evs_nil, c1, Res.into_exc, RS.then_exc]
def takeP (p : List Nat) (s : RdS) : Option RdS := if p = [91] then openP s else if p = [93] then closeP s else if p = [44] then commaP s else (raT p).bind fun v => itemP v s
theorem m_take {s : RdS} {ids : List Nat} {B : Nat} (p : List Nat) (hp : p.length ≤ line) (R : RdR s ids st) (hb : bdd B s) (hB : B < 16000000) (hn : 3 ≤ st.length) : match takeP p s with
    | some s' => ∃ ids' st', callF (Tr rep) (k + 3) 13 [.ref 0, .str p] st = .ok .non st' ∧ RdR s' ids' st' ∧ 3 ≤ st'.length
    | none => ∃ st', callF (Tr rep) (k + 3) 13 [.ref 0, .str p] st = .exc 1 noData st' := by
  rw [callF_succ (d := d_DataReader_take) rfl]
  have hcls : clsV st (.ref 0) = some 0 := by simp only [clsV]; rw [R.h0]
  have l4 : look2 0 4 (Tr rep).mth = some 10 := rfl
  have l1 : look2 0 1 (Tr rep).mth = some 11 := rfl
  have l2 : look2 0 2 (Tr rep).mth = some 12 := rfl
  have l3 : look2 0 3 (Tr rep).mth = some 9 := rfl
  have e0 : env0 d_DataReader_take [.ref 0, .str p] = [some (.ref 0), some (.str p)] := rfl
  unfold takeP
  by_cases h1 : p = [91]
  · rw [if_pos h1]
    subst h1
    have hm := m_open (rep := rep) (k := k + 1) R hn
    cases hq : openP s with
    | some s' =>
      rw [hq] at hm
      obtain ⟨ids', st', c1, c2, c3, c4⟩ := hm
      refine ⟨ids', _, open_next (e := [some (.ref 0), some (.str [91])]) (s := st') rfl rfl (by simp [closedAll, Val.closed]) ?_, ?_⟩
      · rw [e0, d_DataReader_take]; simp [hcls, l4, c1]
      · rw [c4 _ (Nat.le_refl _) hn]; exact ⟨c2, c3⟩
    | none =>
      rw [hq] at hm
      obtain ⟨st', c1⟩ := hm
      refine ⟨_, open_exc (e := [some (.ref 0), some (.str [91])]) (s := st') rfl rfl (by simp [closedAll, Val.closed]) ?_⟩
      rw [e0, d_DataReader_take]; simp [hcls, l4, c1]
  · rw [if_neg h1]
    by_cases h2 : p = [93]
    · rw [if_pos h2]
      subst h2
      have hm := m_close (rep := rep) (k := k) R hb hB
      cases hq : closeP s with
      | some s' =>
        rw [hq] at hm
        obtain ⟨ids', st', c1, c2, c3⟩ := hm
        refine ⟨ids', _, open_next (e := [some (.ref 0), some (.str [93])]) (s := st') rfl rfl (by simp [closedAll, Val.closed]) ?_, ?_⟩
        · rw [e0, d_DataReader_take]; simp [hcls, l1, c1]
        · rw [trim_same c3]; exact ⟨c2, by omega⟩
      | none =>
        rw [hq] at hm
        obtain ⟨st', c1⟩ := hm
        refine ⟨_, open_exc (e := [some (.ref 0), some (.str [93])]) (s := st') rfl rfl (by simp [closedAll, Val.closed]) ?_⟩
        rw [e0, d_DataReader_take]; simp [hcls, l1, c1]
    · rw [if_neg h2]
      by_cases h3 : p = [44]
      · rw [if_pos h3]
        subst h3
        have hm := m_comma (rep := rep) (k := k + 1) R
        cases hq : commaP s with
        | some s' =>
          rw [hq] at hm
          obtain ⟨st', c1, c2, c3⟩ := hm
          refine ⟨ids, _, open_next (e := [some (.ref 0), some (.str [44])]) (s := st') rfl rfl (by simp [closedAll, Val.closed]) ?_, ?_⟩
          · rw [e0, d_DataReader_take]; simp [hcls, l2, c1]
          · rw [trim_same c3]; exact ⟨c2, by omega⟩
        | none =>
          rw [hq] at hm
          obtain ⟨st', c1⟩ := hm
          refine ⟨_, open_exc (e := [some (.ref 0), some (.str [44])]) (s := st') rfl rfl (by simp [closedAll, Val.closed]) ?_⟩
          rw [e0, d_DataReader_take]; simp [hcls, l2, c1]
      · rw [if_neg h3]
        have hra := c_read_atom (rep := rep) (k := k) (st := st) p hp
        cases ha : raT p with
        | none =>
          rw [ha] at hra
          refine ⟨_, open_exc (e := [some (.ref 0), some (.str p)]) (s := st) rfl rfl (by simp [closedAll, Val.closed]) ?_⟩
          rw [e0, d_DataReader_take]; simp [hcls, l3, h1, h2, h3, hra]
        | some v =>
          rw [ha] at hra
          have hm := m_item (rep := rep) (k := k + 1) v R hb hB
          rw [Option.bind_some]
          cases hq : itemP v s with
          | some s' =>
            rw [hq] at hm
            obtain ⟨st', c1, c2, c3⟩ := hm
            refine ⟨ids, _, open_next (e := [some (.ref 0), some (.str p)]) (s := st') rfl rfl (by simp [closedAll, Val.closed]) ?_, ?_⟩
            · rw [e0, d_DataReader_take]; simp [hcls, l3, h1, h2, h3, hra, c1]
            · rw [trim_same c3]; exact ⟨c2, by omega⟩
          | none =>
            rw [hq] at hm
            obtain ⟨st', c1⟩ := hm
            refine ⟨_, open_exc (e := [some (.ref 0), some (.str p)]) (s := st') rfl rfl (by simp [closedAll, Val.closed]) ?_⟩
            rw [e0, d_DataReader_take]; simp [hcls, l3, h1, h2, h3, hra, c1]
end Nt
end
section
set_option linter.all false
set_option maxRecDepth 100000
set_option maxHeartbeats 4000000
/-! k53, the plain part: read_data. -/
namespace Nt
open Nl
variable {rep : Val → List Nat} {st : Store} {k : Nat}
def runP : List (List Nat) → RdS → Option RdS
  | [], s => some s
  | p :: r, s => (takeP p s).bind (runP r)
def endP (s : RdS) : Option Val := match s.rows, s.told with
  | [], [v] => some v
  | _, _ => none
def rdT (t : List Nat) : Option Val := (runP (P [] t) ⟨[], true, []⟩).bind endP
theorem c_init : callF (Tr rep) (k + 1) 8 [.ref 0] [.ins 0 [] []] = .ok .non [.ins 0 [0, 1, 2] [.ref 1, .bl true, .ref 2], .lst [], .lst []] := by
  rw [callF_succ (d := d_DataReader___init__) rfl]
  rw [open_next (e := [some (.ref 0)]) (s := [.ins 0 [0, 1, 2] [.ref 1, .bl true, .ref 2], .lst [], .lst []]) rfl rfl (by simp [closedAll, Val.closed]) (by simp [d_DataReader___init__, env0, setFldV, putF])]
  rfl
theorem c_mk : mkN (Tr rep) (k + 2) 0 [] [] = .ok (.ref 0) [.ins 0 [0, 1, 2] [.ref 1, .bl true, .ref 2], .lst [], .lst []] := by
  have h : look1 0 (Tr rep).ini = some 8 := rfl
  show mkOf (Tr rep) (callF (Tr rep) (k + 1)) 0 [] [] = _
  unfold mkOf
  rw [h]
  show (match callF (Tr rep) (k + 1) 8 [.ref 0] [.ins 0 [] []] with
    | .ok .non s => Res.ok (Val.ref 0) s
    | .exc c m s => .exc c m s
    | _ => .stuck) = _
  rw [c_init]
theorem bdd_mono {B : Nat} {s : RdS} (h : bdd B s) : bdd (B + 1) s := ⟨fun r hr => Nat.le_succ_of_le (h.1 r hr), Nat.le_succ_of_le h.2.1, Nat.le_succ_of_le h.2.2⟩
theorem item_bdd {B : Nat} {v : Val} {s s' : RdS} (h : bdd B s) (e : itemP v s = some s') : bdd (B + 1) s' := by
  unfold itemP at e
  split at e
  · cases e
    obtain ⟨b1, b2, b3⟩ := h
    cases hr : s.rows with
    | nil => exact ⟨fun r hr => (nomatch hr), by simp; omega, by simp⟩
    | cons r R =>
      rw [hr] at b1 b3
      refine ⟨fun q hq => ?_, by simp; omega, by simpa using Nat.le_succ_of_le b3⟩
      rcases List.mem_cons.mp hq with rfl | hq
      · have := b1 r List.mem_cons_self; simp; omega
      · exact Nat.le_succ_of_le (b1 q (List.mem_cons_of_mem _ hq))
  · cases e
theorem take_bdd {B : Nat} {p : List Nat} {s s' : RdS} (h : bdd B s) (e : takeP p s = some s') : bdd (B + 1) s' := by
  unfold takeP at e
  split at e
  · unfold openP at e
    split at e
    · cases e
      obtain ⟨b1, b2, b3⟩ := h
      refine ⟨fun q hq => ?_, Nat.le_succ_of_le b2, by simpa using b3⟩
      rcases List.mem_cons.mp hq with rfl | hq
      · simp
      · exact Nat.le_succ_of_le (b1 q hq)
    · cases e
  · split at e
    · unfold closeP at e
      split at e
      · cases e
      · rename_i r R hr
        split at e
        · cases e
        · refine item_bdd (s := ⟨R, true, s.told⟩) ⟨fun q hq => h.1 q (by rw [hr]; exact List.mem_cons_of_mem _ hq), h.2.1, ?_⟩ e
          have := h.2.2
          rw [hr] at this
          simp at this ⊢
          omega
    · split at e
      · unfold commaP at e
        split at e
        · cases e
        · cases e
          exact bdd_mono h
      · cases ha : raT p with
        | none => rw [ha] at e; cases e
        | some v => rw [ha] at e; exact item_bdd h e
/-- all values are plain data -/
def gcl (s : RdS) : Prop := (∀ r ∈ s.rows, dataAll r = true) ∧ dataAll s.told = true
theorem dataAll_app : ∀ {a b : List Val}, dataAll (a ++ b) = (dataAll a && dataAll b)
  | [], b => by simp [dataAll]
  | x :: a, b => by simp [dataAll, dataAll_app (a := a), Bool.and_assoc]
theorem raT_data {p : List Nat} {v : Val} (h : raT p = some v) : v.data = true := by
  unfold raT at h
  split at h
  · cases h; rfl
  · split at h
    · cases h; rfl
    · split at h
      · cases h; rfl
      · split at h
        · cases h; rfl
        · cases hr : rwT p with
          | none => rw [hr] at h; cases h
          | some i => rw [hr] at h; cases h; rfl
theorem item_gcl {v : Val} {s s' : RdS} (h : gcl s) (hv : v.data = true) (e : itemP v s = some s') : gcl s' := by
  unfold itemP at e
  split at e
  · cases e
    obtain ⟨b1, b2⟩ := h
    cases hr : s.rows with
    | nil => exact ⟨fun r hr => (nomatch hr), by simp [dataAll_app, b2, dataAll, hv]⟩
    | cons r R =>
      rw [hr] at b1
      refine ⟨fun q hq => ?_, b2⟩
      rcases List.mem_cons.mp hq with rfl | hq
      · simp [dataAll_app, b1 r List.mem_cons_self, dataAll, hv]
      · exact b1 q (List.mem_cons_of_mem _ hq)
  · cases e
theorem take_gcl {p : List Nat} {s s' : RdS} (h : gcl s) (e : takeP p s = some s') : gcl s' := by
  unfold takeP at e
  split at e
  · unfold openP at e
    split at e
    · cases e
      refine ⟨fun q hq => ?_, h.2⟩
      rcases List.mem_cons.mp hq with rfl | hq
      · rfl
      · exact h.1 q hq
    · cases e
  · split at e
    · unfold closeP at e
      split at e
      · cases e
      · rename_i r R hr
        split at e
        · cases e
        · exact item_gcl (s := ⟨R, true, s.told⟩) ⟨fun q hq => h.1 q (by rw [hr]; exact List.mem_cons_of_mem _ hq), h.2⟩ (by simp only [Val.data]; exact h.1 r (by rw [hr]; exact List.mem_cons_self)) e
    · split at e
      · unfold commaP at e
        split at e
        · cases e
        · cases e
          exact h
      · cases ha : raT p with
        | none => rw [ha] at e; cases e
        | some v => rw [ha] at e; exact item_gcl h (raT_data ha) e
theorem run_gcl : ∀ {ps : List (List Nat)} {s s' : RdS}, gcl s → runP ps s = some s' → gcl s'
  | [], s, s', h, e => by cases e; exact h
  | p :: ps, s, s', h, e => by
    simp only [runP] at e
    cases ht : takeP p s with
    | none => rw [ht] at e; cases e
    | some s1 => rw [ht] at e; exact run_gcl (take_gcl h ht) e
theorem P_piece : ∀ (t tok : List Nat) (p : List Nat), p ∈ P tok t → p.length ≤ tok.length + t.length
  | [], tok, p, h => by
    simp only [P] at h
    split at h
    · cases h
    · simp at h; subst h; simp
  | c :: t, tok, p, h => by
    simp only [P] at h
    split at h
    · rcases List.mem_append.mp h with h | h
      · split at h
        · cases h
        · simp at h; subst h; simp
      · rcases List.mem_cons.mp h with rfl | h
        · simp; omega
        · have := P_piece t [] p h; simp at this ⊢; omega
    · have := P_piece t _ p h; simp at this ⊢; omega
theorem c_read_data (t : List Nat) (ht : t.length ≤ 4000000) : callF (Tr rep) (k + 4) 14 [.str t] st = out (rdT t) st := by
  have hl : line = 16777216 := rfl
  rw [callF_succ (d := d_read_data) rfl]
  have hpc := c_pieces_of (rep := rep) (k := k + 2) (st := [.ins 0 [0, 1, 2] [.ref 1, .bl true, .ref 2], .lst [], .lst []]) t ht
  have hmk := c_mk (rep := rep) (k := k + 1)
  -- the loop
  have loop := forL_out (t := [2]) (one := true) (all := (P [] t).map .str) (body := fun env st => evSs (Tr rep) (callF (Tr rep) (k + 3)) (mkN (Tr rep) (k + 3)) b_read_data_1 env st)
    (fun q env st => ∃ (ps : List (List Nat)) (s : RdS) (ids : List Nat) (o : Option Val), q = ps.map .str ∧ env = [some (.str t), some (.ref 0), o] ∧ RdR s ids st ∧ 3 ≤ st.length ∧ ps.length ≤ (P [] t).length ∧ bdd ((P [] t).length - ps.length) s ∧ (∀ p ∈ ps, p ∈ P [] t) ∧ runP ps s = runP (P [] t) ⟨[], true, []⟩)
    (fun r => runP (P [] t) ⟨[], true, []⟩ = none ∧ ∃ e s, r = .exc 1 noData e s)
    (fun x q env st ⟨ps, s, ids, o, e0, e1, R, hn, hlen, hb, hm, hrun⟩ => by
      subst e1
      cases ps with
      | nil => cases e0
      | cons p ps =>
        simp only [List.map_cons, List.cons.injEq] at e0
        obtain ⟨rfl, rfl⟩ := e0
        have hpl := P_piece t [] p (hm p List.mem_cons_self)
        have hPl := P_len t []
        have hT := m_take (rep := rep) (k := k) p (by simp at hpl; omega) R hb (by omega) hn
        refine ⟨[some (.str t), some (.ref 0), some (.str p)], rfl, ?_⟩
        have hcls : clsV st (.ref 0) = some 0 := by simp only [clsV]; rw [R.h0]
        have l5 : look2 0 5 (Tr rep).mth = some 13 := rfl
        simp only [runP] at hrun
        cases hq : takeP p s with
        | some s' =>
          rw [hq] at hT hrun
          obtain ⟨ids', st', c1, c2, c3⟩ := hT
          left
          refine ⟨[some (.str t), some (.ref 0), some (.str p)], st', .inl ?_, ps, s', ids', _, rfl, rfl, c2, c3, by simp at hlen; omega, ?_, fun z hz => hm z (List.mem_cons_of_mem _ hz), hrun⟩
          · simp [b_read_data_1, hcls, l5, c1]
          · have := take_bdd hb hq
            simp only [List.length_cons] at hlen this
            rw [show (P [] t).length - ps.length = (P [] t).length - (ps.length + 1) + 1 by omega]
            exact this
        | none =>
          rw [hq] at hT hrun
          obtain ⟨st', c1⟩ := hT
          right; right
          refine ⟨1, noData, [some (.str t), some (.ref 0), some (.str p)], st', ?_, by rw [← hrun]; rfl, _, _, rfl⟩
          simp [b_read_data_1, hcls, l5, c1])
    ((P [] t).map .str) [some (.str t), some (.ref 0), none] [.ins 0 [0, 1, 2] [.ref 1, .bl true, .ref 2], .lst [], .lst []]
    ⟨P [] t, ⟨[], true, []⟩, [], none, rfl, rfl, ⟨rfl, rfl, rfl, List.nodup_nil, rfl, fun j i r e => by simp at e⟩, by decide, Nat.le_refl _, ⟨fun r hr => (nomatch hr), by simp, by simp⟩, fun p hp => hp, rfl⟩
  have hfor : evS (Tr rep) (callF (Tr rep) (k + 3)) (mkN (Tr rep) (k + 3)) (.for_ [2] true (.call 7 [.var 0]) b_read_data_1) [some (.str t), some (.ref 0), none] [.ins 0 [0, 1, 2] [.ref 1, .bl true, .ref 2], .lst [], .lst []] = forL [2] true none ((P [] t).map .str) (fun env st => evSs (Tr rep) (callF (Tr rep) (k + 3)) (mkN (Tr rep) (k + 3)) b_read_data_1 env st) ((P [] t).map .str) [some (.str t), some (.ref 0), none] [.ins 0 [0, 1, 2] [.ref 1, .bl true, .ref 2], .lst [], .lst []] :=
    for_run (v := .lst ((P [] t).map .str)) (by simp [hpc]) walked_lst
  have e0 : env0 d_read_data [.str t] = [some (.str t), none, none] := rfl
  rcases loop with ⟨e, s2, hE, ps, s, ids, o, q0, q1, R, hn, _, hb, _, hrun⟩ | ⟨⟨hnone, e, s2, hE⟩, _⟩
  · have : ps = [] := by cases ps with | nil => rfl | cons _ _ => cases q0
    subst this q1
    simp only [runP] at hrun
    obtain ⟨f0, f1, f2⟩ := fld_at (T := Tr rep) (cl := callF (Tr rep) (k + 3)) (mk := mkN (Tr rep) (k + 3)) (env := [some (.str t), some (.ref 0), o]) (x := 1) rfl R.h0
    have g1 := len_at f0 R.h1
    have g2 := len_at f2 R.h2
    have hlen : (ids.reverse.map Val.ref).length = s.rows.length := by simp [R.len]
    rw [hlen] at g1
    have cond : ev (Tr rep) (callF (Tr rep) (k + 3)) (mkN (Tr rep) (k + 3)) (.or (.cmp .gt (.bi .len [.fld (.var 1) 0]) (.cst (.int 0))) (.cmp .ne (.bi .len [.fld (.var 1) 2]) (.cst (.int 1)))) [some (.str t), some (.ref 0), o] s2 = .ok (.bl (!s.rows.isEmpty || !(s.told.length == 1))) s2 := by
      have h1 : decide ((0 : Int) < (s.rows.length : Int)) = !s.rows.isEmpty := by cases s.rows <;> simp
      have h2 : ((s.told.length : Int) == 1) = (s.told.length == 1) := by
        by_cases h : s.told.length = 1
        · rw [h]; rfl
        · rw [beq_eq_false_iff_ne.mpr h, beq_eq_false_iff_ne]; omega
      rw [ev_or, ev_cmp, g1]
      simp only [ev_cst, Res.bind_ok, rd_int, cmp_gt, h1, Option.map_some, Res.opt_some, asBool_bl]
      cases s.rows.isEmpty with
      | false => simp only [Bool.not_false, if_true, Bool.true_or]
      | true => simp only [Bool.not_true, Bool.false_eq_true, if_false, Bool.false_or, ev_cmp, g2, ev_cst, Res.bind_ok, rd_int, cmp_ne, eqV_int, h2, Option.map_some, Res.opt_some]
    have gc := run_gcl (ps := P [] t) (s := ⟨[], true, []⟩) ⟨fun r hr => (nomatch hr), rfl⟩ hrun.symm
    unfold rdT
    rw [← hrun, Option.bind_some]
    cases hend : endP s with
    | some v =>
      have hs : s.rows = [] ∧ s.told = [v] := by
        unfold endP at hend
        split at hend
        · rename_i h1 h2; cases hend; exact ⟨h1, h2⟩
        · cases hend
      have hv : v.data = true := by have := gc.2; rw [hs.2] at this; simpa [dataAll] using this
      refine pure_ret (s := s2) rfl rfl rfl (by simp [closedAll, Val.closed]) ?_ (data_closed v hv)
      rw [hs.1, hs.2] at cond
      have h2 := R.h2
      rw [hs.2] at h2
      have hi : idxV (.lst [v]) (.int 0) = some v := idx_lst (i := 0) rfl
      rw [e0, d_read_data]
      simp only [evSs_cons, evS_ifs, ev_not, ev_bi, evs_cons, evs_nil, ev_var, List.getElem?_cons_zero, Res.bind_ok, List.map_cons, List.map_nil, rdI_str, bi_isI, isTy_strS, Option.map_some, Res.opt_some, asBool_bl, Bool.not_true, Res.into_ok, Bool.false_eq_true, if_false, evSs_nil, RS.then_next, evS_asg, ev_mk, hmk, putLv_nm, List.set_cons_succ, List.set_cons_zero, hfor, hE]
      rw [show ev (Tr rep) (callF (Tr rep) (k + 3)) (mkN (Tr rep) (k + 3)) (.or (.cmp .gt (.bi .len [.fld (.var 1) 0]) (.cst (.int 0))) (.cmp .ne (.bi .len [.fld (.var 1) 2]) (.cst (.int 1)))) [some (.str t), some (.ref 0), o] s2 = .ok (.bl false) s2 from cond]
      simp only [Res.bind_ok, asBool_bl, Res.into_ok, Bool.false_eq_true, if_false, evSs_nil, RS.then_next, evS_ret, ev_idx, f2, ev_cst, rd_ref, h2, hi, Res.opt_some, RS.then_ret]
    | none =>
      refine pure_exc (s := s2) (e := [some (.str t), some (.ref 0), o]) rfl rfl rfl (by simp [closedAll, Val.closed]) ?_
      have hc : (!s.rows.isEmpty || !(s.told.length == 1)) = true := by
        unfold endP at hend
        split at hend
        · cases hend
        · rename_i hx
          cases hr : s.rows with
          | cons _ _ => rfl
          | nil =>
            match ht2 : s.told with
            | [] => rfl
            | [v] => exact absurd ht2 (hx v hr)
            | _ :: _ :: _ => rfl
      rw [hc] at cond
      rw [e0, d_read_data]
      simp only [evSs_cons, evS_ifs, ev_not, ev_bi, evs_cons, evs_nil, ev_var, List.getElem?_cons_zero, Res.bind_ok, List.map_cons, List.map_nil, rdI_str, bi_isI, isTy_strS, Option.map_some, Res.opt_some, asBool_bl, Bool.not_true, Res.into_ok, Bool.false_eq_true, if_false, evSs_nil, RS.then_next, evS_asg, ev_mk, hmk, putLv_nm, List.set_cons_succ, List.set_cons_zero, hfor, hE]
      rw [cond]
      simp only [Res.bind_ok, asBool_bl, Res.into_ok, if_true, evSs_cons, evS_rai, ev_cst, RS.then_exc]
  · unfold rdT
    rw [hnone]
    refine pure_exc (s := s2) (e := e) rfl rfl rfl (by simp [closedAll, Val.closed]) ?_
    rw [e0, d_read_data]
    simp only [evSs_cons, evS_ifs, ev_not, ev_bi, evs_cons, evs_nil, ev_var, List.getElem?_cons_zero, Res.bind_ok, List.map_cons, List.map_nil, rdI_str, bi_isI, isTy_strS, Option.map_some, Res.opt_some, asBool_bl, Bool.not_true, Res.into_ok, Bool.false_eq_true, if_false, evSs_nil, RS.then_next, evS_asg, ev_mk, hmk, putLv_nm, List.set_cons_succ, List.set_cons_zero, hfor, hE, RS.then_exc]
theorem c_read_other (v : Val) (hv : v.data = true) (h : ∀ s, v ≠ .str s) : callF (Tr rep) (k + 1) 14 [v] st = .exc 1 noData st := by
  rw [callF_succ (d := d_read_data) rfl]
  refine pure_exc (s := []) (e := [some v, none, none]) rfl rfl rfl (by simp [closedAll, data_closed v hv]) ?_
  cases v with
  | str s => exact absurd rfl (h s)
  | _ => first | (simp [Val.data] at hv; done) | simp [d_read_data, env0]
end Nt
end
section
set_option linter.all false
set_option maxRecDepth 100000
set_option maxHeartbeats 4000000
/-! k53, the plain part: told, written. -/
namespace Nt
open Nl
variable {rep : Val → List Nat} {st : Store} {k : Nat}
def toldV (o : Option Val) : Val := match o with
  | some v => .lst [v]
  | none => .non
theorem told_try {cl mk : Nat → List Val → Store → Res Val} {w : Int} {v : Val} {o : Option Val} (h : (if w == 0 then cl 4 [v] [] else cl 14 [v] []) = out o []) :
    evS (Tr rep) cl mk (.try_ b__law_told_1 1 (.ret (.cst .non))) [some (.int w), some v] [] = .ret (toldV o) [] := by
  have hx : (Tr rep).exs.contains 1 = true := rfl
  have hs : (Tr rep).sub.contains (1, 1) = true := rfl
  rw [evS_try]
  have hb : evSs (Tr rep) cl mk b__law_told_1 [some (.int w), some v] [] = (match (generalizing := false) o with
    | some u => .ret (.lst [u]) []
    | none => .exc 1 noData [some (.int w), some v] []) := by
    rw [b__law_told_1]
    cases hw : (w == 0) with
    | true =>
      rw [hw, if_pos rfl] at h
      cases o <;> simp [hw, h]
    | false =>
      rw [hw, if_neg (by simp)] at h
      cases o <;> simp [hw, h]
  rw [hb]
  cases o with
  | some u => rfl
  | none =>
    dsimp only
    rw [if_pos hx, if_pos hs]
    rfl
theorem c_told (w : Int) (v : Val) (o : Option Val) (hv : v.data = true) (ho : ∀ u, o = some u → u.data = true) (h : (if w == 0 then callF (Tr rep) (k + 1) 4 [v] [] else callF (Tr rep) (k + 1) 14 [v] []) = out o []) : callF (Tr rep) (k + 2) 22 [.int w, v] st = .ok (toldV o) st := by
  rw [callF_succ (d := d__law_told) rfl]
  refine pure_ret (s := []) rfl rfl rfl (by simp [closedAll, Val.closed, data_closed v hv]) ?_ ?_
  · show evSs _ _ _ d__law_told.body [some (.int w), some v] [] = _
    rw [d__law_told, evSs_cons, told_try h, RS.then_ret]
  · cases o with
    | none => rfl
    | some u => simp [toldV, Val.closed, closedAll, data_closed u (ho u rfl)]
theorem told_write (v : Val) (hv : v.data = true) (hs : smalls v = true) (hz : sv v ≤ 900000) (hl : ∀ t, wrV 1 v = some t → t.length ≤ line) : callF (Tr rep) (k + 5) 22 [.int 0, v] st = .ok (toldV ((wrV 1 v).map .str)) st :=
  c_told (k := k + 3) 0 v _ hv (fun u hu => by cases h : wrV 1 v <;> rw [h] at hu <;> cases hu; rfl) (c_write_data (k := k) v hv hs hz hl)
theorem rdT_data {t : List Nat} {v : Val} (h : rdT t = some v) : v.data = true := by
  unfold rdT at h
  cases hr : runP (P [] t) ⟨[], true, []⟩ with
  | none => rw [hr] at h; cases h
  | some s =>
    rw [hr, Option.bind_some] at h
    have gc := run_gcl (ps := P [] t) (s := ⟨[], true, []⟩) ⟨fun r hr => (nomatch hr), rfl⟩ hr
    unfold endP at h
    split at h
    · rename_i h1 h2
      cases h
      have := gc.2
      rw [h2] at this
      simpa [dataAll] using this
    · cases h
theorem told_read (t : List Nat) (ht : t.length ≤ 4000000) : callF (Tr rep) (k + 5) 22 [.int 1, .str t] st = .ok (toldV (rdT t)) st :=
  c_told (k := k + 3) 1 (.str t) _ rfl (fun u hu => rdT_data hu) (c_read_data (k := k) t ht)
theorem told_other (v : Val) (hv : v.data = true) (h : ∀ s, v ≠ .str s) : callF (Tr rep) (k + 2) 22 [.int 1, v] st = .ok .non st :=
  c_told (k := k) 1 v none hv (fun u hu => by cases hu) (c_read_other (k := k) v hv h)
/-! ### what is written, all of it good -/
mutual
def W : Val → List Nat
  | .tup xs => 91 :: (joinS [44] (Ws xs) ++ [93])
  | .str s => if s = [] then [46] else s
  | .bl b => if b then [43] else [45]
  | .int i => intStr i
  | .non | .lst _ | .dct _ _ | .obj _ _ _ | .ref _ | .fn _ | .scr _ | .kon _ _ => []
def Ws : List Val → List (List Nat)
  | [] => []
  | x :: xs => W x :: Ws xs
end
mutual
def goodV : Val → Bool
  | .tup xs => goods xs
  | .str s => s.isEmpty || wordS s
  | .bl _ => true
  | .int i => shortI i
  | .non | .lst _ | .dct _ _ | .obj _ _ _ | .ref _ | .fn _ | .scr _ | .kon _ _ => false
def goods : List Val → Bool
  | [] => true
  | x :: xs => goodV x && goods xs
end
theorem Ws_map : ∀ xs : List Val, Ws xs = xs.map W
  | [] => rfl
  | x :: xs => by simp [Ws, Ws_map xs]
theorem goods_mem {x : Val} : ∀ {xs : List Val}, goods xs = true → x ∈ xs → goodV x = true
  | y :: ys, h, m => by
    simp only [goods, Bool.and_eq_true] at h
    rcases List.mem_cons.mp m with rfl | m
    · exact h.1
    · exact goods_mem h.2 m
theorem good_data : ∀ v : Val, goodV v = true → v.data = true := by
  have key : ∀ n : Nat, ∀ v : Val, sv v ≤ n → goodV v = true → v.data = true := by
    intro n
    induction n with
    | zero => intro v h; have := sv_pos v; omega
    | succ n ih =>
      intro v h hg
      cases v with
      | tup xs =>
        simp only [goodV] at hg
        simp only [Val.data]
        have : ∀ l : List Val, svs l ≤ n → goods l = true → dataAll l = true := fun l => by
          induction l with
          | nil => intro _ _; rfl
          | cons y l ihl =>
            intro h1 h2
            simp only [svs] at h1
            simp only [goods, Bool.and_eq_true] at h2
            simp only [dataAll, Bool.and_eq_true]
            exact ⟨ih y (by omega) h2.1, ihl (by omega) h2.2⟩
        exact this xs (by simp only [sv] at h; omega) hg
      | _ => first | rfl | (simp [goodV] at hg)
  exact fun v => key (sv v) v (Nat.le_refl _)
theorem digs_ne (n : Nat) : digs n ≠ [] := by
  unfold digs
  cases n with
  | zero => simp [digsF]
  | succ m => simp only [digsF]; split <;> simp
theorem W_pos {v : Val} (h : goodV v = true) : 1 ≤ (W v).length := by
  cases v with
  | tup xs => simp [W]
  | bl b => cases b <;> simp [W]
  | str s =>
    by_cases hs : s = []
    · simp [W, hs]
    · simp only [W, if_neg hs]
      cases s with
      | nil => exact absurd rfl hs
      | cons _ _ => simp
  | int i =>
    cases i with
    | ofNat n =>
      have := digs_ne n
      simp only [W, intStr]
      cases h : digs n with
      | nil => exact absurd h this
      | cons _ _ => simp
    | negSucc n => simp [W, intStr]
  | _ => simp [goodV] at h
theorem join_len : ∀ ts : List (List Nat), (joinS [44] ts).length + 1 = (if ts = [] then 1 else (ts.map List.length).sum + ts.length)
  | [] => by simp [joinS]
  | [a] => by simp [joinS]
  | a :: b :: r => by
    have ih := join_len (b :: r)
    rw [if_neg (by simp)] at ih ⊢
    have e : joinS [44] (a :: b :: r) = a ++ [44] ++ joinS [44] (b :: r) := rfl
    rw [e]
    simp at ih ⊢
    omega
theorem W_tup_len {xs : List Val} (h : goods xs = true) : (W (.tup xs)).length = 2 + ((xs.map fun x => (W x).length).sum + xs.length) - (if xs = [] then 0 else 1) := by
  have := join_len (Ws xs)
  simp only [W, List.length_cons, List.length_append, List.length_nil]
  rw [Ws_map] at this ⊢
  cases xs with
  | nil => simp [joinS]
  | cons x xs =>
    rw [if_neg (by simp)] at this ⊢
    have e : (List.map (List.length ∘ W) xs).sum = (xs.map fun x => (W x).length).sum := rfl
    simp at this ⊢
    omega
theorem sum_mem {f : Val → Nat} {x : Val} : ∀ {xs : List Val}, x ∈ xs → f x ≤ (xs.map f).sum
  | y :: ys, m => by
    rcases List.mem_cons.mp m with rfl | m
    · simp
    · have := sum_mem (f := f) m; simp; omega
theorem sum_pos {f : Val → Nat} : ∀ {xs : List Val}, (∀ x ∈ xs, 1 ≤ f x) → xs.length ≤ (xs.map f).sum
  | [], _ => by simp
  | y :: ys, h => by
    have := sum_pos (f := f) fun x hx => h x (List.mem_cons_of_mem _ hx)
    have := h y List.mem_cons_self
    simp; omega
theorem wr_good : ∀ (m : Nat) (v : Val) (n : Nat), sv v ≤ m → goodV v = true → n + depthV v ≤ 1001 → wrV n v = some (W v)
  | 0, v, n, h, _, _ => by have := sv_pos v; omega
  | m + 1, v, n, h, hg, hd => by
    cases v with
    | tup xs =>
      simp only [goodV] at hg
      simp only [depthV] at hd
      simp only [sv] at h
      have key : ∀ l : List Val, svs l ≤ m → goods l = true → n + 1 + depthVs l ≤ 1001 → wrs (n + 1) l = some (Ws l) := fun l => by
        induction l with
        | nil => intro _ _ _; rfl
        | cons y l ih =>
          intro h1 h2 h3
          simp only [svs] at h1
          simp only [goods, Bool.and_eq_true] at h2
          simp only [depthVs] at h3
          simp only [wrs, Ws]
          rw [wr_good m y (n + 1) (by omega) h2.1 (by omega), ih (by omega) h2.2 (by omega)]
          rfl
      simp only [wrV]
      rw [if_pos (by omega), key xs (by omega) hg (by omega)]
      rfl
    | str s =>
      simp only [goodV, Bool.or_eq_true, List.isEmpty_iff] at hg
      simp only [wrV, atomT, W]
      by_cases hs : s = []
      · rw [if_pos hs, if_pos hs]
      · rw [if_neg hs, if_neg hs, if_pos (hg.resolve_left hs)]
    | bl b => simp only [wrV, atomT, W]
    | int i =>
      simp only [goodV] at hg
      simp only [wrV, atomT, W]
      rw [if_pos hg]
    | _ => simp [goodV] at hg
theorem ev_dctW {cl mk : Nat → List Val → Store → Res Val} {env : Env} : ev (Tr rep) cl mk (.dct [.cst (.str [84, 114, 117, 101]), .cst (.str [43]), .cst (.str [70, 97, 108, 115, 101]), .cst (.str [45]), .cst (.str []), .cst (.str [46])]) env st = .ok (.dct [.str [84, 114, 117, 101], .str [70, 97, 108, 115, 101], .str []] [.str [43], .str [45], .str [46]]) st := by
  simp [altL, inV.keyV, distK, keyIx, eqD]
theorem c_law_written : ∀ (n : Nat) (v : Val), depthV v + 2 ≤ n → goodV v = true → (W v).length ≤ 4000000 → ∀ st, callF (Tr rep) n 19 [v] st = .ok (.str (W v)) st
  | 0, v, h, _, _, _ => by omega
  | n + 1, v, h, hg, hw, st => by
    have hl : line = 16777216 := rfl
    have hv := good_data v hg
    rw [callF_succ (d := d__law_written) rfl]
    refine pure_ret (s := []) rfl rfl rfl (by simp [closedAll, data_closed v hv]) ?_ rfl
    have e0 : env0 d__law_written [v] = [some v, none, none] := rfl
    cases v with
    | tup xs =>
      simp only [goodV] at hg
      have hwl := W_tup_len hg
      have hsum := sum_pos (f := fun x => (W x).length) (xs := xs) fun x hx => W_pos (goods_mem hg hx)
      have hxl : xs.length ≤ 4000000 := by split at hwl <;> omega
      have hcp : ev (Tr rep) (callF (Tr rep) n) (mkN (Tr rep) n) x__law_written_1 [some (.tup xs), none, none] [] = .ok (.lst (xs.map fun x => .str (W x))) [] := by
        refine cp1_lst (v := .tup xs) (fun x => .str (W x)) (by omega) (by simp) walked_tup fun x hx => ?_
        have hd : depthV x ≤ depthVs xs := by
          have : ∀ l : List Val, x ∈ l → depthV x ≤ depthVs l := fun l => by
            induction l with
            | nil => intro m; cases m
            | cons y l ih =>
              intro m
              simp only [depthVs]
              rcases List.mem_cons.mp m with rfl | m
              · exact Nat.le_max_left _ _
              · exact Nat.le_trans (ih m) (Nat.le_max_right _ _)
          exact this xs hx
        have hm := sum_mem (f := fun x => (W x).length) hx
        have := c_law_written n x (by simp only [depthV] at h; omega) (goods_mem hg hx) (by split at hwl <;> omega) []
        simp [this]
      have hin : inV .non (.lst (xs.map fun x => .str (W x))) = some false := by
        have h1 : dataAll (xs.map fun x => Val.str (W x)) = true := by
          have : ∀ l : List Val, dataAll (l.map fun x => Val.str (W x)) = true := fun l => by induction l <;> simp_all [dataAll, Val.data]
          exact this xs
        have h2 : (xs.map fun x => Val.str (W x)).any (fun y => eqD y .non) = false := by
          rw [List.any_eq_false]
          intro y hy
          obtain ⟨x, _, rfl⟩ := List.mem_map.mp hy
          simp [eqD]
        simp [inV, Val.data, depthV, h1]
        simpa using h2
      have hj : bmV .join (.str [44]) [.lst (xs.map fun x => .str (W x))] [] = some (.str (joinS [44] (Ws xs)), []) := by
        refine join_at ?_ ?_
        · rw [Ws_map]; simp
        · rw [Ws_map]
          have e : ((xs.map W).map List.length).sum = (xs.map fun x => (W x).length).sum := by simp [Function.comp_def]
          simp only [e, List.length_map, List.length_cons, List.length_nil]
          split at hwl <;> omega
      have hjl : (joinS [44] (Ws xs)).length + 2 = (W (.tup xs)).length := by simp [W]
      have a1 := add_str (s := [91]) (t := joinS [44] (Ws xs)) (by simp; omega)
      have a2 := add_str (s := [91] ++ joinS [44] (Ws xs)) (t := [93]) (by simp; omega)
      rw [e0, d__law_written]
      have hrc : rcvT .join (.str [44]) = true := rfl
      have a2' : binV .add (.str (91 :: joinS [44] (Ws xs))) (.str [93]) = some (.str (91 :: (joinS [44] (Ws xs) ++ [93]))) := by simpa using a2
      simp [hcp, hin, hrc, hj, a1, a2', W]
    | str s =>
      have hsm : small (.str s) = true := by
        by_cases hs : s = []
        · subst hs; simp [small]
        · simp only [W, if_neg hs] at hw
          simp [small]; omega
      have hwd := c_law_word (rep := rep) (k := n - 1) (st := []) (.str s) rfl hsm
      rw [show n - 1 + 1 = n by omega] at hwd
      rw [e0, d__law_written]
      by_cases hs : s = []
      · subst hs
        have hb : biV (Tr rep) .str [.str []] = some (.str []) := rfl
        have hi : idxV (.dct [.str [84, 114, 117, 101], .str [70, 97, 108, 115, 101], .str []] [.str [43], .str [45], .str [46]]) (.str []) = some (.str [46]) := by simp [idxV, inV.keyV, keyIx, eqD]
        simp [hwd, isWord, wordS, W, hb, hi, altL, inV.keyV, distK, keyIx, eqD]
      · simp only [goodV, Bool.or_eq_true, List.isEmpty_iff] at hg
        have := hg.resolve_left hs
        simp [hwd, isWord, this, W, hs]
    | bl b =>
      have hwd := c_law_word (rep := rep) (k := n - 1) (st := []) (.bl b) rfl rfl
      rw [show n - 1 + 1 = n by omega] at hwd
      rw [e0, d__law_written]
      have hb : biV (Tr rep) .str [.bl b] = some (.str (if b then [84, 114, 117, 101] else [70, 97, 108, 115, 101])) := rfl
      have hi : idxV (.dct [.str [84, 114, 117, 101], .str [70, 97, 108, 115, 101], .str []] [.str [43], .str [45], .str [46]]) (.str (if b then [84, 114, 117, 101] else [70, 97, 108, 115, 101])) = some (.str (if b then [43] else [45])) := by cases b <;> simp [idxV, inV.keyV, keyIx, eqD]
      simp [hwd, isWord, W, hb, hi, altL, inV.keyV, distK, keyIx, eqD]
    | int i =>
      simp only [goodV] at hg
      have hwd := c_law_word (rep := rep) (k := n - 1) (st := []) (.int i) rfl rfl
      rw [show n - 1 + 1 = n by omega] at hwd
      have hlg := short_log hg
      have hb : biV (Tr rep) .str [.int i] = some (.str (intStr i)) := by simp [biV, biStr, hlg]
      rw [e0, d__law_written]
      simp [hwd, isWord, W, hb]
    | _ => simp [goodV] at hg
end Nt
end
section
set_option linter.all false
set_option maxRecDepth 100000
set_option maxHeartbeats 4000000
/-! k53, the plain part: draws. -/
namespace Nt
open Nl
variable {rep : Val → List Nat} {st : Store} {k : Nat}
abbrev drw (cs : List Int) (p x c m q : Int) : List Val := [.lst (cs.map .int), .int p, .int x, .int c, .int m, .int q]
def DrawOk (Q : Nat) (D : List Val) : Prop := ∃ (cs : List Int) (p x c m q : Int), D = drw cs p x c m q ∧ 0 ≤ p ∧ 0 ≤ q ∧ q ≤ (Q : Int)
theorem DrawOk.mono {Q Q' : Nat} {D : List Val} (h : DrawOk Q D) (hq : Q ≤ Q') : DrawOk Q' D := by
  obtain ⟨cs, p, x, c, m, q, e, h1, h2, h3⟩ := h
  exact ⟨cs, p, x, c, m, q, e, h1, h2, by omega⟩
theorem mulL {i : Int} {j : Int} (h : -(2 ^ 64) < j ∧ j < 2 ^ 64) : binV .mul (.int i) (.int j) = some (.int (i * j)) := by
  refine mul_int ?_
  unfold mulOk
  rw [decide_eq_true (Or.inr h)]
  rfl
theorem fdivL {i j : Int} (h : j ≠ 0) (h2 : j.natAbs.log2 < 9000) : binV .fdiv (.int i) (.int j) = some (.int (i.fdiv j)) := by
  simp [binV, divOk, h, h2]
theorem modL {i j : Int} (h : j ≠ 0) : binV .mod (.int i) (.int j) = some (.int (i.fmod j)) := by simp [binV, h]
theorem c_law_draw (ns : List Int) (h : ns.length ≤ 63) : ∃ D, callF (Tr rep) (k + 1) 15 [.scr ns] [] = .ok (.ref 0) [.lst D] ∧ DrawOk 0 D := by
  rw [callF_succ (d := d__law_draw) rfl]
  have hsl : slcV (.scr ns) .non (.int 63) = some (.lst (ns.map .int)) := by
    simp only [slcV, opt_n, opt_i, Option.bind_some, sliceL, List.drop_zero]
    rw [show clampI ns.length 63 = ns.length by unfold clampI; rw [if_pos (by decide)]; simp; omega, List.take_length]
  have hev : ∀ {env : Env} {st : Store}, env[0]? = some (some (.scr ns)) → ev (Tr rep) (callF (Tr rep) k) (mkN (Tr rep) k) (.slc (.var 0) (.cst .non) (.cst (.int 63))) env st = .ok (.lst (ns.map .int)) st := fun {env st} he => by
    simp [he, hsl]
  obtain ⟨e, s, h1, e0, e1, i, o, e2⟩ := forL_inv (t := [2]) (one := true) (all := ns.map .int) (body := fun env st => evSs (Tr rep) (callF (Tr rep) k) (mkN (Tr rep) k) b__law_draw_1 env st)
    (fun q env st => st = [] ∧ (∀ x ∈ q, ∃ i, x = .int i) ∧ ∃ i o, env = [some (.scr ns), some (.int i), o]) (fun x r env st ⟨h0, hx, i, o, h2⟩ => by
      subst h0 h2
      obtain ⟨c, rfl⟩ := hx x List.mem_cons_self
      refine ⟨[some (.scr ns), some (.int i), some (.int c)], rfl, [some (.scr ns), some (.int ((i * 48271 + c).fmod 2147483629 + 1)), some (.int c)], [], .inl ?_, rfl, fun y hy => hx y (List.mem_cons_of_mem _ hy), _, _, rfl⟩
      have m1 := mulL (i := i) (j := 48271) (by decide)
      have m2 := modL (i := i * 48271 + c) (j := 2147483629) (by decide)
      simp [b__law_draw_1, m1, m2])
    (ns.map .int) [some (.scr ns), some (.int 7), none] [] ⟨rfl, fun x hx => by obtain ⟨i, _, rfl⟩ := List.mem_map.mp hx; exact ⟨i, rfl⟩, 7, none, rfl⟩
  subst e0 e2
  have hfor : evS (Tr rep) (callF (Tr rep) k) (mkN (Tr rep) k) (.for_ [2] true (.slc (.var 0) (.cst .non) (.cst (.int 63))) b__law_draw_1) [some (.scr ns), some (.int 7), none] [] = .next [some (.scr ns), some (.int i), o] [] := by
    rw [for_run (hev rfl) walked_lst]; exact h1
  have hcp : ev (Tr rep) (callF (Tr rep) k) (mkN (Tr rep) k) x__law_draw_2 [some (.scr ns), some (.int i), o] [] = .ok (.lst ((ns.map .int).map fun v => match v with | Val.int i => Val.int (if i < 0 then -i else i) | v => v)) [] := by
    refine cp1_lst (v := .lst (ns.map .int)) (xs := ns.map .int) (fun v => match v with | Val.int i => Val.int (if i < 0 then -i else i) | v => v) (by simp; have : line = 16777216 := rfl; omega) (hev rfl) walked_lst fun x hx => ?_
    obtain ⟨c, _, rfl⟩ := List.mem_map.mp hx
    simp
  have hm : ((ns.map Val.int).map fun v => match v with | .int i => Val.int (if i < 0 then -i else i) | v => v) = (ns.map fun i => if i < 0 then -i else i).map Val.int := by
    rw [List.map_map, List.map_map]; rfl
  rw [hm] at hcp
  refine ⟨drw (ns.map fun i => if i < 0 then -i else i) 0 0 0 i 0, ?_, ⟨_, _, _, _, _, _, rfl, by decide, by decide, by decide⟩⟩
  rw [open_ret (v := .ref 0) (s := [.lst (drw (ns.map fun i => if i < 0 then -i else i) 0 0 0 i 0)]) rfl rfl (by simp [d__law_draw]) ?_]
  · rfl
  · show evSs _ _ _ d__law_draw.body [some (.scr ns), none, none] [] = _
    rw [d__law_draw, evSs_cons]
    have h0 : evS (Tr rep) (callF (Tr rep) k) (mkN (Tr rep) k) (.asg (.nm 1) (.cst (.int 7))) [some (.scr ns), none, none] [] = .next [some (.scr ns), some (.int 7), none] [] := by simp
    rw [h0, RS.then_next, evSs_cons, hfor, RS.then_next]
    simp [hcp]
section
variable {cs : List Val} {p x c m q v : Val} {A B D E F G : Val}
theorem ix0 : idxV (.lst [A, B, D, E, F, G]) (.int 0) = some A := rfl
theorem ix1 : idxV (.lst [A, B, D, E, F, G]) (.int 1) = some B := rfl
theorem ix2 : idxV (.lst [A, B, D, E, F, G]) (.int 2) = some D := rfl
theorem ix3 : idxV (.lst [A, B, D, E, F, G]) (.int 3) = some E := rfl
theorem ix4 : idxV (.lst [A, B, D, E, F, G]) (.int 4) = some F := rfl
theorem ix5 : idxV (.lst [A, B, D, E, F, G]) (.int 5) = some G := rfl
theorem st1 : setItV (.ref 0) (.int 1) v [.lst [A, B, D, E, F, G]] = some [.lst [A, v, D, E, F, G]] := rfl
theorem st2 : setItV (.ref 0) (.int 2) v [.lst [A, B, D, E, F, G]] = some [.lst [A, B, v, E, F, G]] := rfl
theorem st3 : setItV (.ref 0) (.int 3) v [.lst [A, B, D, E, F, G]] = some [.lst [A, B, D, v, F, G]] := rfl
theorem st4 : setItV (.ref 0) (.int 4) v [.lst [A, B, D, E, F, G]] = some [.lst [A, B, D, E, v, G]] := rfl
theorem st5 : setItV (.ref 0) (.int 5) v [.lst [A, B, D, E, F, G]] = some [.lst [A, B, D, E, F, v]] := rfl
end
theorem trim1 {v : Val} {o o' : Ob} : trim (List.length [o]) v [o'] = [o'] := trim_same rfl
theorem c_law_take {Q : Nat} {D : List Val} {many : Int} (h : DrawOk Q D) (hQ : Q < 1000000) (hm0 : 0 < many) (hm1 : many < 2 ^ 60) : ∃ D' r, callF (Tr rep) (k + 1) 16 [.ref 0, .int many] [.lst D] = .ok (.int r) [.lst D'] ∧ DrawOk (Q + 1) D' ∧ 0 ≤ r ∧ r < many := by
  obtain ⟨cs, p, x, c, m, q, rfl, hp, hq0, hq1⟩ := h
  rw [callF_succ (d := d__law_take) rfl]
  have hmne : many ≠ 0 := by omega
  have hmlog : many.natAbs.log2 < 9000 := by
    have : many.natAbs.log2 < 60 := (Nat.log2_lt (by omega)).mpr (by omega)
    omega
  -- the first statement
  have first : ∃ (p' x' c' : Int), 0 ≤ p' ∧ evS (Tr rep) (callF (Tr rep) k) (mkN (Tr rep) k) (.ifs (.and (.cmp .eq (.idx (.var 0) (.cst (.int 3))) (.cst (.int 0))) (.cmp .lt (.idx (.var 0) (.cst (.int 1))) (.bi .len [.idx (.var 0) (.cst (.int 0))]))) [.gen [.sub (.var 0) (.cst (.int 2)), .sub (.var 0) (.cst (.int 3)), .sub (.var 0) (.cst (.int 1))] (.tup [.idx (.idx (.var 0) (.cst (.int 0))) (.idx (.var 0) (.cst (.int 1))), .cst (.int 60), .bin .add (.idx (.var 0) (.cst (.int 1))) (.cst (.int 1))])] []) [some (.ref 0), some (.int many), none] [.lst (drw cs p x c m q)] = .next [some (.ref 0), some (.int many), none] [.lst (drw cs p' x' c' m q)] := by
    by_cases h1 : c = 0
    · by_cases h2 : p < (cs.length : Int)
      · have hi : p.toNat < cs.length := by omega
        have hix : idxV (.lst (cs.map .int)) (.int p) = some (.int cs[p.toNat]) := by
          have := idx_lst (s := cs.map .int) (i := p.toNat) (c := .int cs[p.toNat]) (by simp [hi])
          rwa [show ((p.toNat : Nat) : Int) = p by omega] at this
        refine ⟨p + 1, cs[p.toNat], 60, by omega, ?_⟩
        subst h1
        simp [ix0, ix1, ix2, ix3, h2, hix, st1, st2, st3]
      · exact ⟨p, x, c, hp, by simp [ix0, ix1, ix3, h1, h2]⟩
    · exact ⟨p, x, c, hp, by simp [ix3, h1]⟩
  obtain ⟨p', x', c', hp', hfirst⟩ := first
  by_cases hc : 0 < c'
  · have e1 := modL (i := x') hmne
    have e2 := fdivL (i := x') hmne hmlog
    refine ⟨drw cs p' (x'.fdiv many) (if 0 < x'.fdiv many then c' - 1 else 0) m q, x'.fmod many, ?_, ⟨_, _, _, _, _, _, rfl, hp', hq0, by omega⟩, Int.fmod_nonneg_of_pos _ hm0, Int.fmod_lt_of_pos _ hm0⟩
    rw [open_ret (v := .int (x'.fmod many)) (s := [.lst (drw cs p' (x'.fdiv many) (if 0 < x'.fdiv many then c' - 1 else 0) m q)]) rfl rfl (by simp [closedAll, Val.closed]) ?_, trim1]
    show evSs _ _ _ d__law_take.body [some (.ref 0), some (.int many), none] _ = _
    rw [d__law_take, evSs_cons, hfirst, RS.then_next]
    by_cases hd : 0 < x'.fdiv many <;> simp [ix2, ix3, hc, e1, e2, st2, st3, hd]
  · have hqm : -(2 ^ 64) < q + 1 ∧ q + 1 < 2 ^ 64 := by omega
    have e1 := mulL (i := m) (j := 48271) (by decide)
    have e2 := mulL (i := q + 1) (j := q + 1) hqm
    have e3 := mulL (i := (q + 1) * (q + 1)) (j := 69621) (by decide)
    have e4 := modL (i := m * 48271 + (q + 1) * (q + 1) * 69621 + 11) (j := 2147483647) (by decide)
    have e5 := fdivL (i := (m * 48271 + (q + 1) * (q + 1) * 69621 + 11).fmod 2147483647) (j := 13) (by decide) (by decide +kernel)
    have e6 := modL (i := ((m * 48271 + (q + 1) * (q + 1) * 69621 + 11).fmod 2147483647).fdiv 13) hmne
    refine ⟨drw cs p' x' c' ((m * 48271 + (q + 1) * (q + 1) * 69621 + 11).fmod 2147483647) (q + 1), (((m * 48271 + (q + 1) * (q + 1) * 69621 + 11).fmod 2147483647).fdiv 13).fmod many, ?_, ⟨_, _, _, _, _, _, rfl, hp', by omega, by omega⟩, Int.fmod_nonneg_of_pos _ hm0, Int.fmod_lt_of_pos _ hm0⟩
    rw [open_ret (v := .int ((((m * 48271 + (q + 1) * (q + 1) * 69621 + 11).fmod 2147483647).fdiv 13).fmod many)) (s := [.lst (drw cs p' x' c' ((m * 48271 + (q + 1) * (q + 1) * 69621 + 11).fmod 2147483647) (q + 1))]) rfl rfl (by simp [closedAll, Val.closed]) ?_, trim1]
    show evSs _ _ _ d__law_take.body [some (.ref 0), some (.int many), none] _ = _
    rw [d__law_take, evSs_cons, hfirst, RS.then_next]
    simp [ix3, ix4, ix5, hc, e1, e2, e3, e4, e5, e6, st4, st5]
end Nt
end
section
set_option linter.all false
set_option maxRecDepth 100000
set_option maxHeartbeats 4000000
/-! k53, the plain part: drawn data. -/
namespace Nt
open Nl
variable {rep : Val → List Nat} {st : Store} {k : Nat}
/-- the longest row of signs that are no brackets or commas -/
def mx : Nat → List Nat → Nat
  | cur, [] => cur
  | cur, c :: r => if isX c then max cur (mx 0 r) else mx (cur + 1) r
def cntO (t : List Nat) : Nat := t.countP (· == 91)
theorem mx_X {c : Nat} {b : List Nat} (h : isX c = true) : ∀ (a : List Nat) (cur : Nat), mx cur (a ++ c :: b) = max (mx cur a) (mx 0 b)
  | [], cur => by simp [mx, h]
  | d :: a, cur => by
    simp only [List.cons_append, mx]
    split
    · rw [mx_X h a 0, Nat.max_assoc]
    · exact mx_X h a _
def BL : Nat → Nat
  | 0 => 41
  | d + 1 => 3 * BL d + 4
def BN : Nat → Nat
  | 0 => 0
  | d + 1 => 3 * BN d + 1
def BS : Nat → Nat
  | 0 => 1
  | d + 1 => 3 * (BS d + 1) + 2
def CC : Nat → Nat
  | 0 => 3
  | d + 1 => 3 * CC d + 3
structure GD (d : Nat) (v : Val) : Prop where
  good : goodV v = true
  dep : depthV v ≤ d
  len : (W v).length ≤ BL d
  tok : mx 0 (W v) ≤ 41
  cnt : cntO (W v) ≤ BN d
  siz : sv v ≤ BS d
theorem BL_mono (d : Nat) : 41 ≤ BL d := by
  induction d with
  | zero => simp [BL]
  | succ d ih => simp [BL]; omega
theorem BS_mono (d : Nat) : 1 ≤ BS d := by cases d <;> simp [BS]
theorem GD.leaf {v : Val} (h1 : goodV v = true) (h2 : depthV v = 0) (h3 : (W v).length ≤ 41) (h4 : mx 0 (W v) ≤ 41) (h5 : cntO (W v) = 0) (h6 : sv v = 1) (d : Nat) : GD d v :=
  ⟨h1, by omega, Nat.le_trans h3 (BL_mono d), h4, by omega, by have := BS_mono d; omega⟩
theorem join_mx : ∀ ts : List (List Nat), (∀ t ∈ ts, mx 0 t ≤ 41) → mx 0 (joinS [44] ts) ≤ 41
  | [], _ => by simp [joinS, mx]
  | [a], h => by simpa [joinS] using h a List.mem_cons_self
  | a :: b :: r, h => by
    have e : joinS [44] (a :: b :: r) = a ++ 44 :: joinS [44] (b :: r) := by
      show a ++ [44] ++ joinS [44] (b :: r) = _
      simp
    rw [e, mx_X (by rfl)]
    exact Nat.max_le.mpr ⟨h a List.mem_cons_self, join_mx (b :: r) fun t ht => h t (List.mem_cons_of_mem _ ht)⟩
theorem join_cnt : ∀ ts : List (List Nat), cntO (joinS [44] ts) = (ts.map cntO).sum
  | [] => by simp [joinS, cntO]
  | [a] => by simp [joinS]
  | a :: b :: r => by
    have e : joinS [44] (a :: b :: r) = a ++ 44 :: joinS [44] (b :: r) := by
      show a ++ [44] ++ joinS [44] (b :: r) = _
      simp
    have ih := join_cnt (b :: r)
    rw [e]
    simp only [cntO, List.countP_append, List.countP_cons] at ih ⊢
    simp [ih, cntO]
theorem sum_le {f : Val → Nat} {B : Nat} : ∀ {xs : List Val}, (∀ x ∈ xs, f x ≤ B) → (xs.map f).sum ≤ xs.length * B
  | [], _ => by simp
  | y :: ys, h => by
    have := sum_le (f := f) fun x hx => h x (List.mem_cons_of_mem _ hx)
    have := h y List.mem_cons_self
    simp only [List.map_cons, List.sum_cons, List.length_cons, Nat.add_mul, Nat.one_mul]
    omega
theorem GD.tup {d : Nat} {xs : List Val} (hl : xs.length ≤ 3) (h : ∀ x ∈ xs, GD d x) : GD (d + 1) (.tup xs) := by
  have hg : goods xs = true := by
    have : ∀ l : List Val, (∀ x ∈ l, GD d x) → goods l = true := fun l => by
      induction l with
      | nil => intro _; rfl
      | cons y l ih =>
        intro hh
        simp only [goods, Bool.and_eq_true]
        exact ⟨(hh y List.mem_cons_self).good, ih fun x hx => hh x (List.mem_cons_of_mem _ hx)⟩
    exact this xs h
  refine ⟨by simpa only [goodV] using hg, ?_, ?_, ?_, ?_, ?_⟩
  · have : ∀ l : List Val, (∀ x ∈ l, GD d x) → depthVs l ≤ d := fun l => by
      induction l with
      | nil => intro _; simp [depthVs]
      | cons y l ih =>
        intro hh
        simp only [depthVs]
        exact Nat.max_le.mpr ⟨(hh y List.mem_cons_self).dep, ih fun x hx => hh x (List.mem_cons_of_mem _ hx)⟩
    simp only [depthV]
    exact Nat.succ_le_succ (this xs h)
  · have hw := W_tup_len hg
    have hs := sum_le (f := fun x => (W x).length) (B := BL d) fun x hx => (h x hx).len
    have : xs.length * BL d ≤ 3 * BL d := Nat.mul_le_mul_right _ hl
    simp only [BL]
    by_cases hx : xs = []
    · subst hx; rw [if_pos rfl] at hw; simp at hw; omega
    · rw [if_neg hx] at hw; omega
  · simp only [W]
    show mx 0 (91 :: (joinS [44] (Ws xs) ++ [93])) ≤ 41
    have e : mx 0 (91 :: (joinS [44] (Ws xs) ++ [93])) = max 0 (mx 0 (joinS [44] (Ws xs) ++ 93 :: [])) := by simp [mx, isX]
    rw [e, mx_X (by rfl)]
    have := join_mx (Ws xs) fun t ht => by
      rw [Ws_map] at ht
      obtain ⟨x, hx, rfl⟩ := List.mem_map.mp ht
      exact (h x hx).tok
    simp [mx]
    exact this
  · have hj := join_cnt (Ws xs)
    have hs := sum_le (f := fun x => cntO (W x)) (B := BN d) fun x hx => (h x hx).cnt
    have : xs.length * BN d ≤ 3 * BN d := Nat.mul_le_mul_right _ hl
    have e : ((Ws xs).map cntO).sum = (xs.map fun x => cntO (W x)).sum := by rw [Ws_map]; simp [Function.comp_def]
    have e2 : cntO (W (.tup xs)) = cntO (joinS [44] (Ws xs)) + 1 := by simp [W, cntO]
    rw [e2, hj, e]
    simp only [BN]
    omega
  · have : ∀ l : List Val, (∀ x ∈ l, GD d x) → svs l ≤ l.length * (BS d + 1) := fun l => by
      induction l with
      | nil => intro _; simp [svs]
      | cons y l ih =>
        intro hh
        have := ih fun x hx => hh x (List.mem_cons_of_mem _ hx)
        have := (hh y List.mem_cons_self).siz
        simp only [svs, List.length_cons, Nat.add_mul, Nat.one_mul]
        omega
    have h1 := this xs h
    have : xs.length * (BS d + 1) ≤ 3 * (BS d + 1) := Nat.mul_le_mul_right _ hl
    simp only [sv, BS]
    omega
def leaves : List Val := [.int 0, .int (-1), .int 7, .int (10 ^ 40), .int (-10 ^ 20), .int 1000, .bl true, .bl false, .str [], .str [97, 98, 122, 57], .str [98, 122, 57], .str [122, 57], .str [97, 50, 51, 52, 53, 54, 55, 56, 57, 48, 49, 50]]
theorem GD_leaves : ∀ v ∈ leaves, ∀ d, GD d v := by
  have : ∀ v ∈ leaves, goodV v = true ∧ depthV v = 0 ∧ (W v).length ≤ 41 ∧ mx 0 (W v) ≤ 41 ∧ cntO (W v) = 0 ∧ sv v = 1 := by decide +kernel
  intro v hv d
  obtain ⟨h1, h2, h3, h4, h5, h6⟩ := this v hv
  exact .leaf h1 h2 h3 h4 h5 h6 d
theorem rng_len (lo : Int) : ∀ n, (rangeN lo 1 n).length = n
  | 0 => rfl
  | n + 1 => by simp [rangeN, rng_len (lo + 1) n]
theorem take_at {cl mk : Nat → List Val → Store → Res Val} {i : Nat} {env : Env} {m : Int} {e : Ex} {st s : Store} {r : Int} (he : env[0]? = some (some (.ref 0))) (hm : ev (Tr rep) cl mk e env st = .ok (.int m) st) (h : cl 16 [.ref 0, .int m] st = .ok (.int r) s) : ev (Tr rep) cl mk (.call 16 [.var 0, e]) env st = .ok (.int r) s := by
  simp [he, hm, h]
/-- what comes behind the first draw, but for tuples -/
theorem data_rest {k : Nat} {d6 : Int} {r : Int} {Q : Nat} {D : List Val} {o : Option Val} {d : Nat} (hD : DrawOk Q D) (hQ : Q + 2 < 1000000) : ∃ v D', (evSs (Tr rep) (callF (Tr rep) (k + 1)) (mkN (Tr rep) (k + 1)) [.ifs (.cmp .eq (.var 2) (.cst (.int 3))) [.ret (.ife (.cmp .gt (.call 16 [.var 0, .cst (.int 4)]) (.cst (.int 0))) (.slc (.cst (.str [97, 98, 122, 57])) (.call 16 [.var 0, .cst (.int 3)]) (.cst .non)) (.cst (.str [97, 50, 51, 52, 53, 54, 55, 56, 57, 48, 49, 50])))] [],
  .ret (.idx (.lst [.cst (.int 0), .neg (.cst (.int 1)), .cst (.int 7), .bin .pow (.cst (.int 10)) (.cst (.int 40)), .neg (.bin .pow (.cst (.int 10)) (.cst (.int 20))), .cst (.int 1000), .cst (.bl true), .cst (.bl false), .cst (.str [])]) (.call 16 [.var 0, .cst (.int 9)]))] [some (.ref 0), some (.int d6), some (.int r), o] [.lst D]) = .ret v [.lst D'] ∧ GD d v ∧ DrawOk (Q + 2) D' := by
  have hl : line = 16777216 := rfl
  by_cases h3 : r = 3
  · obtain ⟨D1, r1, c1, hD1, a1, b1⟩ := c_law_take (rep := rep) (k := k) (many := 4) hD (by omega) (by decide) (by decide)
    have t1 := take_at (rep := rep) (cl := callF (Tr rep) (k + 1)) (mk := mkN (Tr rep) (k + 1)) (i := 0) (env := [some (.ref 0), some (.int d6), some (.int r), o]) (e := .cst (.int 4)) rfl (by simp) c1
    by_cases h0 : 0 < r1
    · obtain ⟨D2, r2, c2, hD2, a2, b2⟩ := c_law_take (rep := rep) (k := k) (many := 3) hD1 (by omega) (by decide) (by decide)
      have t2 := take_at (rep := rep) (cl := callF (Tr rep) (k + 1)) (mk := mkN (Tr rep) (k + 1)) (i := 0) (env := [some (.ref 0), some (.int d6), some (.int r), o]) (e := .cst (.int 3)) rfl (by simp) c2
      have hr : r2 = ((r2.toNat : Nat) : Int) := by omega
      have hr2 : r2.toNat ≤ 2 := by omega
      have hsl := slc_a (s := [97, 98, 122, 57]) (a := r2.toNat) (by decide) (by simp; omega)
      rw [← hr] at hsl
      refine ⟨.str ([97, 98, 122, 57].drop r2.toNat), D2, ?_, GD_leaves _ ?_ d, hD2⟩
      · simp [-ev_call, h3, t1, h0, t2, hsl]
        subst h3
        simp [-ev_call, t1, h0, t2, hsl]
      · have : r2.toNat = 0 ∨ r2.toNat = 1 ∨ r2.toNat = 2 := by omega
        rcases this with e | e | e <;> rw [e] <;> simp [leaves]
    · refine ⟨_, D1, ?_, GD_leaves (.str [97, 50, 51, 52, 53, 54, 55, 56, 57, 48, 49, 50]) (by simp [leaves]) d, hD1.mono (by omega)⟩
      subst h3
      simp [-ev_call, t1, h0]
  · obtain ⟨D1, r1, c1, hD1, a1, b1⟩ := c_law_take (rep := rep) (k := k) (many := 9) hD (by omega) (by decide) (by decide)
    have t1 := take_at (rep := rep) (cl := callF (Tr rep) (k + 1)) (mk := mkN (Tr rep) (k + 1)) (i := 0) (env := [some (.ref 0), some (.int d6), some (.int r), o]) (e := .cst (.int 9)) rfl (by simp) c1
    have hr : r1 = ((r1.toNat : Nat) : Int) := by omega
    have hr9 : r1.toNat < 9 := by omega
    have p1 : binV .pow (.int 10) (.int 40) = some (.int (10 ^ 40)) := by
      have h : powOk 10 40 = true := by decide +kernel
      have e : (10 : Int) ^ (40 : Int).toNat = 10 ^ 40 := rfl
      simp only [binV, h, if_true, e]
    have p2 : binV .pow (.int 10) (.int 20) = some (.int (10 ^ 20)) := by
      have h : powOk 10 20 = true := by decide +kernel
      have e : (10 : Int) ^ (20 : Int).toNat = 10 ^ 20 := rfl
      simp only [binV, h, if_true, e]
    obtain ⟨lv, hlv⟩ : ∃ lv, [Val.int 0, .int (-1), .int 7, .int (10 ^ 40), .int (-10 ^ 20), .int 1000, .bl true, .bl false, .str []][r1.toNat]? = some lv := ⟨_, List.getElem?_eq_getElem (by simpa using hr9)⟩
    have hix := idx_lst hlv
    rw [← hr] at hix
    refine ⟨lv, D1, ?_, GD_leaves lv ?_ d, hD1.mono (by omega)⟩
    · have hlst : ev (Tr rep) (callF (Tr rep) (k + 1)) (mkN (Tr rep) (k + 1)) (.lst [.cst (.int 0), .neg (.cst (.int 1)), .cst (.int 7), .bin .pow (.cst (.int 10)) (.cst (.int 40)), .neg (.bin .pow (.cst (.int 10)) (.cst (.int 20))), .cst (.int 1000), .cst (.bl true), .cst (.bl false), .cst (.str [])]) [some (.ref 0), some (.int d6), some (.int r), o] [.lst D] = .ok (.lst [Val.int 0, .int (-1), .int 7, .int (10 ^ 40), .int (-10 ^ 20), .int 1000, .bl true, .bl false, .str []]) [.lst D] := by
        simp only [ev_lst, evs_cons, evs_nil, ev_cst, ev_neg, ev_bin, Res.bind_ok, rd_int, p1, p2, Res.opt_some]
      have hc : evS (Tr rep) (callF (Tr rep) (k + 1)) (mkN (Tr rep) (k + 1)) (.ifs (.cmp .eq (.var 2) (.cst (.int 3))) [.ret (.ife (.cmp .gt (.call 16 [.var 0, .cst (.int 4)]) (.cst (.int 0))) (.slc (.cst (.str [97, 98, 122, 57])) (.call 16 [.var 0, .cst (.int 3)]) (.cst .non)) (.cst (.str [97, 50, 51, 52, 53, 54, 55, 56, 57, 48, 49, 50])))] []) [some (.ref 0), some (.int d6), some (.int r), o] [.lst D] = .next [some (.ref 0), some (.int d6), some (.int r), o] [.lst D] := by
        simp [-ev_call, h3]
      rw [evSs_cons, hc, RS.then_next, evSs_cons, evS_ret, ev_idx, hlst, Res.bind_ok, t1, Res.bind_ok, rd_lst, hix]
      rfl
    · have := List.mem_of_getElem? hlv
      have sub : ∀ v ∈ [Val.int 0, .int (-1), .int 7, .int (10 ^ 40), .int (-10 ^ 20), .int 1000, .bl true, .bl false, .str []], v ∈ leaves := by
        intro v hv
        unfold leaves
        simp only [List.mem_cons, List.not_mem_nil, or_false] at hv ⊢
        rcases hv with h | h | h | h | h | h | h | h | h <;> simp [h]
      exact sub lv this
theorem c_law_data : ∀ (d k Q : Nat) (D : List Val), DrawOk Q D → Q + CC d < 1000000 → ∃ v D', callF (Tr rep) (k + d + 2) 17 [.ref 0, .int (d : Int)] [.lst D] = .ok v [.lst D'] ∧ GD d v ∧ DrawOk (Q + CC d) D' := by
  intro d
  induction d with
  | zero =>
    intro k Q D hD hQ
    simp only [CC] at hQ ⊢
    obtain ⟨D1, r1, c1, hD1, a1, b1⟩ := c_law_take (rep := rep) (k := k) (many := 6) hD (by omega) (by decide) (by decide)
    have t1 := take_at (rep := rep) (cl := callF (Tr rep) (k + 1)) (mk := mkN (Tr rep) (k + 1)) (i := 0) (env := [some (.ref 0), some (.int 0), none, none]) (e := .cst (.int 6)) rfl (by simp) c1
    obtain ⟨v, D2, c2, hv, hD2⟩ := data_rest (rep := rep) (k := k) (d6 := 0) (r := r1) (o := none) (d := 0) hD1 (by omega)
    refine ⟨v, D2, ?_, hv, hD2⟩
    show callF (Tr rep) (k + 1 + 1) 17 _ _ = _
    rw [callF_succ (d := d__law_data) rfl, open_ret (v := v) (s := [.lst D2]) rfl rfl (by simp [closedAll, Val.closed]) ?_, trim1]
    show evSs _ _ _ d__law_data.body [some (.ref 0), some (.int 0), none, none] _ = _
    have h0 : evS (Tr rep) (callF (Tr rep) (k + 1)) (mkN (Tr rep) (k + 1)) (.asg (.nm 2) (.call 16 [.var 0, .cst (.int 6)])) [some (.ref 0), some (.int 0), none, none] [.lst D] = .next [some (.ref 0), some (.int 0), some (.int r1), none] [.lst D1] := by
      rw [evS_asg, t1]; rfl
    have h1 : evS (Tr rep) (callF (Tr rep) (k + 1)) (mkN (Tr rep) (k + 1)) (.ifs (.and (.cmp .gt (.var 1) (.cst (.int 0))) (.cmp .lt (.var 2) (.cst (.int 3)))) [.ret (.bi .tuple [x__law_data_1])] []) [some (.ref 0), some (.int 0), some (.int r1), none] [.lst D1] = .next [some (.ref 0), some (.int 0), some (.int r1), none] [.lst D1] := by
      simp
    rw [d__law_data, evSs_cons, h0, RS.then_next, evSs_cons, h1, RS.then_next]
    exact c2
  | succ d ih =>
    intro k Q D hD hQ
    simp only [CC] at hQ ⊢
    have hl : line = 16777216 := rfl
    obtain ⟨D1, r1, c1, hD1, a1, b1⟩ := c_law_take (rep := rep) (k := k + d + 1) (many := 6) hD (by omega) (by decide) (by decide)
    have t1 := take_at (rep := rep) (cl := callF (Tr rep) (k + d + 2)) (mk := mkN (Tr rep) (k + d + 2)) (i := 0) (env := [some (.ref 0), some (.int ((d + 1 : Nat) : Int)), none, none]) (e := .cst (.int 6)) rfl (by simp) c1
    have h0 : evS (Tr rep) (callF (Tr rep) (k + d + 2)) (mkN (Tr rep) (k + d + 2)) (.asg (.nm 2) (.call 16 [.var 0, .cst (.int 6)])) [some (.ref 0), some (.int ((d + 1 : Nat) : Int)), none, none] [.lst D] = .next [some (.ref 0), some (.int ((d + 1 : Nat) : Int)), some (.int r1), none] [.lst D1] := by
      rw [evS_asg, t1]; rfl
    have hgt : decide ((0 : Int) < ((d + 1 : Nat) : Int)) = true := decide_eq_true (by omega)
    show ∃ v D', callF (Tr rep) (k + d + 2 + 1) 17 _ _ = _ ∧ _
    by_cases h3 : r1 < 3
    · obtain ⟨D2, r2, c2, hD2, a2, b2⟩ := c_law_take (rep := rep) (k := k + d + 1) (many := 4) hD1 (by omega) (by decide) (by decide)
      have t2 := take_at (rep := rep) (cl := callF (Tr rep) (k + d + 2)) (mk := mkN (Tr rep) (k + d + 2)) (i := 0) (env := [some (.ref 0), some (.int ((d + 1 : Nat) : Int)), some (.int r1), none]) (e := .cst (.int 4)) rfl (by simp) c2
      have hr : r2 = ((r2.toNat : Nat) : Int) := by omega
      have hrng : biV (Tr rep) .range [.int r2] = some (.lst (rangeN 0 1 r2.toNat)) := by
        simp only [biV, biRange, rangeV]
        rw [if_pos (by omega)]
        rfl
      obtain ⟨vs, s, hm, D3, e0, hD3, hvs, hlen⟩ := mapL_inv (t := [3]) (one := true) (all := rangeN 0 1 r2.toNat) (c := fun env s => (ev (Tr rep) (callF (Tr rep) (k + d + 2)) (mkN (Tr rep) (k + d + 2)) (.cst (.bl true)) env s).bind asBool) (e := fun env s => ev (Tr rep) (callF (Tr rep) (k + d + 2)) (mkN (Tr rep) (k + d + 2)) (.call 17 [.var 0, .bin .sub (.var 1) (.cst (.int 1))]) env s) (env := wipeE [3] [some (.ref 0), some (.int ((d + 1 : Nat) : Int)), some (.int r1), none])
        (fun q acc st => ∃ D', st = [.lst D'] ∧ DrawOk (Q + 2 + acc.length * CC d) D' ∧ (∀ v ∈ acc, GD d v) ∧ acc.length + q.length = r2.toNat)
        (fun x q acc st ⟨D', e0, hD', hacc, hlen⟩ => by
          subst e0
          have hq3 : acc.length < 3 := by simp at hlen; omega
          have hmul : acc.length * CC d ≤ 2 * CC d := Nat.mul_le_mul_right _ (by omega)
          obtain ⟨v, D4, c4, hv, hD4⟩ := ih k (Q + 2 + acc.length * CC d) D' hD' (by omega)
          refine ⟨[some (.ref 0), some (.int ((d + 1 : Nat) : Int)), some (.int r1), some x], rfl, v, [.lst D4], by simp, ?_, D4, rfl, ?_, fun u hu => ?_, by simp at hlen ⊢; omega⟩
          · have hsub : ((d + 1 : Nat) : Int) - 1 = (d : Int) := by omega
            simp only [ev_call, evs_cons, evs_nil, ev_var, List.getElem?_cons_zero, List.getElem?_cons_succ, Res.bind_ok, ev_bin, ev_cst, rd_int, sub_int, Res.opt_some, hsub]
            exact c4
          · have : (acc ++ [v]).length * CC d = acc.length * CC d + CC d := by simp [Nat.add_mul]
            rw [this, ← Nat.add_assoc]
            exact hD4
          · rcases List.mem_append.mp hu with h | h
            · exact hacc u h
            · simp at h; subst h; exact hv)
        (rangeN 0 1 r2.toNat) [] [.lst D2] ⟨D2, rfl, by simpa using hD2, fun v hv => (nomatch hv), by simp [rng_len]⟩
      subst e0
      simp only [List.nil_append, List.length_nil, Nat.add_zero] at hvs hlen hD3
      have hcp : ev (Tr rep) (callF (Tr rep) (k + d + 2)) (mkN (Tr rep) (k + d + 2)) x__law_data_1 [some (.ref 0), some (.int ((d + 1 : Nat) : Int)), some (.int r1), none] [.lst D1] = .ok (.lst vs) [.lst D3] := by
        have hit : ev (Tr rep) (callF (Tr rep) (k + d + 2)) (mkN (Tr rep) (k + d + 2)) (.bi .range [.call 16 [.var 0, .cst (.int 4)]]) [some (.ref 0), some (.int ((d + 1 : Nat) : Int)), some (.int r1), none] [.lst D1] = .ok (.lst (rangeN 0 1 r2.toNat)) [.lst D2] := by
          rw [ev_bi, evs_cons, t2, Res.bind_ok, evs_nil, Res.bind_ok, Res.bind_ok, List.map_cons, List.map_nil, rdI_int, hrng]
          rfl
        rw [x__law_data_1, ev_cp1, hit, Res.bind_ok, walked_lst]
        dsimp only
        rw [if_pos (by rw [rng_len]; omega), hm, Res.bind_ok]
      refine ⟨.tup vs, D3, ?_, GD.tup (by omega) hvs, hD3.mono ?_⟩
      · rw [callF_succ (d := d__law_data) rfl, open_ret (v := .tup vs) (s := [.lst D3]) rfl rfl (by simp [closedAll, Val.closed]) ?_, trim1]
        show evSs _ _ _ d__law_data.body [some (.ref 0), some (.int ((d + 1 : Nat) : Int)), none, none] _ = _
        rw [d__law_data, evSs_cons, h0, RS.then_next, evSs_cons, evS_ifs]
        simp only [ev_and, ev_cmp, ev_var, List.getElem?_cons_zero, List.getElem?_cons_succ, Res.bind_ok, ev_cst, rd_int, cmp_gt, hgt, Option.map_some, Res.opt_some, asBool_bl, if_true, cmp_lt, decide_eq_true h3, Res.into_ok, evSs_cons, evS_ret, ev_bi, evs_cons, hcp, evs_nil, List.map_cons, List.map_nil, rdI_lst, bi_tupL, RS.then_ret]
      · have : vs.length * CC d ≤ 3 * CC d := Nat.mul_le_mul_right _ (by omega)
        omega
    · obtain ⟨v, D2, c2, hv, hD2⟩ := data_rest (rep := rep) (k := k + d + 1) (d6 := ((d + 1 : Nat) : Int)) (r := r1) (o := none) (d := d + 1) hD1 (by omega)
      refine ⟨v, D2, ?_, hv, hD2.mono (by omega)⟩
      rw [callF_succ (d := d__law_data) rfl, open_ret (v := v) (s := [.lst D2]) rfl rfl (by simp [closedAll, Val.closed]) ?_, trim1]
      show evSs _ _ _ d__law_data.body [some (.ref 0), some (.int ((d + 1 : Nat) : Int)), none, none] _ = _
      have h1 : evS (Tr rep) (callF (Tr rep) (k + d + 2)) (mkN (Tr rep) (k + d + 2)) (.ifs (.and (.cmp .gt (.var 1) (.cst (.int 0))) (.cmp .lt (.var 2) (.cst (.int 3)))) [.ret (.bi .tuple [x__law_data_1])] []) [some (.ref 0), some (.int ((d + 1 : Nat) : Int)), some (.int r1), none] [.lst D1] = .next [some (.ref 0), some (.int ((d + 1 : Nat) : Int)), some (.int r1), none] [.lst D1] := by
        simp only [evS_ifs, ev_and, ev_cmp, ev_var, List.getElem?_cons_zero, List.getElem?_cons_succ, Res.bind_ok, ev_cst, rd_int, cmp_gt, hgt, Option.map_some, Res.opt_some, asBool_bl, if_true, cmp_lt, decide_eq_false h3, Res.into_ok, Bool.false_eq_true, if_false, evSs_nil]
      rw [d__law_data, evSs_cons, h0, RS.then_next, evSs_cons, h1, RS.then_next]
      exact c2
end Nt
end
section
set_option linter.all false
set_option maxRecDepth 100000
set_option maxHeartbeats 4000000
/-! k53, the plain part: the law's own reader. -/
namespace Nt
open Nl
variable {rep : Val → List Nat} {st : Store} {k : Nat}
structure LS where
  rows : List (List Val)
  done : List Val
  ahead : Bool
def laT (t : List Nat) : Option Val := if t = [43] then some (.bl true) else if t = [45] then some (.bl false) else if t = [46] then some (.str []) else if wordS t then some (.str t) else (numT t).map .int
def atomL (tok : List Nat) (s : LS) : Option LS := match laT tok with
  | none => none
  | some v => if s.ahead then some ⟨s.rows, [v], false⟩ else none
def flushL (tok : List Nat) (s : LS) : Option LS := if tok = [] then some s else atomL tok s
def puncL (c : Nat) (s : LS) : Option LS :=
  if c = 91 then (if s.ahead then some ⟨[] :: s.rows, s.done, s.ahead⟩ else none)
  else if c = 44 then (if s.ahead then none else match s.rows with | [] => none | r :: R => some ⟨(r ++ s.done) :: R, s.done, true⟩)
  else match s.rows with | [] => none | r :: R => if s.ahead && !r.isEmpty then none else some ⟨R, [.tup (r ++ (if s.ahead then [] else s.done))], false⟩
structure RL (rows : List (List Val)) (ids : List Nat) (st : Store) : Prop where
  h0 : st[0]? = some (.lst (ids.reverse.map .ref))
  nd : ids.Nodup
  len : ids.length = rows.length
  row : ∀ (j i : Nat) (r : List Val), ids[j]? = some i → rows[j]? = some r → 1 ≤ i ∧ st[i]? = some (.lst r)
theorem eqV_nil (xs : List Val) : eqV (.lst xs) (.lst []) = some xs.isEmpty := by
  cases xs with
  | nil => simp [eqV, Val.data, dataAll, eqD, eqDs, depthV, depthVs]
  | cons x r =>
    unfold eqV
    split
    · simp [eqD, eqDs]
    · rfl
abbrev lEnv (t : List Nat) (s : LS) (tok : List Nat) (a5 a6 a7 : Option Val) : Env := [some (.str t), some (.ref 0), some (.lst s.done), some (.str tok), some (.bl s.ahead), a5, a6, a7]
abbrev sFlush : Sm := .ifs (.cmp .ne (.var 3) (.cst (.str []))) [.asg (.nm 6) (.bm .get (.dct [.cst (.str [43]), .cst (.bl true), .cst (.str [45]), .cst (.bl false), .cst (.str [46]), .cst (.str [])]) [.var 3, .ife (.call 18 [.var 3]) (.var 3) (.call 20 [.var 3])]), .ifs (.or (.cmp .is (.var 6) (.cst (.non))) (.not (.var 4))) [.ret (.cst (.non))] [], .gen [.nm 2, .nm 4, .nm 3] (.tup [.lst [.var 6], .cst (.bl false), .cst (.str [])])] []
abbrev sPunc : Sm := .ifs (.cmp .eq (.var 5) (.cst (.str [91]))) [.ifs (.not (.var 4)) [.ret (.cst (.non))] [], .ex (.bm .append (.var 1) [.new (.lst [])])] [.ifs (.cmp .eq (.var 5) (.cst (.str [44]))) [.ifs (.or (.var 4) (.cmp .eq (.var 1) (.lst []))) [.ret (.cst (.non))] [], .ex (.bm .append (.idx (.var 1) (.neg (.cst (.int 1)))) [.idx (.var 2) (.cst (.int 0))]), .asg (.nm 4) (.cst (.bl true))] [.ifs (.cmp .eq (.var 5) (.cst (.str [93]))) [.ifs (.or (.cmp .eq (.var 1) (.lst [])) (.and (.var 4) (.cmp .ne (.idx (.var 1) (.neg (.cst (.int 1)))) (.lst [])))) [.ret (.cst (.non))] [], .asg (.nm 7) (.bm .pop (.var 1) []), .gen [.nm 2, .nm 4] (.tup [.lst [.bi .tuple [.bin .add (.var 7) (.ife (.var 4) (.lst []) (.lst [.idx (.var 2) (.cst (.int 0))]))]], .cst (.bl false)])] []]]
theorem body_read : b__law_read_1 = [.ifs (.cmp .isin (.var 5) (.cst (.str [91, 93, 44, 59]))) [sFlush, sPunc] [.asg (.nm 3) (.bin .add (.var 3) (.var 5))]] := rfl
theorem get_at {z : List Nat} {d : Val} : bmV .get (.dct [.str [43], .str [45], .str [46]] [.bl true, .bl false, .str []]) [.str z, d] st = some (if z = [43] then .bl true else if z = [45] then .bl false else if z = [46] then .str [] else d, st) := by
  have hk : (inV.keyV (.str z) && [Val.str [43], .str [45], .str [46]].all inV.keyV) = true := rfl
  show (match rd st (.dct [.str [43], .str [45], .str [46]] [.bl true, .bl false, .str []]) with
    | .dct ks vs => if inV.keyV (.str z) && ks.all inV.keyV then some ((((keyIx (.str z) ks).bind fun j => vs[j]?).getD d), st) else none
    | _ => none) = _
  rw [rd_dct]
  dsimp only
  rw [if_pos hk, signs_ix]
  by_cases h1 : z = [43]
  · simp [h1]
  · by_cases h2 : z = [45]
    · simp [h2]
    · by_cases h3 : z = [46]
      · simp [h3]
      · simp [h1, h2, h3]
theorem s_flush {t tok : List Nat} {s : LS} {a5 a6 a7 : Option Val} (ht : tok.length ≤ 4200) : match flushL tok s with
    | some s' => ∃ a6', evS (Tr rep) (callF (Tr rep) (k + 1)) (mkN (Tr rep) (k + 1)) sFlush (lEnv t s tok a5 a6 a7) st = .next (lEnv t s' [] a5 a6' a7) st
    | none => evS (Tr rep) (callF (Tr rep) (k + 1)) (mkN (Tr rep) (k + 1)) sFlush (lEnv t s tok a5 a6 a7) st = .ret .non st := by
  have hl : line = 16777216 := rfl
  unfold flushL
  by_cases h0 : tok = []
  · rw [if_pos h0]
    subst h0
    exact ⟨a6, by simp [sFlush]⟩
  · rw [if_neg h0]
    have hw := c_law_word (rep := rep) (k := k) (st := st) (.str tok) rfl (by simp [small]; omega)
    have hn := c_law_number (rep := rep) (k := k) (st := st) tok (by omega) (Nat.le_trans (bodyT_len tok) ht)
    have hdct : ev (Tr rep) (callF (Tr rep) (k + 1)) (mkN (Tr rep) (k + 1)) (.dct [.cst (.str [43]), .cst (.bl true), .cst (.str [45]), .cst (.bl false), .cst (.str [46]), .cst (.str [])]) (lEnv t s tok a5 a6 a7) st = .ok (.dct [.str [43], .str [45], .str [46]] [.bl true, .bl false, .str []]) st := by
      simp [altL, inV.keyV, distK, keyIx, eqD]
    obtain ⟨dv, hdv, hval⟩ : ∃ dv, ev (Tr rep) (callF (Tr rep) (k + 1)) (mkN (Tr rep) (k + 1)) (.ife (.call 18 [.var 3]) (.var 3) (.call 20 [.var 3])) (lEnv t s tok a5 a6 a7) st = .ok dv st ∧ (if tok = [43] then Val.bl true else if tok = [45] then .bl false else if tok = [46] then .str [] else dv) = (laT tok).getD .non := by
      cases hws : wordS tok with
      | true =>
        refine ⟨.str tok, by simp [hw, isWord, hws], ?_⟩
        unfold laT
        rw [hws]
        split
        · rfl
        · split
          · rfl
          · split <;> rfl
      | false =>
        refine ⟨(match numT tok with | some i => .int i | none => .non), by simp [hw, isWord, hws, hn] <;> rfl, ?_⟩
        unfold laT
        rw [hws]
        split
        · rfl
        · split
          · rfl
          · split
            · rfl
            · cases numT tok <;> rfl
    have hget : evS (Tr rep) (callF (Tr rep) (k + 1)) (mkN (Tr rep) (k + 1)) (.asg (.nm 6) (.bm .get (.dct [.cst (.str [43]), .cst (.bl true), .cst (.str [45]), .cst (.bl false), .cst (.str [46]), .cst (.str [])]) [.var 3, .ife (.call 18 [.var 3]) (.var 3) (.call 20 [.var 3])])) (lEnv t s tok a5 a6 a7) st = .next (lEnv t s tok a5 (some ((laT tok).getD .non)) a7) st := by
      have hrc : ∀ ks vs, rcvT .get (.dct ks vs) = true := fun _ _ => rfl
      rw [evS_asg, ev_bm, hdct, Res.bind_ok, rd_dct, hrc, if_pos rfl, evs_cons, ev_var]
      simp only [List.getElem?_cons_succ, List.getElem?_cons_zero, Res.bind_ok, evs_cons, hdv, evs_nil, get_at, hval, Res.into_ok, putLv_nm, List.set_cons_succ, List.set_cons_zero]
    unfold atomL
    cases hla : laT tok with
    | none =>
      rw [hla] at hget
      simp only [Option.getD_none] at hget
      simp only [sFlush, evS_ifs, ev_cmp, ev_var, List.getElem?_cons_succ, List.getElem?_cons_zero, Res.bind_ok, ev_cst, rd_str, cmp_ne, eqV_str, Option.map_some, Res.opt_some, asBool_bl, Res.into_ok]
      rw [if_pos (by simpa using h0), evSs_cons, hget, RS.then_next]
      simp
    | some v =>
      rw [hla] at hget
      simp only [Option.getD_some] at hget
      have hvn : isV v .non = some false := by
        unfold laT at hla
        split at hla
        · cases hla; rfl
        · split at hla
          · cases hla; rfl
          · split at hla
            · cases hla; rfl
            · split at hla
              · cases hla; rfl
              · cases hq : numT tok with
                | none => rw [hq] at hla; cases hla
                | some i => rw [hq] at hla; cases hla; rfl
      have hrd : rd st v = v := by
        cases v <;> first | rfl | (simp [isV] at hvn) | skip
        unfold laT at hla
        split at hla
        · cases hla
        · split at hla
          · cases hla
          · split at hla
            · cases hla
            · split at hla
              · cases hla
              · cases hq : numT tok with
                | none => rw [hq] at hla; cases hla
                | some i => rw [hq] at hla; cases hla
      dsimp only
      cases ha : s.ahead with
      | true =>
        rw [if_pos rfl]
        refine ⟨some v, ?_⟩
        simp only [sFlush, evS_ifs, ev_cmp, ev_var, List.getElem?_cons_succ, List.getElem?_cons_zero, Res.bind_ok, ev_cst, rd_str, cmp_ne, eqV_str, Option.map_some, Res.opt_some, asBool_bl, Res.into_ok]
        rw [if_pos (by simpa using h0), evSs_cons, hget, RS.then_next]
        simp [hrd, hvn, ha]
      | false =>
        rw [if_neg (by simp)]
        simp only [sFlush, evS_ifs, ev_cmp, ev_var, List.getElem?_cons_succ, List.getElem?_cons_zero, Res.bind_ok, ev_cst, rd_str, cmp_ne, eqV_str, Option.map_some, Res.opt_some, asBool_bl, Res.into_ok]
        rw [if_pos (by simpa using h0), evSs_cons, hget, RS.then_next]
        simp [hrd, hvn, ha]
def bdL (B : Nat) (s : LS) : Prop := (∀ r ∈ s.rows, r.length ≤ B) ∧ s.done.length ≤ 1 ∧ s.rows.length ≤ B ∧ (s.ahead = false → ∃ v, s.done = [v])
theorem s_punc {t : List Nat} {s : LS} {ids : List Nat} {c B : Nat} {a6 a7 : Option Val} (hc : isX c = true) (R : RL s.rows ids st) (hb : bdL B s) (hB : B < 16000000) : match puncL c s with
    | some s' => ∃ ids' st' a7', evS (Tr rep) (callF (Tr rep) (k + 1)) (mkN (Tr rep) (k + 1)) sPunc (lEnv t s [] (some (.str [c])) a6 a7) st = .next (lEnv t s' [] (some (.str [c])) a6 a7') st' ∧ RL s'.rows ids' st'
    | none => ∃ st', evS (Tr rep) (callF (Tr rep) (k + 1)) (mkN (Tr rep) (k + 1)) sPunc (lEnv t s [] (some (.str [c])) a6 a7) st = .ret .non st' := by
  have hl : line = 16777216 := rfl
  obtain ⟨b1, b2, b3, b4⟩ := hb
  have hlen : (ids.reverse.map Val.ref).length = s.rows.length := by simp [R.len]
  have hrd : rd st (.ref 0) = .lst (ids.reverse.map .ref) := rd_at R.h0
  have hemp : (ids.reverse.map Val.ref).isEmpty = s.rows.isEmpty := by
    cases hs : s.rows with
    | nil => have : ids = [] := List.length_eq_zero_iff.mp (by rw [R.len, hs]; rfl); subst this; rfl
    | cons r R' =>
      cases hi : ids with
      | nil => have := R.len; rw [hi, hs] at this; cases this
      | cons _ _ => simp
  have heq : eqV (.lst (ids.reverse.map .ref)) (.lst []) = some s.rows.isEmpty := by rw [eqV_nil, hemp]
  unfold puncL
  by_cases h1 : c = 91
  · subst h1
    rw [if_pos rfl]
    cases ha : s.ahead with
    | false =>
      rw [if_neg (by simp)]
      exact ⟨st, by simp [sPunc, ha]⟩
    | true =>
      rw [if_pos rfl]
      have h0' : (st ++ [Ob.lst []])[0]? = some (.lst (ids.reverse.map .ref)) := by rw [List.getElem?_append_left (by have := getElem_lt R.h0; omega)]; exact R.h0
      have hn := getElem_lt R.h0
      have a1 := ev_app (T := Tr rep) (cl := callF (Tr rep) (k + 1)) (mk := mkN (Tr rep) (k + 1)) (o := .var 1) (e := .new (.lst [])) (env := lEnv t s [] (some (.str [91])) a6 a7) (s := st ++ [.lst []]) (A := ids.reverse.map .ref) (v := .ref st.length) (by simp) (by simp) ⟨_, R.h0⟩ h0' (by rw [hlen]; omega)
      refine ⟨st.length :: ids, (st ++ [Ob.lst []]).set 0 (.lst (ids.reverse.map Val.ref ++ [Val.ref st.length])), a7, ?_, ?_⟩
      · have hx : evS (Tr rep) (callF (Tr rep) (k + 1)) (mkN (Tr rep) (k + 1)) (.ex (.bm .append (.var 1) [.new (.lst [])])) (lEnv t s [] (some (.str [91])) a6 a7) st = .next (lEnv t s [] (some (.str [91])) a6 a7) ((st ++ [Ob.lst []]).set 0 (.lst (ids.reverse.map Val.ref ++ [Val.ref st.length]))) := by
          rw [evS_ex, a1]; rfl
        simp [-evS_ex, sPunc, ha, hx]
      · refine ⟨by rw [set_get h0']; simp, ?_, by simp [R.len], fun j i r e1 e2 => ?_⟩
        · refine List.nodup_cons.mpr ⟨fun m => ?_, R.nd⟩
          obtain ⟨j, hj, e⟩ := List.mem_iff_getElem.mp m
          have hj2 : j < s.rows.length := by rw [← R.len]; exact hj
          obtain ⟨_, q⟩ := R.row j _ _ (List.getElem?_eq_getElem hj) (List.getElem?_eq_getElem hj2)
          have := getElem_lt q
          omega
        · cases j with
          | zero =>
            simp at e1 e2
            subst e1 e2
            exact ⟨by omega, by rw [set_get_ne (by omega), List.getElem?_append_right (Nat.le_refl _)]; simp⟩
          | succ j =>
            obtain ⟨q1, q2⟩ := R.row j i r (by simpa using e1) (by simpa using e2)
            exact ⟨q1, by rw [set_get_ne (by omega), List.getElem?_append_left (getElem_lt q2)]; exact q2⟩
  · rw [if_neg h1]
    by_cases h2 : c = 44
    · subst h2
      rw [if_pos rfl]
      cases ha : s.ahead with
      | true =>
        rw [if_pos rfl]
        exact ⟨st, by simp [sPunc, ha]⟩
      | false =>
        rw [if_neg (by simp)]
        cases hrows : s.rows with
        | nil =>
          rw [hrows] at heq
          exact ⟨st, by simp only [sPunc, evS_ifs, ev_cmp, ev_var, List.getElem?_cons_succ, List.getElem?_cons_zero, Res.bind_ok, ev_cst, rd_str, cmp_eq, eqV_str, Option.map_some, Res.opt_some, asBool_bl, Res.into_ok]; simp [ha, heq, hrd]; simp only [R.h0, heq]; simp⟩
        | cons r R' =>
          cases ids with
          | nil => have := R.len; rw [hrows] at this; cases this
          | cons i I =>
            obtain ⟨v, hv⟩ := b4 ha
            obtain ⟨hi1, hri⟩ := R.row 0 i r rfl (by rw [hrows]; rfl)
            have h0 := R.h0
            simp only [List.reverse_cons, List.map_append, List.map_cons, List.map_nil] at h0 heq hrd
            rw [hrows] at heq
            have hix : ev (Tr rep) (callF (Tr rep) (k + 1)) (mkN (Tr rep) (k + 1)) (.idx (.var 1) (.neg (.cst (.int 1)))) (lEnv t s [] (some (.str [44])) a6 a7) st = .ok (.ref i) st := by
              rw [ev_idx, ev_var]
              simp only [List.getElem?_cons_succ, List.getElem?_cons_zero, Res.bind_ok, ev_neg, ev_cst, hrd, idx_last, Res.opt_some]
            have hd0 : ev (Tr rep) (callF (Tr rep) (k + 1)) (mkN (Tr rep) (k + 1)) (.idx (.var 2) (.cst (.int 0))) (lEnv t s [] (some (.str [44])) a6 a7) st = .ok v st := by
              have : idxV (.lst [v]) (.int 0) = some v := idx_lst (i := 0) rfl
              rw [ev_idx, ev_var]
              simp only [List.getElem?_cons_succ, List.getElem?_cons_zero, Res.bind_ok, ev_cst, rd_lst, hv, this, Res.opt_some]
            have a1 := ev_app (T := Tr rep) (cl := callF (Tr rep) (k + 1)) (mk := mkN (Tr rep) (k + 1)) (o := .idx (.var 1) (.neg (.cst (.int 1)))) (e := .idx (.var 2) (.cst (.int 0))) (env := lEnv t s [] (some (.str [44])) a6 a7) (s := st) (A := r) (v := v) hix hd0 ⟨_, hri⟩ hri (by have := b1 r (by rw [hrows]; exact List.mem_cons_self); omega)
            refine ⟨i :: I, st.set i (.lst (r ++ [v])), a7, ?_, ?_⟩
            · have hx : evS (Tr rep) (callF (Tr rep) (k + 1)) (mkN (Tr rep) (k + 1)) (.ex (.bm .append (.idx (.var 1) (.neg (.cst (.int 1)))) [.idx (.var 2) (.cst (.int 0))])) (lEnv t s [] (some (.str [44])) a6 a7) st = .next (lEnv t s [] (some (.str [44])) a6 a7) (st.set i (.lst (r ++ [v]))) := by
                rw [evS_ex, a1]; rfl
              have cond : ev (Tr rep) (callF (Tr rep) (k + 1)) (mkN (Tr rep) (k + 1)) (.or (.var 4) (.cmp .eq (.var 1) (.lst []))) (lEnv t s [] (some (.str [44])) a6 a7) st = .ok (.bl false) st := by
                rw [ev_or, ev_var]
                simp only [List.getElem?_cons_succ, List.getElem?_cons_zero, Res.bind_ok, ha, asBool_bl, Bool.false_eq_true, if_false, ev_cmp, ev_var, ev_lst, evs_nil, hrd, rd_lst, cmp_eq, heq, Option.map_some, Res.opt_some, List.isEmpty_cons]
              simp [-evS_ex, -ev_or, sPunc, cond, hx, hv]
            · refine ⟨by rw [set_get_ne (by omega)]; exact R.h0, R.nd, by simpa [hrows] using R.len, fun j i' r' e1 e2 => ?_⟩
              cases j with
              | zero =>
                simp at e1 e2
                subst e1 e2
                rw [hv]
                exact ⟨hi1, set_get hri⟩
              | succ j =>
                obtain ⟨q1, q2⟩ := R.row (j + 1) i' r' e1 (by rw [hrows]; exact e2)
                have : i' ≠ i := fun z => by
                  subst z
                  exact (List.nodup_cons.mp R.nd).1 (List.mem_of_getElem? (by simpa using e1))
                exact ⟨q1, by rw [set_get_ne (Ne.symm this)]; exact q2⟩
    · rw [if_neg h2]
      have h3 : c = 93 := by
        simp [isX] at hc
        omega
      subst h3
      cases hrows : s.rows with
      | nil =>
        rw [hrows] at heq
        refine ⟨st, ?_⟩
        have cond : ev (Tr rep) (callF (Tr rep) (k + 1)) (mkN (Tr rep) (k + 1)) (.or (.cmp .eq (.var 1) (.lst [])) (.and (.var 4) (.cmp .ne (.idx (.var 1) (.neg (.cst (.int 1)))) (.lst [])))) (lEnv t s [] (some (.str [93])) a6 a7) st = .ok (.bl true) st := by
          rw [ev_or, ev_cmp, ev_var]
          simp only [List.getElem?_cons_succ, List.getElem?_cons_zero, Res.bind_ok, ev_lst, evs_nil, hrd, rd_lst, cmp_eq, heq, Option.map_some, Res.opt_some, asBool_bl, List.isEmpty_nil, if_true]
        simp [-ev_or, sPunc, cond]
      | cons r R' =>
        cases ids with
        | nil => have := R.len; rw [hrows] at this; cases this
        | cons i I =>
          obtain ⟨hi1, hri⟩ := R.row 0 i r rfl (by rw [hrows]; rfl)
          have h0 := R.h0
          simp only [List.reverse_cons, List.map_append, List.map_cons, List.map_nil] at h0 heq hrd
          rw [hrows] at heq
          have hix : ev (Tr rep) (callF (Tr rep) (k + 1)) (mkN (Tr rep) (k + 1)) (.idx (.var 1) (.neg (.cst (.int 1)))) (lEnv t s [] (some (.str [93])) a6 a7) st = .ok (.ref i) st := by
            rw [ev_idx, ev_var]
            simp only [List.getElem?_cons_succ, List.getElem?_cons_zero, Res.bind_ok, ev_neg, ev_cst, hrd, idx_last, Res.opt_some]
          have cond : ev (Tr rep) (callF (Tr rep) (k + 1)) (mkN (Tr rep) (k + 1)) (.or (.cmp .eq (.var 1) (.lst [])) (.and (.var 4) (.cmp .ne (.idx (.var 1) (.neg (.cst (.int 1)))) (.lst [])))) (lEnv t s [] (some (.str [93])) a6 a7) st = .ok (.bl (s.ahead && !r.isEmpty)) st := by
            rw [ev_or, ev_cmp, ev_var]
            simp only [List.getElem?_cons_succ, List.getElem?_cons_zero, Res.bind_ok, ev_lst, evs_nil, hrd, rd_lst, cmp_eq, heq, Option.map_some, Res.opt_some, asBool_bl, List.isEmpty_cons, Bool.false_eq_true, if_false, ev_and, ev_var]
            cases s.ahead with
            | false => simp only [Bool.false_eq_true, if_false, Bool.false_and]
            | true => simp only [if_true, Bool.true_and, ev_cmp, hix, Res.bind_ok, ev_lst, evs_nil, rd_at hri, rd_lst, cmp_ne, eqV_nil, Option.map_some, Res.opt_some]
          cases hcc : (s.ahead && !r.isEmpty) with
          | true =>
            rw [hcc] at cond
            dsimp only
            rw [if_pos hcc]
            exact ⟨st, by simp [-ev_or, sPunc, cond]⟩
          | false =>
            rw [hcc] at cond
            dsimp only
            rw [if_neg (by rw [hcc]; simp)]
            have hpop := ev_pop (T := Tr rep) (cl := callF (Tr rep) (k + 1)) (mk := mkN (Tr rep) (k + 1)) (o := .var 1) (env := lEnv t s [] (some (.str [93])) a6 a7) (A := I.reverse.map .ref) (x := .ref i) (by simp) h0
            have hri1 : (st.set 0 (.lst (I.reverse.map .ref)))[i]? = some (.lst r) := by rw [set_get_ne (by omega)]; exact hri
            have hrl := b1 r (by rw [hrows]; exact List.mem_cons_self)
            have hpart : ∀ env : Env, env[4]? = some (some (.bl s.ahead)) → env[2]? = some (some (.lst s.done)) → ev (Tr rep) (callF (Tr rep) (k + 1)) (mkN (Tr rep) (k + 1)) (.ife (.var 4) (.lst []) (.lst [.idx (.var 2) (.cst (.int 0))])) env (st.set 0 (.lst (I.reverse.map .ref))) = .ok (.lst (if s.ahead then [] else s.done)) (st.set 0 (.lst (I.reverse.map .ref))) := fun env g1 g2 => by
              rw [ev_ife, ev_var, g1]
              cases ha : s.ahead with
              | true => simp
              | false =>
                obtain ⟨v, hv⟩ := b4 ha
                have : idxV (.lst [v]) (.int 0) = some v := idx_lst (i := 0) rfl
                simp [g2, hv, this]
            have hadd := add_lst (s := r) (t := if s.ahead then [] else s.done) (by
              have hq : (if s.ahead = true then [] else s.done).length ≤ 1 := by
                split
                · simp
                · exact b2
              omega)
            have hbin : ∀ env : Env, env[4]? = some (some (.bl s.ahead)) → env[2]? = some (some (.lst s.done)) → env[7]? = some (some (.ref i)) → ev (Tr rep) (callF (Tr rep) (k + 1)) (mkN (Tr rep) (k + 1)) (.bin .add (.var 7) (.ife (.var 4) (.lst []) (.lst [.idx (.var 2) (.cst (.int 0))]))) env (st.set 0 (.lst (I.reverse.map .ref))) = .ok (.lst (r ++ if s.ahead then [] else s.done)) (st.set 0 (.lst (I.reverse.map .ref))) := fun env g1 g2 g3 => by
              rw [ev_bin, ev_var, g3]
              simp only [Res.bind_ok, hpart env g1 g2, rd_at hri1, rd_lst, hadd, Res.opt_some]
            refine ⟨I, st.set 0 (.lst (I.reverse.map .ref)), some (.ref i), ?_, ?_⟩
            · have hp7 : evS (Tr rep) (callF (Tr rep) (k + 1)) (mkN (Tr rep) (k + 1)) (.asg (.nm 7) (.bm .pop (.var 1) [])) (lEnv t s [] (some (.str [93])) a6 a7) st = .next (lEnv t s [] (some (.str [93])) a6 (some (.ref i))) (st.set 0 (.lst (I.reverse.map .ref))) := by
                rw [evS_asg, hpop]; rfl
              have hb7 := hbin (lEnv t s [] (some (.str [93])) a6 (some (.ref i))) rfl rfl rfl
              have hg7 : evS (Tr rep) (callF (Tr rep) (k + 1)) (mkN (Tr rep) (k + 1)) (.gen [.nm 2, .nm 4] (.tup [.lst [.bi .tuple [.bin .add (.var 7) (.ife (.var 4) (.lst []) (.lst [.idx (.var 2) (.cst (.int 0))]))]], .cst (.bl false)])) (lEnv t s [] (some (.str [93])) a6 (some (.ref i))) (st.set 0 (.lst (I.reverse.map .ref))) = .next (lEnv t ⟨R', [.tup (r ++ if s.ahead then [] else s.done)], false⟩ [] (some (.str [93])) a6 (some (.ref i))) (st.set 0 (.lst (I.reverse.map .ref))) := by
                rw [evS_gen, ev_tup, evs_cons, ev_lst, evs_cons, ev_bi, evs_cons, hb7]
                simp
              have e91 : ([93] == ([91] : List Nat)) = false := rfl
              have e44 : ([93] == ([44] : List Nat)) = false := rfl
              have e93 : ([93] == ([93] : List Nat)) = true := rfl
              simp only [sPunc, evS_ifs, ev_cmp, ev_var, List.getElem?_cons_succ, List.getElem?_cons_zero, Res.bind_ok, ev_cst, rd_str, cmp_eq, eqV_str, e91, e44, e93, Option.map_some, Res.opt_some, asBool_bl, Res.into_ok, Bool.false_eq_true, if_false, evSs_cons, if_true, evSs_nil, RS.then_next]
              rw [cond]
              simp only [Res.bind_ok, asBool_bl, Res.into_ok, Bool.false_eq_true, if_false, RS.then_next, hp7, hg7]
            · refine ⟨set_get R.h0, (List.nodup_cons.mp R.nd).2, by have := R.len; rw [hrows] at this; simpa using this, fun j i' r' e1 e2 => ?_⟩
              obtain ⟨q1, q2⟩ := R.row (j + 1) i' r' (by simpa using e1) (by rw [hrows]; simpa using e2)
              exact ⟨q1, by rw [set_get_ne (by omega)]; exact q2⟩
end Nt
end
section
set_option linter.all false
set_option maxRecDepth 100000
set_option maxHeartbeats 4000000
/-! k53, the plain part: the law's own reader, whole. -/
namespace Nt
open Nl
variable {rep : Val → List Nat} {st : Store} {k : Nat}
def stepL (p : List Nat) (s : LS) : Option LS := match p with
  | [c] => if isX c then puncL c s else atomL [c] s
  | p => atomL p s
def runL : List (List Nat) → LS → Option LS
  | [], s => some s
  | p :: r, s => (stepL p s).bind (runL r)
def endL (s : LS) : Option Val := if s.rows.isEmpty && !s.ahead then some (.lst s.done) else none
def lawT (t : List Nat) : Option Val := (runL (P [] t) ⟨[], [], true⟩).bind endL
theorem step_tok {tok : List Nat} {s : LS} (h : ∀ d ∈ tok, isX d = false) : stepL tok s = atomL tok s := by
  unfold stepL
  split
  · rename_i c
    rw [if_neg (by rw [h c (by simp)]; simp)]
  · rfl
theorem step_X {c : Nat} {s : LS} (h : isX c = true) : stepL [c] s = puncL c s := by simp [stepL, h]
theorem run_flush {tok : List Nat} {s : LS} {r : List (List Nat)} (h : ∀ d ∈ tok, isX d = false) : runL ((if tok = [] then [] else [tok]) ++ r) s = (flushL tok s).bind (runL r) := by
  unfold flushL
  by_cases h0 : tok = []
  · simp [h0]
  · rw [if_neg h0, if_neg h0]
    simp [runL, step_tok h]
theorem atom_bd {B : Nat} {tok : List Nat} {s s' : LS} (h : bdL B s) (e : atomL tok s = some s') : bdL B s' := by
  unfold atomL at e
  split at e
  · cases e
  · split at e
    · cases e
      exact ⟨h.1, by simp, h.2.2.1, fun _ => ⟨_, rfl⟩⟩
    · cases e
theorem flush_bd {B : Nat} {tok : List Nat} {s s' : LS} (h : bdL B s) (e : flushL tok s = some s') : bdL B s' := by
  unfold flushL at e
  split at e
  · cases e; exact h
  · exact atom_bd h e
theorem punc_bd {B c : Nat} {s s' : LS} (h : bdL B s) (e : puncL c s = some s') : bdL (B + 1) s' := by
  obtain ⟨b1, b2, b3, b4⟩ := h
  unfold puncL at e
  split at e
  · split at e
    · cases e
      rename_i ha
      refine ⟨fun q hq => ?_, b2, by simpa using b3, b4⟩
      rcases List.mem_cons.mp hq with rfl | hq
      · simp
      · exact Nat.le_succ_of_le (b1 q hq)
    · cases e
  · split at e
    · split at e
      · cases e
      · split at e
        · cases e
        · rename_i r R hr
          cases e
          rw [hr] at b1 b3
          refine ⟨fun q hq => ?_, b2, by simp at b3 ⊢; omega, fun h => by cases h⟩
          rcases List.mem_cons.mp hq with rfl | hq
          · have := b1 r List.mem_cons_self; simp; omega
          · exact Nat.le_succ_of_le (b1 q (List.mem_cons_of_mem _ hq))
    · split at e
      · cases e
      · rename_i r R hr
        split at e
        · cases e
        · cases e
          rw [hr] at b1 b3
          exact ⟨fun q hq => Nat.le_succ_of_le (b1 q (List.mem_cons_of_mem _ hq)), by simp, by simp at b3 ⊢; omega, fun _ => ⟨_, rfl⟩⟩
def gL (s : LS) : Prop := (∀ r ∈ s.rows, dataAll r = true) ∧ dataAll s.done = true
theorem laT_data {p : List Nat} {v : Val} (h : laT p = some v) : v.data = true := by
  unfold laT at h
  split at h
  · cases h; rfl
  · split at h
    · cases h; rfl
    · split at h
      · cases h; rfl
      · split at h
        · cases h; rfl
        · cases hr : numT p with
          | none => rw [hr] at h; cases h
          | some i => rw [hr] at h; cases h; rfl
theorem atom_gL {tok : List Nat} {s s' : LS} (h : gL s) (e : atomL tok s = some s') : gL s' := by
  unfold atomL at e
  split at e
  · cases e
  · rename_i v hv
    split at e
    · cases e
      exact ⟨h.1, by simp [dataAll, laT_data hv]⟩
    · cases e
theorem punc_gL {c : Nat} {s s' : LS} (h : gL s) (e : puncL c s = some s') : gL s' := by
  obtain ⟨g1, g2⟩ := h
  unfold puncL at e
  split at e
  · split at e
    · cases e
      refine ⟨fun q hq => ?_, g2⟩
      rcases List.mem_cons.mp hq with rfl | hq
      · rfl
      · exact g1 q hq
    · cases e
  · split at e
    · split at e
      · cases e
      · split at e
        · cases e
        · rename_i r R hr
          cases e
          rw [hr] at g1
          refine ⟨fun q hq => ?_, g2⟩
          rcases List.mem_cons.mp hq with rfl | hq
          · simp [dataAll_app, g1 r List.mem_cons_self, g2]
          · exact g1 q (List.mem_cons_of_mem _ hq)
    · split at e
      · cases e
      · rename_i r R hr
        split at e
        · cases e
        · cases e
          rw [hr] at g1
          refine ⟨fun q hq => g1 q (List.mem_cons_of_mem _ hq), ?_⟩
          simp only [dataAll, Val.data, Bool.and_true, dataAll_app, g1 r List.mem_cons_self, Bool.true_and]
          split
          · rfl
          · exact g2
theorem step_gL {p : List Nat} {s s' : LS} (h : gL s) (e : stepL p s = some s') : gL s' := by
  unfold stepL at e
  split at e
  · split at e
    · exact punc_gL h e
    · exact atom_gL h e
  · exact atom_gL h e
theorem run_gL : ∀ {ps : List (List Nat)} {s s' : LS}, gL s → runL ps s = some s' → gL s'
  | [], s, s', h, e => by cases e; exact h
  | p :: ps, s, s', h, e => by
    simp only [runL] at e
    cases ht : stepL p s with
    | none => rw [ht] at e; cases e
    | some s1 => rw [ht] at e; exact run_gL (step_gL h ht) e
theorem mem_Y {c : Nat} : decide (c ∈ [91, 93, 44, 59]) = (isX c || c == 59) := by
  by_cases h : c = 59
  · subst h; rfl
  · have : (c == 59) = false := by simpa using h
    rw [this, Bool.or_false]
    simp [isX, h]
theorem c_law_read (t : List Nat) (ht : t.length ≤ 4000000) (hp : ∀ p ∈ P [] t, p.length ≤ 4200) (h59 : 59 ∉ t) : callF (Tr rep) (k + 2) 21 [.str t] st = .ok ((lawT t).getD .non) st := by
  have hl : line = 16777216 := rfl
  rw [callF_succ (d := d__law_read) rfl]
  have e0 : env0 d__law_read [.str t] = [some (.str t), none, none, none, none, none, none, none] := rfl
  have h0 : evS (Tr rep) (callF (Tr rep) (k + 1)) (mkN (Tr rep) (k + 1)) (.gen [.nm 1, .nm 2, .nm 3, .nm 4] (.tup [.new (.lst []), .lst [], .cst (.str []), .cst (.bl true)])) [some (.str t), none, none, none, none, none, none, none] [] = .next (lEnv t ⟨[], [], true⟩ [] none none none) [.lst []] := by simp
  have hadd := add_str (s := t) (t := [59]) (by simp; omega)
  have hit : ev (Tr rep) (callF (Tr rep) (k + 1)) (mkN (Tr rep) (k + 1)) (.bin .add (.var 0) (.cst (.str [59]))) (lEnv t ⟨[], [], true⟩ [] none none none) [.lst []] = .ok (.str (t ++ [59])) [.lst []] := by simp [hadd]
  have loop := forL_out (t := [5]) (one := true) (all := (t ++ [59]).map chr) (body := fun env st => evSs (Tr rep) (callF (Tr rep) (k + 1)) (mkN (Tr rep) (k + 1)) b__law_read_1 env st)
    (fun q env st => (∃ (rest tok : List Nat) (s : LS) (ids : List Nat) (a5 a6 a7 : Option Val), q = (rest ++ [59]).map chr ∧ env = lEnv t s tok a5 a6 a7 ∧ RL s.rows ids st ∧ rest.length ≤ t.length ∧ bdL (t.length - rest.length) s ∧ tok.length + rest.length ≤ t.length ∧ (∀ p ∈ P tok rest, p.length ≤ 4200) ∧ 59 ∉ rest ∧ (∀ d ∈ tok, isX d = false) ∧ runL (P tok rest) s = runL (P [] t) ⟨[], [], true⟩) ∨
      (q = [] ∧ ∃ (s : LS) (ids : List Nat) (a5 a6 a7 : Option Val), env = lEnv t s [] a5 a6 a7 ∧ RL s.rows ids st ∧ runL (P [] t) ⟨[], [], true⟩ = some s))
    (fun r => runL (P [] t) ⟨[], [], true⟩ = none ∧ ∃ s, r = .ret .non s)
    (fun x q env st hI => by
      rcases hI with ⟨rest, tok, s, ids, a5, a6, a7, q0, rfl, R, hrl, hb, htl, hpl, hno, htk, hrun⟩ | ⟨q0, _⟩
      · cases rest with
        | nil =>
          simp only [List.nil_append, List.map_cons, List.map_nil, List.cons.injEq] at q0
          obtain ⟨rfl, rfl⟩ := q0
          refine ⟨lEnv t s tok (some (chr 59)) a6 a7, rfl, ?_⟩
          have htok : tok.length ≤ 4200 := by
            by_cases h : tok = []
            · subst h; simp
            · exact hpl tok (by simp [P, h])
          have hf := s_flush (rep := rep) (k := k) (st := st) (t := t) (s := s) (a5 := some (chr 59)) (a6 := a6) (a7 := a7) htok
          have hrun2 : runL (P tok []) s = (flushL tok s).bind (runL []) := by
            have := run_flush (tok := tok) (s := s) (r := []) htk
            simpa [P] using this
          rw [hrun2] at hrun
          have hin : inV (chr 59) (.str [91, 93, 44, 59]) = some true := by rw [inV_str, mem_Y]; rfl
          cases hq : flushL tok s with
          | some s' =>
            rw [hq] at hf hrun
            obtain ⟨a6', c1⟩ := hf
            left
            refine ⟨lEnv t s' [] (some (chr 59)) a6' a7, st, .inl ?_, .inr ⟨rfl, s', ids, _, _, _, rfl, ?_, ?_⟩⟩
            · rw [body_read, evSs_cons, evS_ifs]
              simp only [ev_cmp, ev_var, List.getElem?_cons_succ, List.getElem?_cons_zero, Res.bind_ok, ev_cst, rd_str, cmp_in, hin, Option.map_some, Res.opt_some, asBool_bl, Res.into_ok, if_true]
              rw [evSs_cons, c1, RS.then_next]
              simp [sPunc]
            · have : s'.rows = s.rows := by
                unfold flushL at hq
                split at hq
                · cases hq; rfl
                · unfold atomL at hq
                  split at hq
                  · cases hq
                  · split at hq
                    · cases hq; rfl
                    · cases hq
              rw [this]; exact R
            · rw [← hrun]; rfl
          | none =>
            rw [hq] at hf hrun
            right; left
            refine ⟨.non, st, ?_, by rw [← hrun]; rfl, _, rfl⟩
            rw [body_read, evSs_cons, evS_ifs]
            simp only [ev_cmp, ev_var, List.getElem?_cons_succ, List.getElem?_cons_zero, Res.bind_ok, ev_cst, rd_str, cmp_in, hin, Option.map_some, Res.opt_some, asBool_bl, Res.into_ok, if_true]
            rw [evSs_cons, hf]
            rfl
        | cons c rest =>
          simp only [List.cons_append, List.map_cons, List.cons.injEq] at q0
          obtain ⟨rfl, rfl⟩ := q0
          refine ⟨lEnv t s tok (some (chr c)) a6 a7, rfl, ?_⟩
          have hc59 : c ≠ 59 := fun z => hno (by rw [z]; exact List.mem_cons_self)
          simp only [List.length_cons] at hrl hb htl
          by_cases hx : isX c = true
          · have hin : inV (chr c) (.str [91, 93, 44, 59]) = some true := by rw [inV_str, mem_Y, hx]; rfl
            have htok : tok.length ≤ 4200 := by
              by_cases h : tok = []
              · subst h; simp
              · exact hpl tok (by simp [P, h, hx])
            have hf := s_flush (rep := rep) (k := k) (st := st) (t := t) (s := s) (a5 := some (chr c)) (a6 := a6) (a7 := a7) htok
            have hrun2 : runL (P tok (c :: rest)) s = (flushL tok s).bind (runL ([c] :: P [] rest)) := by
              have := run_flush (tok := tok) (s := s) (r := [c] :: P [] rest) htk
              simpa [P, hx] using this
            rw [hrun2] at hrun
            have hhead : evSs (Tr rep) (callF (Tr rep) (k + 1)) (mkN (Tr rep) (k + 1)) b__law_read_1 (lEnv t s tok (some (chr c)) a6 a7) st = (evSs (Tr rep) (callF (Tr rep) (k + 1)) (mkN (Tr rep) (k + 1)) [sFlush, sPunc] (lEnv t s tok (some (chr c)) a6 a7) st).then fun env st => .next env st := by
              rw [body_read, evSs_cons, evS_ifs]
              simp only [ev_cmp, ev_var, List.getElem?_cons_succ, List.getElem?_cons_zero, Res.bind_ok, ev_cst, rd_str, cmp_in, hin, Option.map_some, Res.opt_some, asBool_bl, Res.into_ok, if_true, evSs_nil]
            cases hq : flushL tok s with
            | none =>
              rw [hq] at hf hrun
              right; left
              refine ⟨.non, st, ?_, by rw [← hrun]; rfl, _, rfl⟩
              rw [hhead, evSs_cons, hf]
              rfl
            | some s1 =>
              rw [hq] at hf hrun
              obtain ⟨a6', c1⟩ := hf
              have hrows : s1.rows = s.rows := by
                unfold flushL at hq
                split at hq
                · cases hq; rfl
                · unfold atomL at hq
                  split at hq
                  · cases hq
                  · split at hq
                    · cases hq; rfl
                    · cases hq
              have hb1 := flush_bd hb hq
              have hpu := s_punc (rep := rep) (k := k) (t := t) (s := s1) (ids := ids) (st := st) (a6 := a6') (a7 := a7) hx (by rw [hrows]; exact R) hb1 (by omega)
              simp only [Option.bind_some, runL, step_X hx] at hrun
              cases hq2 : puncL c s1 with
              | none =>
                rw [hq2] at hpu hrun
                obtain ⟨st', c2⟩ := hpu
                right; left
                refine ⟨.non, st', ?_, by rw [← hrun]; rfl, _, rfl⟩
                rw [hhead, evSs_cons, c1, RS.then_next, evSs_cons, c2]
                rfl
              | some s2 =>
                rw [hq2] at hpu hrun
                obtain ⟨ids', st', a7', c2, R2⟩ := hpu
                left
                refine ⟨lEnv t s2 [] (some (chr c)) a6' a7', st', .inl ?_, .inl ⟨rest, [], s2, ids', _, _, _, rfl, rfl, R2, by omega, ?_, by simp; omega, fun p hp => hpl p (by simp [P, hx, hp]), fun h => hno (List.mem_cons_of_mem _ h), fun d hd => (nomatch hd), hrun⟩⟩
                · rw [hhead, evSs_cons, c1, RS.then_next, evSs_cons, c2]
                  simp
                · have := punc_bd hb1 hq2
                  rw [show t.length - rest.length = t.length - (rest.length + 1) + 1 by omega]
                  exact this
          · have hx' : isX c = false := by simpa using hx
            have hin : inV (chr c) (.str [91, 93, 44, 59]) = some false := by
              rw [inV_str, mem_Y, hx']
              simp [hc59]
            have ha := add_str (s := tok) (t := [c]) (by simp; omega)
            left
            refine ⟨lEnv t s (tok ++ [c]) (some (chr c)) a6 a7, st, .inl ?_, .inl ⟨rest, tok ++ [c], s, ids, _, _, _, rfl, rfl, R, by omega, ?_, by simp; omega, fun p hp => hpl p (by simp [P, hx', hp]), fun h => hno (List.mem_cons_of_mem _ h), fun d hd => ?_, ?_⟩⟩
            · rw [body_read, evSs_cons, evS_ifs]
              simp only [ev_cmp, ev_var, List.getElem?_cons_succ, List.getElem?_cons_zero, Res.bind_ok, ev_cst, rd_str, cmp_in, hin, Option.map_some, Res.opt_some, asBool_bl, Res.into_ok, Bool.false_eq_true, if_false]
              simp [ha]
            · obtain ⟨b1, b2, b3, b4⟩ := hb
              exact ⟨fun r hr => Nat.le_trans (b1 r hr) (by omega), b2, Nat.le_trans b3 (by omega), b4⟩
            · rcases List.mem_append.mp hd with h | h
              · exact htk d h
              · simp at h; subst h; exact hx'
            · rw [← hrun]; simp [P, hx']
      · cases q0)
    ((t ++ [59]).map chr) (lEnv t ⟨[], [], true⟩ [] none none none) [.lst []]
    (.inl ⟨t, [], ⟨[], [], true⟩, [], none, none, none, rfl, rfl, ⟨rfl, List.nodup_nil, rfl, fun j i r e => by simp at e⟩, Nat.le_refl _, ⟨fun r hr => (nomatch hr), by simp, by simp, fun h => by cases h⟩, by simp, hp, h59, fun d hd => (nomatch hd), rfl⟩)
  have hfor : evS (Tr rep) (callF (Tr rep) (k + 1)) (mkN (Tr rep) (k + 1)) (.for_ [5] true (.bin .add (.var 0) (.cst (.str [59]))) b__law_read_1) (lEnv t ⟨[], [], true⟩ [] none none none) [.lst []] = forL [5] true none ((t ++ [59]).map chr) (fun env st => evSs (Tr rep) (callF (Tr rep) (k + 1)) (mkN (Tr rep) (k + 1)) b__law_read_1 env st) ((t ++ [59]).map chr) (lEnv t ⟨[], [], true⟩ [] none none none) [.lst []] :=
    for_run hit walked_str
  rcases loop with ⟨e, s2, hE, hI⟩ | ⟨⟨hnone, s2, hE⟩, _⟩
  · rcases hI with ⟨rest, _, _, _, _, _, _, q0, _⟩ | ⟨_, s, ids, a5, a6, a7, rfl, R, hrun⟩
    · cases rest <;> simp at q0
    · have gc := run_gL (ps := P [] t) (s := ⟨[], [], true⟩) ⟨fun r hr => (nomatch hr), rfl⟩ hrun
      have hres : ((lawT t).getD .non) = if s.rows.isEmpty && !s.ahead then .lst s.done else .non := by
        unfold lawT
        rw [hrun, Option.bind_some]
        unfold endL
        split <;> rfl
      have hrd : rd s2 (.ref 0) = .lst (ids.reverse.map .ref) := rd_at R.h0
      have hemp : (ids.reverse.map Val.ref).isEmpty = s.rows.isEmpty := by
        cases hs : s.rows with
        | nil => have : ids = [] := List.length_eq_zero_iff.mp (by rw [R.len, hs]; rfl); subst this; rfl
        | cons r R' =>
          cases hi : ids with
          | nil => have := R.len; rw [hi, hs] at this; cases this
          | cons _ _ => simp
      have heq : eqV (.lst (ids.reverse.map .ref)) (.lst []) = some s.rows.isEmpty := by rw [eqV_nil, hemp]
      have hin : inV (.str [59]) (.str t) = some false := by rw [inV_str, decide_eq_false h59]
      rw [hres]
      refine pure_ret (s := s2) rfl rfl rfl (by simp [closedAll, Val.closed]) ?_ ?_
      · rw [e0, d__law_read, evSs_cons, h0, RS.then_next, evSs_cons, hfor, hE, RS.then_next, evSs_cons, evS_ret, ev_ife, ev_and, ev_cmp, ev_var]
        simp only [List.getElem?_cons_succ, List.getElem?_cons_zero, Res.bind_ok, ev_lst, evs_nil, hrd, rd_lst, cmp_eq, heq, Option.map_some, Res.opt_some, asBool_bl]
        cases s.rows.isEmpty with
        | false => simp
        | true => cases ha : s.ahead <;> simp [ha, hin, h59]
      · split
        · simp only [Val.closed]; exact datas_closed _ gc.2
        · rfl
  · have hres : ((lawT t).getD .non) = .non := by unfold lawT; rw [hnone]; rfl
    rw [hres]
    refine pure_ret (s := s2) rfl rfl rfl (by simp [closedAll, Val.closed]) ?_ rfl
    rw [e0, d__law_read, evSs_cons, h0, RS.then_next, evSs_cons, hfor, hE, RS.then_ret]
end Nt
end
section
set_option linter.all false
set_option maxRecDepth 100000
set_option maxHeartbeats 4000000
/-! k53, the plain part: digits; both readers agree. -/
namespace Nt
open Nl
/-! ### digits -/
theorem digsF_fuel : ∀ (f m : Nat), m ≤ f → digsF f m = digsF m m
  | 0, m, h => by have : m = 0 := by omega
                  subst this; rfl
  | f + 1, m, h => by
    cases m with
    | zero => simp [digsF]
    | succ m =>
      simp only [digsF]
      split
      · rfl
      · rw [digsF_fuel f ((m + 1) / 10) (by omega), digsF_fuel m ((m + 1) / 10) (by omega)]
theorem digs_lt {n : Nat} (h : n < 10) : digs n = [48 + n] := by
  unfold digs
  cases n with
  | zero => simp [digsF]
  | succ m => simp only [digsF]; rw [if_pos h]
theorem digs_ge {n : Nat} (h : 10 ≤ n) : digs n = digs (n / 10) ++ [48 + n % 10] := by
  unfold digs
  cases n with
  | zero => omega
  | succ m =>
    rw [show digsF (m + 1) (m + 1) = if m + 1 < 10 then [48 + (m + 1)] else digsF m ((m + 1) / 10) ++ [48 + (m + 1) % 10] from rfl, if_neg (by omega), digsF_fuel m ((m + 1) / 10) (by omega)]
theorem natOf_snoc (s : List Nat) (d : Nat) : natOf (s ++ [d]) = natOf s * 10 + (d - 48) := by simp [natOf]
theorem digs_facts : ∀ n : Nat, natOf (digs n) = n ∧ (digs n).all isDig = true ∧ n < 10 ^ (digs n).length ∧ (∀ c r, digs n = c :: r → (c = 48 → n = 0)) := by
  intro n
  induction n using Nat.strongRecOn with
  | ind n ih =>
    by_cases h : n < 10
    · rw [digs_lt h]
      refine ⟨by simp [natOf], by simp [isDig]; omega, by simpa using h, fun c r e hc => ?_⟩
      simp at e; omega
    · rw [digs_ge (by omega)]
      obtain ⟨h1, h2, h3, h4⟩ := ih (n / 10) (by omega)
      refine ⟨by rw [natOf_snoc, h1]; omega, by simp [List.all_append, h2, isDig]; omega, ?_, fun c r e hc => ?_⟩
      · rw [List.length_append, List.length_cons, List.length_nil, Nat.pow_succ]
        omega
      · cases hd : digs (n / 10) with
        | nil => exact absurd hd (digs_ne _)
        | cons c' r' =>
          rw [hd] at e
          have : c' = c := by simpa using (List.cons.inj e).1
          have := h4 c' r' hd (by omega)
          omega
theorem digs_nat : ∀ (n : Nat) (s : List Nat), s.length = n → s ≠ [] → s.all isDig = true → (∀ c r, s = c :: r → c = 48 → r = []) → digs (natOf s) = s := by
  intro n
  induction n with
  | zero => intro s h hn; exact absurd (List.length_eq_zero_iff.mp h) hn
  | succ n ih =>
    intro s h hn ha hz
    obtain ⟨s', d, rfl⟩ : ∃ s' d, s = s' ++ [d] := ⟨s.dropLast, s.getLast hn, (List.dropLast_concat_getLast hn).symm⟩
    simp only [List.all_append, List.all_cons, List.all_nil, Bool.and_true, Bool.and_eq_true] at ha
    have hd : 48 ≤ d ∧ d ≤ 57 := by simpa [isDig] using ha.2
    rw [natOf_snoc]
    by_cases hs : s' = []
    · subst hs
      rw [show natOf [] = 0 from rfl, digs_lt (by omega)]
      simp; omega
    · have ih' := ih s' (by simp at h; omega) hs ha.1 (fun c r e hc => by
        have := hz c (r ++ [d]) (by rw [e]; rfl) hc
        simp at this)
      have hpos : 0 < natOf s' := by
        rcases Nat.eq_zero_or_pos (natOf s') with h0 | h0
        · rw [h0] at ih'
          rw [digs_lt (by decide)] at ih'
          have := hz 48 [d] (by rw [← ih']; rfl) rfl
          cases this
        · exact h0
      rw [digs_ge (by omega)]
      have e1 : (natOf s' * 10 + (d - 48)) / 10 = natOf s' := by omega
      have e2 : (natOf s' * 10 + (d - 48)) % 10 = d - 48 := by omega
      rw [e1, e2, ih']
      congr 2
      omega
theorem natOf_lt : ∀ (n : Nat) (s : List Nat), s.length = n → s.all isDig = true → natOf s < 10 ^ n := by
  intro n
  induction n with
  | zero => intro s h _; have := List.length_eq_zero_iff.mp h; subst this; simp [natOf]
  | succ n ih =>
    intro s h ha
    have hn : s ≠ [] := fun z => by subst z; cases h
    obtain ⟨s', d, rfl⟩ : ∃ s' d, s = s' ++ [d] := ⟨s.dropLast, s.getLast hn, (List.dropLast_concat_getLast hn).symm⟩
    simp only [List.all_append, List.all_cons, List.all_nil, Bool.and_true, Bool.and_eq_true] at ha
    have hd : 48 ≤ d ∧ d ≤ 57 := by simpa [isDig] using ha.2
    have := ih s' (by simp at h; omega) ha.1
    rw [natOf_snoc, Nat.pow_succ]
    omega
theorem short_of {i : Int} (h : i.natAbs < 10 ^ 4000) : shortI i = true := by
  have e : p10 4000 = ((10 ^ 4000 : Nat) : Int) := rfl
  unfold shortI
  rw [e]
  generalize (10 ^ 4000 : Nat) = A at h
  rw [decide_eq_true (show -(A : Int) < i by omega), decide_eq_true (show i < (A : Int) by omega)]
  rfl
theorem of_short {i : Int} (h : shortI i = true) : i.natAbs < 10 ^ 4000 := by
  have e : p10 4000 = ((10 ^ 4000 : Nat) : Int) := rfl
  simp only [shortI, Bool.and_eq_true, decide_eq_true_eq] at h
  rw [e] at h
  generalize (10 ^ 4000 : Nat) = A at h ⊢
  omega
/-- what numT reads, str writes -/
theorem numT_str {t : List Nat} {i : Int} (h : numT t = some i) : intStr i = t ∧ i.natAbs < 10 ^ (bodyT t).length := by
  unfold numT at h
  split at h
  · rename_i hn
    unfold numOk at hn
    cases hb : bodyT t with
    | nil => rw [hb] at hn; cases hn
    | cons c b =>
      rw [hb] at hn
      simp only [Bool.and_eq_true, Bool.not_eq_true', Bool.and_eq_false_iff, beq_eq_false_iff_ne, Bool.not_eq_false', beq_iff_eq] at hn
      obtain ⟨ha, hz⟩ := hn
      cases t with
      | nil => simp [bodyT] at hb
      | cons d s =>
        by_cases hd : d = 45
        · subst hd
          rw [bodyT_cons] at hb
          subst hb
          have hc : c ≠ 48 := by
            rcases hz with z | z
            · exact z
            · simp at z
          have he : intOf (45 :: c :: b) = if (c :: b) ≠ [] ∧ (c :: b).all isDig ∧ (c :: b).length ≤ 4200 then some (-(natOf (c :: b) : Int)) else none := rfl
          rw [he] at h
          split at h
          · cases h
            have hdg := digs_nat _ (c :: b) rfl (by simp) ha (fun c' r' e hc' => by cases e; exact absurd hc' hc)
            have hne : natOf (c :: b) ≠ 0 := fun z => by
              rw [z, digs_lt (by decide)] at hdg
              exact hc ((List.cons.inj hdg).1).symm
            refine ⟨?_, ?_⟩
            · obtain ⟨m, hm⟩ : ∃ m, natOf (c :: b) = m + 1 := ⟨natOf (c :: b) - 1, by omega⟩
              rw [hm] at hdg ⊢
              show intStr (Int.negSucc m) = _
              simp only [intStr]
              rw [hdg]
            · have := natOf_lt _ (c :: b) rfl ha
              simpa using this
          · cases h
        · rw [bodyT_ne hd] at hb
          obtain ⟨rfl, rfl⟩ := List.cons.inj hb
          have he : intOf (d :: s) = if (d :: s) ≠ [] ∧ (d :: s).all isDig ∧ (d :: s).length ≤ 4200 then some (natOf (d :: s) : Int) else none := by
            unfold intOf
            split
            · rename_i e; cases e; exact absurd rfl hd
            · rfl
          rw [he] at h
          split at h
          · cases h
            have hdg := digs_nat _ (d :: s) rfl (by simp) ha (fun c' r' e hc' => by
              cases e
              rcases hz with z | z
              · exact absurd hc' z
              · exact (List.cons.inj z).2)
            exact ⟨hdg, by have := natOf_lt _ (d :: s) rfl ha; simpa using this⟩
          · cases h
  · cases h
theorem body_digs (n : Nat) : bodyT (digs n) = digs n := by
  cases h : digs n with
  | nil => exact absurd h (digs_ne n)
  | cons c r =>
    have := (digs_facts n).2.1
    rw [h] at this
    simp [isDig] at this
    exact bodyT_ne (by omega)
theorem digs_len {n m : Nat} (h : n < 10 ^ m) (hm : 1 ≤ m) : (digs n).length ≤ m := by
  have key : ∀ (m n : Nat), n < 10 ^ (m + 1) → (digs n).length ≤ m + 1 := by
    intro m
    induction m with
    | zero => intro n h; rw [digs_lt (by simpa using h)]; simp
    | succ m ih =>
      intro n h
      by_cases h10 : n < 10
      · rw [digs_lt h10]; simp
      · rw [digs_ge (by omega)]
        have := ih (n / 10) (by rw [Nat.pow_succ] at h; omega)
        simp; omega
  obtain ⟨k, rfl⟩ : ∃ k, m = k + 1 := ⟨m - 1, by omega⟩
  exact key k n h
theorem numOk_int (i : Int) : numOk (intStr i) = true ∧ (bodyT (intStr i)).length = (digs i.natAbs).length ∧ ((digs i.natAbs).length ≤ 4200 → intOf (intStr i) = some i) := by
  cases i with
  | ofNat n =>
    obtain ⟨h1, h2, h3, h4⟩ := digs_facts n
    have hb := body_digs n
    simp only [intStr]
    refine ⟨?_, by rw [hb]; rfl, fun hl => ?_⟩
    · unfold numOk
      rw [hb]
      cases hd : digs n with
      | nil => exact absurd hd (digs_ne n)
      | cons c r =>
        rw [hd] at h2
        dsimp only
        rw [h2]
        by_cases hc : c = 48
        · subst hc
          have := h4 48 r hd rfl
          subst this
          rw [digs_lt (by decide)] at hd
          cases hd
          rfl
        · have : (c == 48) = false := by simpa using hc
          rw [this]; rfl
    · cases hd : digs n with
      | nil => exact absurd hd (digs_ne n)
      | cons c r =>
        have hl' : (c :: r).length ≤ 4200 := by rw [← hd]; exact hl
        rw [hd] at h1 h2
        have hc45 : c ≠ 45 := by simp [isDig] at h2; omega
        unfold intOf
        split
        · rename_i e; cases e; exact absurd rfl hc45
        · rw [if_pos ⟨by simp, h2, hl'⟩, h1]; rfl
  | negSucc n =>
    obtain ⟨h1, h2, h3, h4⟩ := digs_facts (n + 1)
    simp only [intStr]
    refine ⟨?_, by rw [bodyT_cons]; rfl, fun hl => ?_⟩
    · unfold numOk
      rw [bodyT_cons]
      cases hd : digs (n + 1) with
      | nil => exact absurd hd (digs_ne _)
      | cons c r =>
        rw [hd] at h2
        dsimp only
        rw [h2]
        have hc : c ≠ 48 := fun hc => by have := h4 c r hd hc; omega
        have : (c == 48) = false := by simpa using hc
        rw [this]; rfl
    · have he : intOf (45 :: digs (n + 1)) = if digs (n + 1) ≠ [] ∧ (digs (n + 1)).all isDig ∧ (digs (n + 1)).length ≤ 4200 then some (-(natOf (digs (n + 1)) : Int)) else none := rfl
      rw [he, if_pos ⟨digs_ne _, h2, hl⟩, h1]
      rfl
end Nt
end
section
set_option linter.all false
set_option maxRecDepth 100000
set_option maxHeartbeats 4000000
/-! k53, the plain part: the readers agree, what is read is what is written. -/
namespace Nt
open Nl
/-! ### both readers -/
structure Sim (s : RdS) (l : LS) : Prop where
  rdy : s.rdy = l.ahead
  on : l.ahead = true → s.rows = l.rows ∧ s.told = []
  off : l.ahead = false → ∃ v, l.done = [v] ∧ ((l.rows = [] ∧ s.rows = [] ∧ s.told = [v]) ∨ ∃ r R, l.rows = r :: R ∧ s.rows = (r ++ [v]) :: R ∧ s.told = [])
theorem raT_laT {p : List Nat} (h : p.length ≤ 4000) : raT p = laT p := by
  unfold raT laT rwT
  rw [if_pos (Nat.le_trans (bodyT_len p) h)]
def opens (ps : List (List Nat)) : Nat := ps.countP (· == [91])
theorem sim_item {s : RdS} {l : LS} {v : Val} (S : Sim s l) : match itemP v s, (if l.ahead then some (⟨l.rows, [v], false⟩ : LS) else none) with
    | some s', some l' => Sim s' l' ∧ s'.rows.length = s.rows.length
    | none, none => True
    | _, _ => False := by
  unfold itemP
  rw [S.rdy]
  cases ha : l.ahead with
  | false => simp
  | true =>
    obtain ⟨h1, h2⟩ := S.on ha
    rw [if_pos rfl, if_pos rfl]
    dsimp only
    cases hr : s.rows with
    | nil =>
      rw [hr] at h1
      exact ⟨⟨rfl, fun z => (nomatch z), fun _ => ⟨v, rfl, .inl ⟨h1.symm, rfl, by simp [h2]⟩⟩⟩, rfl⟩
    | cons r R =>
      rw [hr] at h1
      exact ⟨⟨rfl, fun z => (nomatch z), fun _ => ⟨v, rfl, .inr ⟨r, R, h1.symm, rfl, h2⟩⟩⟩, rfl⟩
theorem sim_step {p : List Nat} {s : RdS} {l : LS} (S : Sim s l) (hp : p.length ≤ 4000) (hn : s.rows.length + (if p = [91] then 1 else 0) ≤ 1000) : match takeP p s, stepL p l with
    | some s', some l' => Sim s' l' ∧ s'.rows.length ≤ s.rows.length + (if p = [91] then 1 else 0)
    | none, none => True
    | _, _ => False := by
  unfold takeP
  by_cases h1 : p = [91]
  · subst h1
    rw [if_pos rfl, step_X (by rfl)]
    rw [if_pos rfl] at hn
    unfold openP puncL
    rw [if_pos rfl, S.rdy]
    cases ha : l.ahead with
    | false => simp
    | true =>
      obtain ⟨g1, g2⟩ := S.on ha
      rw [decide_eq_true (show s.rows.length < 1000 by omega)]
      simp only [Bool.and_self, if_true]
      exact ⟨⟨rfl, fun _ => ⟨by rw [g1], g2⟩, fun z => (nomatch z)⟩, by simp⟩
  · rw [if_neg h1]
    by_cases h2 : p = [93]
    · subst h2
      rw [if_pos rfl, step_X (by rfl)]
      unfold closeP puncL
      rw [if_neg (by decide), if_neg (by decide)]
      cases ha : l.ahead with
      | true =>
        obtain ⟨g1, g2⟩ := S.on ha
        cases hr : s.rows with
        | nil =>
          rw [hr] at g1
          rw [← g1]
          trivial
        | cons r R =>
          rw [hr] at g1
          rw [← g1]
          dsimp only
          rw [S.rdy, ha]
          cases he : r.isEmpty with
          | false => simp
          | true =>
            have : r = [] := List.isEmpty_iff.mp he
            subst this
            simp only [Bool.not_true, Bool.and_false, Bool.false_eq_true, if_false, itemP, if_true, List.append_nil, g2, List.nil_append]
            cases R with
            | nil => exact ⟨⟨rfl, fun z => (nomatch z), fun _ => ⟨_, rfl, .inl ⟨rfl, rfl, rfl⟩⟩⟩, by simp⟩
            | cons q R => exact ⟨⟨rfl, fun z => (nomatch z), fun _ => ⟨_, rfl, .inr ⟨q, R, rfl, rfl, rfl⟩⟩⟩, by simp⟩
      | false =>
        obtain ⟨v, g0, g⟩ := S.off ha
        rcases g with ⟨g1, g2, g3⟩ | ⟨r, R, g1, g2, g3⟩
        · rw [g1, g2]; trivial
        · rw [g1, g2]
          dsimp only
          rw [S.rdy, ha]
          simp only [Bool.false_and, Bool.false_eq_true, if_false, itemP, if_true, g0, g3, List.nil_append]
          cases R with
          | nil => exact ⟨⟨rfl, fun z => (nomatch z), fun _ => ⟨_, rfl, .inl ⟨rfl, rfl, rfl⟩⟩⟩, by simp⟩
          | cons q R => exact ⟨⟨rfl, fun z => (nomatch z), fun _ => ⟨_, rfl, .inr ⟨q, R, rfl, rfl, rfl⟩⟩⟩, by simp⟩
    · rw [if_neg h2]
      by_cases h3 : p = [44]
      · subst h3
        rw [if_pos rfl, step_X (by rfl)]
        have hpu : puncL 44 l = (if l.ahead then none else match l.rows with | [] => none | r :: R => some ⟨(r ++ l.done) :: R, l.done, true⟩) := rfl
        rw [hpu]
        unfold commaP
        rw [S.rdy]
        cases ha : l.ahead with
        | true => simp
        | false =>
          obtain ⟨v, g0, g⟩ := S.off ha
          rcases g with ⟨g1, g2, g3⟩ | ⟨r, R, g1, g2, g3⟩
          · rw [g1, g2]; simp
          · rw [g1, g2]
            simp only [List.isEmpty_cons, Bool.or_self, Bool.false_eq_true, if_false, g0]
            exact ⟨⟨rfl, fun _ => ⟨rfl, g3⟩, fun z => (nomatch z)⟩, by simp⟩
      · rw [if_neg h3]
        have hst : stepL p l = atomL p l := by
          unfold stepL
          split
          · rename_i c
            rw [if_neg]
            intro hx
            simp [isX] at hx
            rcases hx with rfl | rfl | rfl
            · exact h1 rfl
            · exact h2 rfl
            · exact h3 rfl
          · rfl
        rw [hst, raT_laT hp]
        unfold atomL
        cases hla : laT p with
        | none => trivial
        | some v =>
          dsimp only
          rw [Option.bind_some]
          have := sim_item (v := v) S
          cases hi : itemP v s with
          | none =>
            rw [hi] at this
            cases hq : (if l.ahead then some (⟨l.rows, [v], false⟩ : LS) else none) with
            | none => trivial
            | some l' => rw [hq] at this; exact this.elim
          | some s' =>
            rw [hi] at this
            cases hq : (if l.ahead then some (⟨l.rows, [v], false⟩ : LS) else none) with
            | none => rw [hq] at this; exact this.elim
            | some l' => rw [hq] at this; exact ⟨this.1, by rw [this.2]; omega⟩
theorem sim_run : ∀ {ps : List (List Nat)} {s : RdS} {l : LS}, Sim s l → (∀ p ∈ ps, p.length ≤ 4000) → s.rows.length + opens ps ≤ 1000 → match runP ps s, runL ps l with
    | some s', some l' => Sim s' l'
    | none, none => True
    | _, _ => False
  | [], s, l, S, _, _ => S
  | p :: ps, s, l, S, hp, hn => by
    simp only [opens, List.countP_cons] at hn
    have hb : (p == [91]) = decide (p = [91]) := by
      by_cases h : p = [91]
      · subst h; rfl
      · rw [decide_eq_false h, beq_eq_false_iff_ne]; exact h
    have hst := sim_step (p := p) S (hp p List.mem_cons_self) (by
      by_cases h : p = [91]
      · rw [if_pos h]; rw [hb, decide_eq_true h] at hn; simp at hn; omega
      · rw [if_neg h]; rw [hb, decide_eq_false h] at hn; simp at hn; omega)
    simp only [runP, runL]
    cases h1 : takeP p s with
    | none =>
      rw [h1] at hst
      cases h2 : stepL p l with
      | none => trivial
      | some l' => rw [h2] at hst; exact hst.elim
    | some s' =>
      rw [h1] at hst
      cases h2 : stepL p l with
      | none => rw [h2] at hst; exact hst.elim
      | some l' =>
        rw [h2] at hst
        refine sim_run hst.1 (fun q hq => hp q (List.mem_cons_of_mem _ hq)) ?_
        have := hst.2
        unfold opens
        by_cases h : p = [91]
        · rw [if_pos h] at this; rw [hb, decide_eq_true h] at hn; simp at hn; omega
        · rw [if_neg h] at this; rw [hb, decide_eq_false h] at hn; simp at hn; omega
theorem readers (t : List Nat) (hp : ∀ p ∈ P [] t, p.length ≤ 4000) (hn : opens (P [] t) ≤ 1000) : (lawT t).getD .non = toldV (rdT t) := by
  have h := sim_run (ps := P [] t) (s := ⟨[], true, []⟩) (l := ⟨[], [], true⟩) ⟨rfl, fun _ => ⟨rfl, rfl⟩, fun z => (nomatch z)⟩ hp (by simpa using hn)
  unfold lawT rdT
  cases h1 : runP (P [] t) ⟨[], true, []⟩ with
  | none =>
    rw [h1] at h
    cases h2 : runL (P [] t) ⟨[], [], true⟩ with
    | none => rfl
    | some l => rw [h2] at h; exact h.elim
  | some s =>
    rw [h1] at h
    cases h2 : runL (P [] t) ⟨[], [], true⟩ with
    | none => rw [h2] at h; exact h.elim
    | some l =>
      rw [h2] at h
      rw [Option.bind_some, Option.bind_some]
      unfold endL endP
      cases ha : l.ahead with
      | true =>
        obtain ⟨g1, g2⟩ := h.on ha
        rw [g2]
        cases s.rows <;> simp [toldV]
      | false =>
        obtain ⟨v, g0, g⟩ := h.off ha
        rcases g with ⟨g1, g2, g3⟩ | ⟨r, R, g1, g2, g3⟩
        · rw [g1, g2, g3, g0]; rfl
        · rw [g1, g2, g3]; rfl
end Nt
end
section
set_option linter.all false
set_option maxRecDepth 100000
set_option maxHeartbeats 4000000
/-! k53, the plain part: what is read is what is written. -/
namespace Nt
open Nl
theorem P_flat : ∀ (t tok : List Nat), (P tok t).flatten = tok ++ t
  | [], tok => by simp only [P]; split <;> simp_all
  | c :: t, tok => by
    simp only [P]
    split
    · have := P_flat t []
      split <;> simp_all
    · rw [P_flat t (tok ++ [c])]; simp
/-- the rows that are open, as text -/
def rendR : List (List Val) → List Nat
  | [] => []
  | r :: R => rendR R ++ 91 :: r.flatMap fun x => W x ++ [44]
def rend (l : LS) : List Nat := rendR l.rows ++ if l.ahead then [] else l.done.flatMap W
def okL (l : LS) : Prop := (∀ r ∈ l.rows, goods r = true) ∧ goods l.done = true ∧ (l.ahead = false → ∃ v, l.done = [v])
theorem goods_app : ∀ {a b : List Val}, goods (a ++ b) = (goods a && goods b)
  | [], b => by simp [goods]
  | x :: a, b => by simp [goods, goods_app (a := a), Bool.and_assoc]
theorem join_snoc (xs : List Val) (v : Val) : joinS [44] (Ws (xs ++ [v])) = (xs.flatMap fun x => W x ++ [44]) ++ W v := by
  induction xs with
  | nil => simp [Ws, joinS]
  | cons x xs ih =>
    cases xs with
    | nil =>
      show W x ++ [44] ++ joinS [44] (Ws [v]) = _
      simp [Ws, joinS]
    | cons y ys =>
      have e : joinS [44] (Ws (x :: y :: ys ++ [v])) = W x ++ [44] ++ joinS [44] (Ws (y :: ys ++ [v])) := rfl
      rw [e, ih]
      simp
theorem laT_good {p : List Nat} {v : Val} (hp : p.length ≤ 4000) (h : laT p = some v) : W v = p ∧ goodV v = true := by
  unfold laT at h
  split at h
  · cases h; rename_i e; exact ⟨by rw [e]; rfl, rfl⟩
  · split at h
    · cases h; rename_i e; exact ⟨by rw [e]; rfl, rfl⟩
    · split at h
      · cases h; rename_i e; exact ⟨by rw [e]; rfl, rfl⟩
      · split at h
        · cases h
          rename_i hw
          refine ⟨?_, by simp [goodV, hw]⟩
          have : p ≠ [] := fun z => by subst z; cases hw
          simp [W, this]
        · cases hn : numT p with
          | none => rw [hn] at h; cases h
          | some i =>
            rw [hn] at h
            cases h
            obtain ⟨h1, h2⟩ := numT_str hn
            refine ⟨h1, ?_⟩
            simp only [goodV]
            refine short_of (Nat.lt_of_lt_of_le h2 ?_)
            exact Nat.pow_le_pow_right (by decide) (Nat.le_trans (bodyT_len p) hp)
theorem rend_step {p : List Nat} {l l' : LS} (hp : p.length ≤ 4000) (h : okL l) (e : stepL p l = some l') : rend l' = rend l ++ p ∧ okL l' := by
  obtain ⟨o1, o2, o3⟩ := h
  have atom : atomL p l = some l' → rend l' = rend l ++ p ∧ okL l' := fun e => by
    unfold atomL at e
    split at e
    · cases e
    · rename_i v hv
      split at e
      · rename_i ha
        cases e
        obtain ⟨h1, h2⟩ := laT_good hp hv
        exact ⟨by simp [rend, ha, h1], o1, by simp [goods, h2], fun _ => ⟨v, rfl⟩⟩
      · cases e
  unfold stepL at e
  split at e
  · rename_i c
    split at e
    · rename_i hx
      unfold puncL at e
      split at e
      · rename_i hc
        subst hc
        split at e
        · rename_i ha
          cases e
          refine ⟨by simp [rend, rendR, ha], fun q hq => ?_, o2, o3⟩
          rcases List.mem_cons.mp hq with rfl | hq
          · rfl
          · exact o1 q hq
        · cases e
      · split at e
        · rename_i hc
          subst hc
          split at e
          · cases e
          · rename_i ha
            split at e
            · cases e
            · rename_i r R hr
              cases e
              have ha' : l.ahead = false := by simpa using ha
              obtain ⟨v, hv⟩ := o3 ha'
              rw [hr] at o1
              refine ⟨by simp [rend, rendR, ha', hv, hr], fun q hq => ?_, o2, fun z => by cases z⟩
              rcases List.mem_cons.mp hq with rfl | hq
              · rw [goods_app, o1 r List.mem_cons_self, o2]; rfl
              · exact o1 q (List.mem_cons_of_mem _ hq)
        · rename_i h1 h2
          have hc : c = 93 := by simp [isX] at hx; omega
          subst hc
          split at e
          · cases e
          · rename_i r R hr
            split at e
            · cases e
            · rename_i hn
              cases e
              rw [hr] at o1
              cases ha : l.ahead with
              | false =>
                obtain ⟨v, hv⟩ := o3 ha
                refine ⟨?_, fun q hq => o1 q (List.mem_cons_of_mem _ hq), ?_, fun _ => ⟨_, rfl⟩⟩
                · simp only [rend, rendR, ha, hv, hr, Bool.false_eq_true, if_false, List.flatMap_cons, List.flatMap_nil, List.append_nil, W, join_snoc]
                  simp
                · simp only [Bool.false_eq_true, if_false, goods, goodV, goods_app, o1 r List.mem_cons_self, o2, Bool.and_self]
              | true =>
                rw [ha] at hn
                have : r = [] := by simpa using hn
                subst this
                refine ⟨?_, fun q hq => o1 q (List.mem_cons_of_mem _ hq), by simp [goods, goodV], fun _ => ⟨_, rfl⟩⟩
                simp [rend, rendR, ha, hr, W, Ws, joinS]
    · exact atom e
  · exact atom e
theorem rend_run : ∀ {ps : List (List Nat)} {l l' : LS}, (∀ p ∈ ps, p.length ≤ 4000) → okL l → runL ps l = some l' → rend l' = rend l ++ ps.flatten ∧ okL l'
  | [], l, l', _, h, e => by cases e; simp [h]
  | p :: ps, l, l', hp, h, e => by
    simp only [runL] at e
    cases ht : stepL p l with
    | none => rw [ht] at e; cases e
    | some l1 =>
      rw [ht] at e
      obtain ⟨h1, h2⟩ := rend_step (hp p List.mem_cons_self) h ht
      obtain ⟨h3, h4⟩ := rend_run (fun q hq => hp q (List.mem_cons_of_mem _ hq)) h2 e
      exact ⟨by rw [h3, h1]; simp, h4⟩
/-- what is read is written so -/
theorem read_canon {t : List Nat} {v : Val} (hp : ∀ p ∈ P [] t, p.length ≤ 4000) (hn : opens (P [] t) ≤ 1000) (h : rdT t = some v) : W v = t ∧ goodV v = true := by
  have hr := readers t hp hn
  rw [h] at hr
  unfold lawT at hr
  cases h2 : runL (P [] t) ⟨[], [], true⟩ with
  | none => rw [h2] at hr; cases hr
  | some l =>
    rw [h2, Option.bind_some] at hr
    unfold endL at hr
    obtain ⟨g1, g2, g3, g4⟩ := rend_run hp (by refine ⟨?_, rfl, ?_⟩ <;> simp) h2
    split at hr
    · rename_i hc
      simp only [Bool.and_eq_true, Bool.not_eq_true', List.isEmpty_iff] at hc
      simp only [Option.getD_some, toldV, Val.lst.injEq] at hr
      rw [P_flat] at g1
      simp only [rend, hc.1, hc.2, hr, rendR] at g1
      rw [hr] at g3
      exact ⟨by simpa using g1, by simpa [goods] using g3⟩
    · cases hr
/-! ### what is written is read -/
theorem P_plain : ∀ (t tok : List Nat), (∀ d ∈ t, isX d = false) → P tok t = if tok ++ t = [] then [] else [tok ++ t]
  | [], tok, _ => by simp [P]
  | c :: t, tok, h => by
    simp only [P]
    rw [if_neg (by rw [h c List.mem_cons_self]; simp), P_plain t _ fun d hd => h d (List.mem_cons_of_mem _ hd)]
    simp
theorem digs_noX (n : Nat) : ∀ d ∈ digs n, isX d = false := fun d hd => by
  have := List.all_eq_true.mp (digs_facts n).2.1 d hd
  simp [isDig] at this
  simp [isX]
  omega
theorem intStr_noX (i : Int) : ∀ d ∈ intStr i, isX d = false := fun d hd => by
  cases i with
  | ofNat n => exact digs_noX n d hd
  | negSucc n =>
    simp only [intStr] at hd
    rcases List.mem_cons.mp hd with rfl | hd
    · rfl
    · exact digs_noX _ d hd
theorem word_noX {s : List Nat} (h : wordS s = true) : ∀ d ∈ s, isX d = false := fun d hd => by
  cases s with
  | nil => cases hd
  | cons c s =>
    simp only [wordS, Bool.and_eq_true] at h
    have := List.all_eq_true.mp h.2 d hd
    simp [isL, isDig] at this
    simp [isX]
    omega
/-- an atom's text is one piece, which is read back -/
theorem atom_back {v : Val} (hg : goodV v = true) (ht : ∀ xs, v ≠ .tup xs) : P [] (W v) = [W v] ∧ laT (W v) = some v ∧ (∀ d ∈ W v, isX d = false) := by
  have one : W v ≠ [] → (∀ d ∈ W v, isX d = false) → P [] (W v) = [W v] := fun h0 h => by
    rw [P_plain _ _ h]; simp [h0]
  have hne : W v ≠ [] := fun z => by have := W_pos hg; rw [z] at this; simp at this
  cases v with
  | tup xs => exact absurd rfl (ht xs)
  | bl b => cases b <;> exact ⟨rfl, rfl, by decide⟩
  | str s =>
    simp only [goodV, Bool.or_eq_true, List.isEmpty_iff] at hg
    by_cases hs : s = []
    · subst hs; exact ⟨rfl, rfl, by decide⟩
    · have hw := hg.resolve_left hs
      have e : W (.str s) = s := by simp [W, hs]
      rw [e] at hne one ⊢
      have hx := word_noX hw
      refine ⟨one hne hx, ?_, hx⟩
      have hne3 : s ≠ [43] ∧ s ≠ [45] ∧ s ≠ [46] := by
        refine ⟨?_, ?_, ?_⟩ <;> (intro z; subst z; revert hw; decide)
      unfold laT
      rw [if_neg hne3.1, if_neg hne3.2.1, if_neg hne3.2.2, if_pos hw]
  | int i =>
    simp only [goodV] at hg
    have e : W (.int i) = intStr i := rfl
    rw [e] at hne one ⊢
    have hx := intStr_noX i
    refine ⟨one hne hx, ?_, hx⟩
    obtain ⟨n1, n2, n3⟩ := numOk_int i
    have hlen : (digs i.natAbs).length ≤ 4000 := digs_len (of_short hg) (by decide)
    have hnt : numT (intStr i) = some i := by
      unfold numT
      rw [if_pos n1, n3 (by omega)]
    have hws : wordS (intStr i) = false := by
      cases i with
      | ofNat n =>
        show wordS (digs n) = false
        cases hd : digs n with
        | nil => rfl
        | cons c r =>
          have := (digs_facts n).2.1
          rw [hd] at this
          simp [isDig] at this
          have : isL c = false := by simp [isL]; omega
          simp [wordS, this]
      | negSucc n => simp [intStr, wordS, isL]
    have hne3 : intStr i ≠ [43] ∧ intStr i ≠ [45] ∧ intStr i ≠ [46] := by
      refine ⟨?_, ?_, ?_⟩ <;> (intro z; rw [z] at n1; revert n1; decide)
    unfold laT
    rw [if_neg hne3.1, if_neg hne3.2.1, if_neg hne3.2.2, if_neg (by rw [hws]; simp), hnt]
    rfl
  | _ => simp [goodV] at hg
theorem runL_app : ∀ (a b : List (List Nat)) (l : LS), runL (a ++ b) l = (runL a l).bind (runL b)
  | [], b, l => rfl
  | p :: a, b, l => by
    simp only [List.cons_append, runL]
    cases stepL p l with
    | none => rfl
    | some l1 => simp only [Option.bind_some]; exact runL_app a b l1
theorem run_W : ∀ (m : Nat) (v : Val) (l : LS), sv v ≤ m → goodV v = true → l.ahead = true → runL (P [] (W v)) l = some ⟨l.rows, [v], false⟩
  | 0, v, l, h, _, _ => by have := sv_pos v; omega
  | m + 1, v, l, h, hg, ha => by
    by_cases ht : ∃ xs, v = .tup xs
    · obtain ⟨xs, rfl⟩ := ht
      simp only [goodV] at hg
      simp only [sv] at h
      have eW : W (.tup xs) = [] ++ 91 :: (joinS [44] (Ws xs) ++ 93 :: []) := by simp [W]
      rw [eW, P_app (by rfl), P_app (by rfl)]
      have inner : ∀ (ys : List Val) (l : LS) (r : List Val) (R : List (List Val)), svs ys ≤ m → goods ys = true → l.ahead = true → l.rows = r :: R → ys ≠ [] → ∃ z zs, ys = zs ++ [z] ∧ runL (P [] (joinS [44] (Ws ys))) l = some ⟨(r ++ zs) :: R, [z], false⟩ := by
        intro ys
        induction ys with
        | nil => intro l r R _ _ _ _ h; exact absurd rfl h
        | cons y ys ih =>
          intro l r R h1 h2 h3 h4 _
          simp only [svs] at h1
          simp only [goods, Bool.and_eq_true] at h2
          have hy := run_W m y l (by omega) h2.1 h3
          cases ys with
          | nil => exact ⟨y, [], rfl, by simp only [Ws, joinS]; rw [hy, h4]; simp⟩
          | cons z zs =>
            have e : joinS [44] (Ws (y :: z :: zs)) = W y ++ 44 :: joinS [44] (Ws (z :: zs)) := by
              show W y ++ [44] ++ joinS [44] (Ws (z :: zs)) = _
              simp
            obtain ⟨w, ws, e1, e2⟩ := ih ⟨(r ++ [y]) :: R, [y], true⟩ (r ++ [y]) R (by simp only [svs] at h1 ⊢; omega) h2.2 rfl rfl (by simp)
            refine ⟨w, y :: ws, by rw [e1]; rfl, ?_⟩
            rw [e, P_app (by rfl), runL_app, hy, Option.bind_some]
            have hp : stepL [44] ⟨l.rows, [y], false⟩ = some ⟨(r ++ [y]) :: R, [y], true⟩ := by
              rw [h4]; rfl
            simp only [runL, hp, Option.bind_some]
            rw [e2]
            simp
      have ho : stepL [91] l = some ⟨[] :: l.rows, l.done, true⟩ := by
        rw [step_X (by rfl)]
        unfold puncL
        rw [if_pos rfl, if_pos ha, ha]
      show runL ([91] :: (P [] (joinS [44] (Ws xs)) ++ [93] :: P [] [])) l = _
      simp only [runL, ho, Option.bind_some]
      rw [runL_app]
      cases xs with
      | nil => rfl
      | cons x xs =>
        obtain ⟨z, zs, e1, e2⟩ := inner (x :: xs) ⟨[] :: l.rows, l.done, true⟩ [] l.rows (by omega) hg rfl rfl (by simp)
        rw [e2, e1]
        rfl
    · obtain ⟨h1, h2, h3⟩ := atom_back hg fun xs e => ht ⟨xs, e⟩
      rw [h1]
      simp only [runL, step_tok h3]
      unfold atomL
      rw [h2]
      dsimp only
      rw [if_pos ha]
      rfl
/-- what is written is read back -/
theorem read_back {v : Val} (hg : goodV v = true) (hp : ∀ p ∈ P [] (W v), p.length ≤ 4000) (hn : opens (P [] (W v)) ≤ 1000) : rdT (W v) = some v := by
  have hr := readers (W v) hp hn
  have h := run_W (sv v) v ⟨[], [], true⟩ (Nat.le_refl _) hg rfl
  unfold lawT at hr
  rw [h, Option.bind_some] at hr
  have e : endL ⟨[], [v], false⟩ = some (.lst [v]) := rfl
  rw [e] at hr
  cases hq : rdT (W v) with
  | none => rw [hq] at hr; cases hr
  | some u =>
    rw [hq] at hr
    simp only [Option.getD_some, toldV, Val.lst.injEq, List.cons.injEq, and_true] at hr
    rw [hr]
/-! ### bounds -/
theorem mx_mono : ∀ (t : List Nat) {a b : Nat}, a ≤ b → mx a t ≤ mx b t
  | [], a, b, h => h
  | c :: t, a, b, h => by
    simp only [mx]
    split
    · exact Nat.max_le.mpr ⟨Nat.le_trans h (Nat.le_max_left _ _), Nat.le_max_right _ _⟩
    · exact mx_mono t (by omega)
theorem mx_self : ∀ (t : List Nat) (a : Nat), a ≤ mx a t
  | [], a => Nat.le_refl _
  | c :: t, a => by
    simp only [mx]
    split
    · exact Nat.le_max_left _ _
    · exact Nat.le_trans (by omega) (mx_self t (a + 1))
theorem mx_add : ∀ (t : List Nat) (a b : Nat), mx (a + b) t ≤ a + mx b t
  | [], a, b => Nat.le_refl _
  | c :: t, a, b => by
    simp only [mx]
    split
    · have := Nat.le_max_left b (mx 0 t)
      have := Nat.le_max_right b (mx 0 t)
      exact Nat.max_le.mpr ⟨by omega, by omega⟩
    · exact mx_add t a (b + 1)
theorem mx_app : ∀ (s t : List Nat) (a : Nat), mx a (s ++ t) ≤ mx a s + mx 0 t
  | [], t, a => by simpa [mx] using mx_add t a 0
  | c :: s, t, a => by
    simp only [List.cons_append, mx]
    split
    · have h1 := mx_app s t 0
      have h2 := Nat.le_max_left a (mx 0 s)
      have h3 := Nat.le_max_right a (mx 0 s)
      exact Nat.max_le.mpr ⟨by omega, by omega⟩
    · exact mx_app s t (a + 1)
theorem mx_pre : ∀ (s t : List Nat) (a : Nat), mx a s ≤ mx a (s ++ t)
  | [], t, a => by simpa [mx] using mx_self t a
  | c :: s, t, a => by
    simp only [List.cons_append, mx]
    split
    · exact Nat.max_le.mpr ⟨Nat.le_max_left _ _, Nat.le_trans (mx_pre s t 0) (Nat.le_max_right _ _)⟩
    · exact mx_pre s t (a + 1)
theorem mx_suf : ∀ (s t : List Nat) (a : Nat), mx 0 t ≤ mx a (s ++ t)
  | [], t, a => mx_mono t (Nat.zero_le _)
  | c :: s, t, a => by
    simp only [List.cons_append, mx]
    split
    · exact Nat.le_trans (mx_suf s t 0) (Nat.le_max_right _ _)
    · exact mx_suf s t (a + 1)
theorem P_mx : ∀ (t tok : List Nat) (p : List Nat), p ∈ P tok t → p.length ≤ max 1 (mx tok.length t)
  | [], tok, p, h => by
    simp only [P] at h
    split at h
    · cases h
    · simp at h; subst h; simp [mx]; omega
  | c :: t, tok, p, h => by
    simp only [P] at h
    simp only [mx]
    split at h
    · rename_i hx
      rw [if_pos hx]
      rcases List.mem_append.mp h with h | h
      · split at h
        · cases h
        · simp at h; subst h; omega
      · rcases List.mem_cons.mp h with rfl | h
        · simp; omega
        · have := P_mx t [] p h; simp at this; omega
    · rename_i hx
      rw [if_neg hx]
      have := P_mx t _ p h
      simpa using this
theorem P_opens : ∀ (t tok : List Nat), (∀ d ∈ tok, isX d = false) → opens (P tok t) ≤ cntO t
  | [], tok, h => by
    simp only [P]
    split
    · simp [opens]
    · have : tok ≠ [91] := fun z => by subst z; have := h 91 (by simp); revert this; decide
      simp [opens, this]
  | c :: t, tok, h => by
    simp only [P]
    split
    · rename_i hx
      have ih := P_opens t [] (by simp)
      have hq : opens (if tok = [] then [] else [tok]) = 0 := by
        split
        · rfl
        · have : tok ≠ [91] := fun z => by subst z; have := h 91 (by simp); revert this; decide
          simp [opens, this]
      have : opens ((if tok = [] then [] else [tok]) ++ [c] :: P [] t) = opens (if tok = [] then [] else [tok]) + (opens (P [] t) + if c = 91 then 1 else 0) := by
        unfold opens
        rw [List.countP_append, List.countP_cons]
        by_cases hc : c = 91
        · subst hc; simp
        · simp [hc]
      rw [this, hq]
      simp only [cntO, List.countP_cons] at ih ⊢
      by_cases hc : c = 91
      · subst hc; simp; omega
      · simp [hc]; omega
    · rename_i hx
      have ih := P_opens t (tok ++ [c]) fun d hd => by
        rcases List.mem_append.mp hd with q | q
        · exact h d q
        · simp at q; subst q; simpa using hx
      simp only [cntO, List.countP_cons] at ih ⊢
      omega
end Nt
end
section
set_option linter.all false
set_option maxRecDepth 100000
set_option maxHeartbeats 4000000
/-! k53, the plain part: bounds of what is told. -/
namespace Nt
open Nl
variable {rep : Val → List Nat} {st : Store} {k : Nat}
theorem mx_noX : ∀ (t : List Nat) (a : Nat), (∀ d ∈ t, isX d = false) → mx a t = a + t.length
  | [], a, _ => by simp [mx]
  | c :: t, a, h => by
    simp only [mx]
    rw [if_neg (by rw [h c List.mem_cons_self]; simp), mx_noX t _ fun d hd => h d (List.mem_cons_of_mem _ hd)]
    simp; omega
theorem join_mem {t : List Nat} : ∀ {ts : List (List Nat)}, t ∈ ts → mx 0 t ≤ mx 0 (joinS [44] ts)
  | [a], h => by
    have : t = a := by simpa using h
    subst this
    exact Nat.le_refl _
  | a :: b :: r, h => by
    have e : joinS [44] (a :: b :: r) = a ++ 44 :: joinS [44] (b :: r) := by
      show a ++ [44] ++ joinS [44] (b :: r) = _
      simp
    rw [e, mx_X (by rfl)]
    rcases List.mem_cons.mp h with rfl | h
    · exact Nat.le_max_left _ _
    · exact Nat.le_trans (join_mem h) (Nat.le_max_right _ _)
theorem mx_tup (xs : List Val) : mx 0 (W (.tup xs)) = mx 0 (joinS [44] (Ws xs)) := by
  have e : W (.tup xs) = 91 :: (joinS [44] (Ws xs) ++ 93 :: []) := by simp [W]
  have e2 : mx 0 (91 :: (joinS [44] (Ws xs) ++ 93 :: [])) = max 0 (mx 0 (joinS [44] (Ws xs) ++ 93 :: [])) := by simp [mx, isX]
  rw [e, e2, mx_X (by rfl)]
  simp [mx]
theorem mx_kid {x : Val} {xs : List Val} (h : x ∈ xs) : mx 0 (W x) ≤ mx 0 (W (.tup xs)) := by
  rw [mx_tup]
  exact join_mem (by rw [Ws_map]; exact List.mem_map_of_mem h)
theorem svs_mem {x : Val} : ∀ {xs : List Val}, x ∈ xs → sv x ≤ svs xs
  | y :: ys, h => by
    simp only [svs]
    rcases List.mem_cons.mp h with rfl | h
    · omega
    · have := svs_mem h; omega
theorem repOks_all : ∀ {xs : List Val}, (∀ x ∈ xs, repOk x = true) → repOks xs = true
  | [], _ => rfl
  | x :: xs, h => by
    simp only [repOks, Bool.and_eq_true]
    exact ⟨h x List.mem_cons_self, repOks_all fun y hy => h y (List.mem_cons_of_mem _ hy)⟩
theorem word_small {s : List Nat} (h : wordS s = true) : s.length ≤ 12 ∧ ∀ d ∈ s, d < 4294967296 := by
  cases s with
  | nil => cases h
  | cons c s =>
    simp only [wordS, Bool.and_eq_true, decide_eq_true_eq] at h
    refine ⟨by simp; omega, fun d hd => ?_⟩
    have := List.all_eq_true.mp h.2 d hd
    simp [isL, isDig] at this
    omega
theorem intStr_len (i : Int) : i.natAbs < 10 ^ (intStr i).length := by
  cases i with
  | ofNat n =>
    have := (digs_facts n).2.2.1
    simpa [intStr] using this
  | negSucc n =>
    have := (digs_facts (n + 1)).2.2.1
    simp only [intStr, List.length_cons, Int.natAbs_negSucc]
    exact Nat.lt_of_lt_of_le this (Nat.pow_le_pow_right (by decide) (by omega))
theorem log_len {n m : Nat} (h : n < 10 ^ m) : n.log2 ≤ 4 * m := by
  rcases Nat.eq_zero_or_pos n with h0 | h0
  · subst h0; simp
  · have h1 : 10 ^ m ≤ 16 ^ m := Nat.pow_le_pow_left (by decide) m
    have h2 : (16 : Nat) ^ m = 2 ^ (4 * m) := by rw [show (16 : Nat) = 2 ^ 4 from rfl, ← Nat.pow_mul]
    have := (Nat.log2_lt (by omega)).mpr (show n < 2 ^ (4 * m) by omega)
    omega
theorem rep_good : ∀ (m : Nat) (v : Val), sv v ≤ m → goodV v = true → mx 0 (W v) ≤ 400 → repOk v = true
  | 0, v, h, _, _ => by have := sv_pos v; omega
  | m + 1, v, h, hg, hm => by
    cases v with
    | tup xs =>
      simp only [sv] at h
      simp only [goodV] at hg
      simp only [repOk]
      refine repOks_all fun x hx => rep_good m x ?_ (goods_mem hg hx) (Nat.le_trans (mx_kid hx) hm)
      have := svs_mem hx; omega
    | str s =>
      simp only [goodV, Bool.or_eq_true, List.isEmpty_iff] at hg
      simp only [repOk, List.all_eq_true, decide_eq_true_eq]
      rcases hg with rfl | hg
      · intro d hd; cases hd
      · exact (word_small hg).2
    | bl b => rfl
    | int i =>
      have e : W (.int i) = intStr i := rfl
      rw [e, mx_noX _ _ (intStr_noX i)] at hm
      have := log_len (intStr_len i)
      simp only [repOk, decide_eq_true_eq]
      omega
    | _ => simp [goodV] at hg
theorem repBs_le {B : Nat} : ∀ {xs : List Val}, (∀ x ∈ xs, repB x ≤ 14 * (W x).length) → repBs xs ≤ 14 * (xs.map fun x => (W x).length).sum + 2 * xs.length
  | [], _ => by simp [repBs]
  | x :: xs, h => by
    have := repBs_le (B := B) fun y hy => h y (List.mem_cons_of_mem _ hy)
    have := h x List.mem_cons_self
    simp only [repBs, List.map_cons, List.sum_cons, List.length_cons]
    omega
theorem repB_good : ∀ (m : Nat) (v : Val), sv v ≤ m → goodV v = true → repB v ≤ 14 * (W v).length
  | 0, v, h, _ => by have := sv_pos v; omega
  | m + 1, v, h, hg => by
    have hp := W_pos hg
    cases v with
    | tup xs =>
      simp only [sv] at h
      simp only [goodV] at hg
      have h1 := W_tup_len hg
      have h2 := repBs_le (B := 0) (xs := xs) fun x hx => repB_good m x (by have := svs_mem hx; omega) (goods_mem hg hx)
      simp only [repB]
      split at h1
      · rename_i e; subst e; simp [repBs] at *; omega
      · omega
    | str s =>
      simp only [repB]
      by_cases hs : s = []
      · subst hs; simp [W]
      · have e : W (.str s) = s := by simp [W, hs]
        rw [e] at hp ⊢
        omega
    | bl b => simp only [repB]; omega
    | int i =>
      have e : W (.int i) = intStr i := rfl
      have := log_len (intStr_len i)
      rw [e] at hp ⊢
      simp only [repB]
      omega
    | _ => simp [goodV] at hg
theorem depth_good : ∀ (m : Nat) (v : Val), sv v ≤ m → depthV v ≤ cntO (W v) ∨ goodV v = false
  | 0, v, h => by have := sv_pos v; omega
  | m + 1, v, h => by
    cases v with
    | tup xs =>
      simp only [sv] at h
      cases hg : goodV (.tup xs) with
      | false => exact .inr rfl
      | true =>
        left
        simp only [goodV] at hg
        have h1 : cntO (W (.tup xs)) = (xs.map fun x => cntO (W x)).sum + 1 := by
          have hj := join_cnt (Ws xs)
          have e : ((Ws xs).map cntO).sum = (xs.map fun x => cntO (W x)).sum := by rw [Ws_map]; simp [Function.comp_def]
          have e2 : cntO (W (.tup xs)) = cntO (joinS [44] (Ws xs)) + 1 := by simp [W, cntO]
          rw [e2, hj, e]
        have h2 : ∀ l : List Val, svs l ≤ m → goods l = true → depthVs l ≤ (l.map fun x => cntO (W x)).sum := fun l => by
          induction l with
          | nil => intro _ _; simp [depthVs]
          | cons y l ih =>
            intro a b
            simp only [svs] at a
            simp only [goods, Bool.and_eq_true] at b
            have c1 := ih (by omega) b.2
            have c2 : depthV y ≤ cntO (W y) := (depth_good m y (by omega)).resolve_right (by rw [b.1]; simp)
            simp only [depthVs, List.map_cons, List.sum_cons]
            exact Nat.max_le.mpr ⟨by omega, by omega⟩
        have := h2 xs (by omega) hg
        simp only [depthV]
        omega
    | lst xs => right; rfl
    | _ => left; simp [depthV]
theorem good_smalls : ∀ (m : Nat) (v : Val), sv v ≤ m → goodV v = true → smalls v = true
  | 0, v, h, _ => by have := sv_pos v; omega
  | m + 1, v, h, hg => by
    cases v with
    | tup xs =>
      simp only [sv] at h
      simp only [goodV] at hg
      simp only [smalls]
      have : ∀ l : List Val, svs l ≤ m → goods l = true → smallsA l = true := fun l => by
        induction l with
        | nil => intro _ _; rfl
        | cons y l ih =>
          intro a b
          simp only [svs] at a
          simp only [goods, Bool.and_eq_true] at b
          simp only [smallsA, Bool.and_eq_true]
          exact ⟨good_smalls m y (by omega) b.1, ih (by omega) b.2⟩
      exact this xs (by omega) hg
    | str s =>
      simp only [goodV, Bool.or_eq_true, List.isEmpty_iff] at hg
      simp only [smalls, decide_eq_true_eq]
      have hl : line = 16777216 := rfl
      rcases hg with rfl | hg
      · simp
      · have := (word_small hg).1; omega
    | _ => rfl
/-- repr of what is told -/
theorem rep_told {v : Val} (hg : goodV v = true) (hm : mx 0 (W v) ≤ 400) (hc : cntO (W v) ≤ 500) (hl : (W v).length ≤ 100000) : biV (Tr rep) .repr [.lst [v]] = some (.str (rep (.lst [v]))) := by
  have h1 := rep_good _ v (Nat.le_refl _) hg hm
  have h2 := repB_good _ v (Nat.le_refl _) hg
  have h3 : depthV v ≤ cntO (W v) := (depth_good _ v (Nat.le_refl _)).resolve_right (by rw [hg]; simp)
  have hli : line = 16777216 := rfl
  have a1 : repOk (.lst [v]) = true := by simp [repOk, repOks, h1]
  have a2 : repB (.lst [v]) + 64 ≤ line := by simp only [repB, repBs]; omega
  have a3 : depthV (.lst [v]) ≤ 600 := by simp only [depthV, depthVs]; omega
  show biRepr (Tr rep) [.lst [v]] = _
  unfold biRepr
  dsimp only
  rw [a1, decide_eq_true a2, decide_eq_true a3]
  rfl
theorem rep_non : biV (Tr rep) .repr [.non] = some (.str (rep .non)) := rfl
/-- a text that the law may hand to both readers -/
structure OkT (t : List Nat) : Prop where
  tok : mx 0 t ≤ 400
  cnt : cntO t ≤ 140
  len : t.length ≤ 100000
  no59 : 59 ∉ t
theorem OkT.pieces {t : List Nat} (h : OkT t) : ∀ p ∈ P [] t, p.length ≤ 400 := fun p hp => by
  have := P_mx t [] p hp
  have h2 := h.tok
  simp at this
  omega
theorem OkT.opens {t : List Nat} (h : OkT t) : opens (P [] t) ≤ 140 := Nat.le_trans (P_opens t [] (by simp)) h.cnt
theorem OkT.canon {t : List Nat} {v : Val} (h : OkT t) (e : rdT t = some v) : W v = t ∧ goodV v = true :=
  read_canon (fun p hp => by have := h.pieces p hp; omega) (by have := h.opens; omega) e
theorem due_at {t : List Nat} (h : OkT t) : callF (Tr rep) (k + 2) 21 [.str t] st = .ok (toldV (rdT t)) st := by
  rw [c_law_read t (by have := h.len; omega) (fun p hp => by have := h.pieces p hp; omega) h.no59]
  rw [readers t (fun p hp => by have := h.pieces p hp; omega) (by have := h.opens; omega)]
theorem told_at {t : List Nat} (h : OkT t) : callF (Tr rep) (k + 5) 22 [.int 1, .str t] st = .ok (toldV (rdT t)) st :=
  told_read t (by have := h.len; omega)
theorem rep_at {t : List Nat} (h : OkT t) : ∃ s, biV (Tr rep) .repr [toldV (rdT t)] = some (.str s) := by
  cases e : rdT t with
  | none => exact ⟨_, rep_non⟩
  | some v =>
    obtain ⟨h1, h2⟩ := h.canon e
    refine ⟨_, rep_told h2 ?_ ?_ ?_⟩
    · rw [h1]; exact h.tok
    · rw [h1]; have := h.cnt; omega
    · rw [h1]; exact h.len
theorem slc_aa {s : List Nat} {a : Nat} (hs : s.length ≤ line) : slcV (.str s) (.int (a : Int)) .non = some (.str (s.drop a)) := by
  by_cases h : a ≤ s.length
  · exact slc_a hs h
  · have : clampI s.length (a : Int) = s.length := by
      unfold clampI
      rw [if_pos (by omega)]
      exact Nat.min_eq_right (by omega)
    simp only [slcV, opt_i, opt_n, Option.bind_some, hs, if_true, sliceL, this]
    simp
    omega
/-- what is drawn, bent -/
theorem bent {t o : List Nat} {i j : Nat} (hm : mx 0 t ≤ 41) (hc : cntO t ≤ 121) (hl : t.length ≤ 20000) (h59 : 59 ∉ t) (hij : i ≤ j) (m : List Nat) (hmm : m = [] ∨ ∃ c, m = [c] ∧ c ≠ 59) (e : o = t.take i ++ m ++ t.drop j) : OkT o := by
  have f1 : mx 0 (t.take i) ≤ mx 0 t := by
    conv => rhs; rw [← List.take_append_drop i t]
    exact mx_pre _ _ _
  have f2 : mx 0 (t.drop j) ≤ mx 0 t := by
    conv => rhs; rw [← List.take_append_drop j t]
    exact mx_suf _ _ _
  have f3 := mx_app (t.take i ++ m) (t.drop j) 0
  have f4 := mx_app (t.take i) m 0
  have f5 : mx 0 m ≤ 1 ∧ m.length ≤ 1 ∧ 59 ∉ m := by
    rcases hmm with rfl | ⟨c, rfl, hc⟩
    · simp [mx]
    · refine ⟨?_, by simp, by simpa using fun z => hc z.symm⟩
      simp only [mx]
      split <;> simp
  have g1 : cntO (t.take i ++ m ++ t.drop j) ≤ 140 := by
    simp only [cntO, List.countP_append]
    have a : List.countP (· == 91) (t.take i) + List.countP (· == 91) (t.drop i) = List.countP (· == 91) t := by
      rw [← List.countP_append, List.take_append_drop]
    have b : List.countP (· == 91) (t.drop j) ≤ List.countP (· == 91) (t.drop i) := by
      refine List.Sublist.countP_le ?_
      have : t.drop j = (t.drop i).drop (j - i) := by rw [List.drop_drop]; congr 1; omega
      rw [this]
      exact List.drop_sublist _ _
    have c := List.countP_le_length (p := (· == 91)) (l := m)
    simp only [cntO] at hc
    omega
  subst e
  refine ⟨by omega, g1, ?_, ?_⟩
  · simp only [List.length_append, List.length_take, List.length_drop]
    omega
  · simp only [List.mem_append, not_or]
    exact ⟨⟨fun h => h59 (List.mem_of_mem_take h), f5.2.2⟩, fun h => h59 (List.mem_of_mem_drop h)⟩
theorem no59_join : ∀ {ts : List (List Nat)}, (∀ t ∈ ts, 59 ∉ t) → 59 ∉ joinS [44] ts
  | [], _ => by simp [joinS]
  | [a], h => h a List.mem_cons_self
  | a :: b :: r, h => by
    have e : joinS [44] (a :: b :: r) = a ++ 44 :: joinS [44] (b :: r) := by
      show a ++ [44] ++ joinS [44] (b :: r) = _
      simp
    rw [e]
    have h1 := h a List.mem_cons_self
    have h2 := no59_join (ts := b :: r) fun t ht => h t (List.mem_cons_of_mem _ ht)
    simp [h1, h2]
theorem no59_good : ∀ (m : Nat) (v : Val), sv v ≤ m → goodV v = true → 59 ∉ W v
  | 0, v, h, _ => by have := sv_pos v; omega
  | m + 1, v, h, hg => by
    cases v with
    | tup xs =>
      simp only [sv] at h
      simp only [goodV] at hg
      have := no59_join (ts := Ws xs) fun t ht => by
        rw [Ws_map] at ht
        obtain ⟨x, hx, rfl⟩ := List.mem_map.mp ht
        exact no59_good m x (by have := svs_mem hx; omega) (goods_mem hg hx)
      simp [W, this]
    | str s =>
      simp only [goodV, Bool.or_eq_true, List.isEmpty_iff] at hg
      by_cases hs : s = []
      · subst hs; simp [W]
      · have hw := hg.resolve_left hs
        have e : W (.str s) = s := by simp [W, hs]
        rw [e]
        intro hd
        cases s with
        | nil => cases hd
        | cons c s =>
          simp only [wordS, Bool.and_eq_true] at hw
          have := List.all_eq_true.mp hw.2 59 hd
          revert this
          decide
    | bl b => cases b <;> simp [W]
    | int i =>
      intro hd
      have e : W (.int i) = intStr i := rfl
      rw [e] at hd
      have hk : ∀ n, 59 ∉ digs n := fun n hn => by
        have := List.all_eq_true.mp (digs_facts n).2.1 59 hn
        revert this
        decide
      cases i with
      | ofNat n => exact hk n hd
      | negSucc n =>
        simp only [intStr] at hd
        rcases List.mem_cons.mp hd with h | h
        · cases h
        · exact hk _ h
    | _ => simp [goodV] at hg
theorem GD.okT {v : Val} (h : GD 5 v) : OkT (W v) := by
  have b1 : BL 5 = 10447 := by decide
  have b2 : BN 5 = 121 := by decide
  exact ⟨by have := h.tok; omega, by have := h.cnt; omega, by have := h.len; omega, no59_good _ v (Nat.le_refl _) h.good⟩
theorem GD.back {v : Val} (h : GD 5 v) : rdT (W v) = some v :=
  read_back h.good (fun p hp => by have := h.okT.pieces p hp; omega) (by have := h.okT.opens; omega)
end Nt
end
section
set_option linter.all false
set_option maxRecDepth 100000
set_option maxHeartbeats 4000000
/-! k53, the plain part: the law's loops. -/
namespace Nt
open Nl
variable {rep : Val → List Nat} {k : Nat} {cl mk : Nat → List Val → Store → Res Val}
/-- what the law's calls answer -/
structure Cl (cl : Nat → List Val → Store → Res Val) : Prop where
  draw : ∀ ns : List Int, ns.length ≤ 63 → ∃ D, cl 15 [.scr ns] [] = .ok (.ref 0) [.lst D] ∧ DrawOk 0 D
  take : ∀ {Q : Nat} {D : List Val} (many : Int), DrawOk Q D → Q < 1000000 → 0 < many → many < 2 ^ 60 → ∃ D' r, cl 16 [.ref 0, .int many] [.lst D] = .ok (.int r) [.lst D'] ∧ DrawOk (Q + 1) D' ∧ 0 ≤ r ∧ r < many
  data : ∀ {Q : Nat} {D : List Val}, DrawOk Q D → Q + 1092 < 1000000 → ∃ v D', cl 17 [.ref 0, .int 5] [.lst D] = .ok v [.lst D'] ∧ GD 5 v ∧ DrawOk (Q + 1092) D'
  wrt : ∀ (v : Val) (st : Store), goodV v = true → depthV v ≤ 145 → (W v).length ≤ 4000000 → cl 19 [v] st = .ok (.str (W v)) st
  due : ∀ {t : List Nat} (st : Store), OkT t → cl 21 [.str t] st = .ok (toldV (rdT t)) st
  wr : ∀ (v : Val) (st : Store), v.data = true → smalls v = true → sv v ≤ 900000 → (∀ t, wrV 1 v = some t → t.length ≤ line) → cl 22 [.int 0, v] st = .ok (toldV ((wrV 1 v).map .str)) st
  rd : ∀ (t : List Nat) (st : Store), t.length ≤ 4000000 → cl 22 [.int 1, .str t] st = .ok (toldV (rdT t)) st
  oth : ∀ (v : Val) (st : Store), v.data = true → (∀ s, v ≠ .str s) → cl 22 [.int 1, v] st = .ok .non st
theorem cl_all : Cl (callF (Tr rep) (k + 150)) where
  draw ns h := c_law_draw (k := k + 149) ns h
  take many h hq h0 h1 := c_law_take (k := k + 149) h hq h0 h1
  data h hq := c_law_data 5 (k + 143) _ _ h hq
  wrt v st hg hd hl := c_law_written (k + 150) v (by omega) hg hl st
  due st h := due_at (k := k + 148) h
  wr v st h1 h2 h3 h4 := told_write (k := k + 145) v h1 h2 h3 h4
  rd t st h := told_read (k := k + 145) t h
  oth v st h1 h2 := told_other (k := k + 148) v h1 h2
abbrev lw (ns : List Int) (a2 a3 a4 a5 a6 a7 a8 a9 a10 a11 a12 a13 : Option Val) : Env := [some (.scr ns), some (.ref 0), a2, a3, a4, a5, a6, a7, a8, a9, a10, a11, a12, a13]
variable {ns : List Int} {a2 a3 a4 a5 a6 a7 a8 a9 a10 a11 a12 a13 : Option Val}
theorem law1 (C : Cl cl) {o : List Nat} {D : List Val} (h : OkT o) : evSs (Tr rep) cl mk b_law_1 (lw ns a2 a3 a4 a5 a6 a7 (some (.str o)) a9 a10 a11 a12 a13) [.lst D] = .next (lw ns a2 a3 a4 a5 a6 a7 (some (.str o)) (some (toldV (rdT o))) a10 a11 a12 a13) [.lst D] := by
  have h1 := C.due [.lst D] h
  have h2 := C.rd o [.lst D] (by have := h.len; omega)
  obtain ⟨s, h3⟩ := rep_at (rep := rep) h
  cases e : rdT o with
  | none =>
    rw [e] at h1 h2 h3
    simp only [toldV] at h1 h2 h3 ⊢
    simp [b_law_1, h1, h2, h3]
  | some v =>
    obtain ⟨c1, c2⟩ := h.canon e
    have hd : depthV v ≤ cntO (W v) := (depth_good _ v (Nat.le_refl _)).resolve_right (by rw [c2]; simp)
    have h4 := C.wrt v [.lst D] c2 (by rw [c1] at hd; have := h.cnt; omega) (by rw [c1]; have := h.len; omega)
    rw [e] at h1 h2 h3
    simp only [toldV] at h1 h2 h3 ⊢
    have hi : idxV (.lst [v]) (.int 0) = some v := rfl
    rw [c1] at h4
    simp [b_law_1, h1, h2, h3, hi, h4]
theorem law2 (C : Cl cl) {t : List Nat} {Q : Nat} {D : List Val} (hD : DrawOk Q D) (hQ : Q + 2 < 1000000) (hm : mx 0 t ≤ 41) (hc : cntO t ≤ 121) (hl : t.length ≤ 20000) (h59 : 59 ∉ t) : ∃ a6' a7' a8' a9' D', evSs (Tr rep) cl mk b_law_2 (lw ns a2 a3 (some (.str t)) a5 a6 a7 a8 a9 a10 a11 a12 a13) [.lst D] = .next (lw ns a2 a3 (some (.str t)) a5 a6' a7' a8' a9' a10 a11 a12 a13) [.lst D'] ∧ DrawOk (Q + 2) D' := by
  have hli : line = 16777216 := rfl
  obtain ⟨D1, r1, t1, hD1, p1, q1⟩ := C.take ((t.length : Int) + 1) hD (by omega) (by omega) (by omega)
  obtain ⟨D2, r2, t2, hD2, p2, q2⟩ := C.take 11 hD1 (by omega) (by omega) (by omega)
  have hlen := bi_lenS (T := Tr rep) (s := t) (by omega)
  have e1 : r1 = ((r1.toNat : Nat) : Int) := by omega
  have e1' : r1 + 1 = ((r1.toNat + 1 : Nat) : Int) := by omega
  have e2 : r2 = ((r2.toNat : Nat) : Int) := by omega
  obtain ⟨c, hcx⟩ : ∃ c, [91, 93, 44, 97, 48, 45, 49, 32, 65, 43, 46][r2.toNat]? = some c := ⟨_, List.getElem?_eq_getElem (by simp; omega)⟩
  have hc59 : c ≠ 59 := fun z => by
    subst z
    have := List.mem_of_getElem? hcx
    revert this
    decide
  have hix := idx_str (s := [91, 93, 44, 97, 48, 45, 49, 32, 65, 43, 46]) (i := r2.toNat) (by decide) hcx
  rw [← e2] at hix
  have s1 := slc_b (s := t) (b := r1.toNat) (by omega) (by omega)
  have s2 := slc_aa (s := t) (a := r1.toNat) (by omega)
  have s3 := slc_aa (s := t) (a := r1.toNat + 1) (by omega)
  rw [← e1] at s1 s2
  rw [← e1'] at s3
  have l1 : (t.take r1.toNat).length ≤ 20000 := by simp; omega
  have l2 : (t.drop r1.toNat).length ≤ 20000 := by simp; omega
  have l3 : (t.drop (r1.toNat + 1)).length ≤ 20000 := by simp; omega
  have b1 : evS (Tr rep) cl mk (.gen [.nm 6, .nm 7] (.tup [.call 16 [.var 1, .bin .add (.bi .len [.var 4]) (.cst (.int 1))], .idx (.cst (.str [91, 93, 44, 97, 48, 45, 49, 32, 65, 43, 46])) (.call 16 [.var 1, .cst (.int 11)])])) (lw ns a2 a3 (some (.str t)) a5 a6 a7 a8 a9 a10 a11 a12 a13) [.lst D] = .next (lw ns a2 a3 (some (.str t)) a5 (some (.int r1)) (some (.str [c])) a8 a9 a10 a11 a12 a13) [.lst D2] := by
    simp [hlen, t1, t2, hix]
  have g1 := add_str (s := t.take r1.toNat) (t := [c]) (by simp; omega)
  have g2 := add_str (s := t.take r1.toNat ++ [c]) (t := t.drop r1.toNat) (by simp only [List.length_append, List.length_cons, List.length_nil]; omega)
  have g3 := add_str (s := t.take r1.toNat) (t := t.drop (r1.toNat + 1)) (by omega)
  have g4 := add_str (s := t.take r1.toNat ++ [c]) (t := t.drop (r1.toNat + 1)) (by simp only [List.length_append, List.length_cons, List.length_nil]; omega)
  generalize hA : t.take r1.toNat = A at s1 l1 g1 g2 g3 g4
  generalize hB : t.drop r1.toNat = B at s2 l2 g2
  generalize hC : t.drop (r1.toNat + 1) = B' at s3 l3 g3 g4
  have o1 : OkT (A ++ [c] ++ B) := bent (i := r1.toNat) (j := r1.toNat) hm hc hl h59 (Nat.le_refl _) [c] (.inr ⟨c, rfl, hc59⟩) (by rw [hA, hB])
  have o2 : OkT (A ++ B') := bent (i := r1.toNat) (j := r1.toNat + 1) hm hc hl h59 (by omega) [] (.inl rfl) (by rw [hA, hC]; simp)
  have o3 : OkT (A ++ [c] ++ B') := bent (i := r1.toNat) (j := r1.toNat + 1) hm hc hl h59 (by omega) [c] (.inr ⟨c, rfl, hc59⟩) (by rw [hA, hC])
  generalize hX : A ++ [c] = X at g1 g2 g4 o1 o3
  have b2 : ev (Tr rep) cl mk (.lst [.bin .add (.bin .add (.slc (.var 4) (.cst .non) (.var 6)) (.var 7)) (.slc (.var 4) (.var 6) (.cst .non)), .bin .add (.slc (.var 4) (.cst .non) (.var 6)) (.slc (.var 4) (.bin .add (.var 6) (.cst (.int 1))) (.cst .non)), .bin .add (.bin .add (.slc (.var 4) (.cst .non) (.var 6)) (.var 7)) (.slc (.var 4) (.bin .add (.var 6) (.cst (.int 1))) (.cst .non))]) (lw ns a2 a3 (some (.str t)) a5 (some (.int r1)) (some (.str [c])) a8 a9 a10 a11 a12 a13) [.lst D2] = .ok (.lst [.str (X ++ B), .str (A ++ B'), .str (X ++ B')]) [.lst D2] := by
    simp [s1, s2, s3, g1, g2, g3, g4]
  refine ⟨some (.int r1), some (.str [c]), some (.str (X ++ B')), some (toldV (rdT (X ++ B'))), D2, ?_, hD2⟩
  rw [b_law_2, evSs_cons, b1, RS.then_next, evSs_cons, for_run b2 walked_lst]
  rw [forL_cons (env' := lw ns a2 a3 (some (.str t)) a5 (some (.int r1)) (some (.str [c])) (some (.str (X ++ B))) a9 a10 a11 a12 a13) rfl, law1 C o1]
  dsimp only
  rw [forL_cons (env' := lw ns a2 a3 (some (.str t)) a5 (some (.int r1)) (some (.str [c])) (some (.str (A ++ B'))) (some (toldV (rdT (X ++ B)))) a10 a11 a12 a13) rfl, law1 C o2]
  dsimp only
  rw [forL_cons (env' := lw ns a2 a3 (some (.str t)) a5 (some (.int r1)) (some (.str [c])) (some (.str (X ++ B'))) (some (toldV (rdT (A ++ B')))) a10 a11 a12 a13) rfl, law1 C o3]
  dsimp only
  rw [forL_nil, RS.then_next, evSs_nil]
theorem eqV_one {s t : List Nat} : eqV (.lst [.str s]) (.lst [.str t]) = some (s == t) := by
  simp [eqV, Val.data, dataAll, eqD, eqDs, depthV, depthVs]
theorem law3 (C : Cl cl) {Q : Nat} {D : List Val} (hD : DrawOk Q D) (hQ : Q + 1200 < 1000000) : ∃ a3' a4' a5' a6' a7' a8' a9' D', evSs (Tr rep) cl mk b_law_3 (lw ns a2 a3 a4 a5 a6 a7 a8 a9 a10 a11 a12 a13) [.lst D] = .next (lw ns a2 a3' a4' a5' a6' a7' a8' a9' a10 a11 a12 a13) [.lst D'] ∧ DrawOk (Q + 1108) D' := by
  have hli : line = 16777216 := rfl
  obtain ⟨v, D1, c1, hv, hD1⟩ := C.data hD (by omega)
  have b1 : BL 5 = 10447 := by decide
  have b2 : BN 5 = 121 := by decide
  have b3 : BS 5 = 848 := by decide
  have ht := hv.okT
  have vl := hv.len
  have vc := hv.cnt
  have c2 := C.wrt v [.lst D1] hv.good (by have := hv.dep; omega) (by omega)
  have hw := wr_good (sv v) v 1 (Nat.le_refl _) hv.good (by have := hv.dep; omega)
  have c3 := C.wr v [.lst D1] (good_data v hv.good) (good_smalls _ v (Nat.le_refl _) hv.good) (by have := hv.siz; omega) (fun t h => by rw [hw] at h; cases h; omega)
  rw [hw] at c3
  have c4 := C.rd (W v) [.lst D1] (by omega)
  rw [hv.back] at c4
  have r1 := rep_told (rep := rep) hv.good (by have := hv.tok; omega) (by omega) (by omega)
  have hrg : biV (Tr rep) .range [.int 8] = some (.lst (rangeN 0 1 8)) := rfl
  simp only [toldV, Option.map_some] at c3 c4
  have s1 : evS (Tr rep) cl mk (.asg (.nm 3) (.call 17 [.var 1, .cst (.int 5)])) (lw ns a2 a3 a4 a5 a6 a7 a8 a9 a10 a11 a12 a13) [.lst D] = .next (lw ns a2 (some v) a4 a5 a6 a7 a8 a9 a10 a11 a12 a13) [.lst D1] := by simp [c1]
  have s2 : evS (Tr rep) cl mk (.asg (.nm 4) (.call 19 [.var 3])) (lw ns a2 (some v) a4 a5 a6 a7 a8 a9 a10 a11 a12 a13) [.lst D1] = .next (lw ns a2 (some v) (some (.str (W v))) a5 a6 a7 a8 a9 a10 a11 a12 a13) [.lst D1] := by simp [c2]
  have s3 : evS (Tr rep) cl mk (.ifs (.or (.cmp .ne (.call 22 [.cst (.int 0), .var 3]) (.lst [.var 4])) (.cmp .ne (.bi .repr [.call 22 [.cst (.int 1), .var 4]]) (.bi .repr [.lst [.var 3]]))) [.ret (.cst (.bl false))] []) (lw ns a2 (some v) (some (.str (W v))) a5 a6 a7 a8 a9 a10 a11 a12 a13) [.lst D1] = .next (lw ns a2 (some v) (some (.str (W v))) a5 a6 a7 a8 a9 a10 a11 a12 a13) [.lst D1] := by
    simp [c3, c4, r1, eqV_one]
  obtain ⟨e, s, hE, a5', a6', a7', a8', a9', D2, rfl, rfl, hD2, _⟩ := forL_inv (t := [5]) (one := true) (all := rangeN 0 1 8) (body := fun env st => evSs (Tr rep) cl mk b_law_2 env st)
    (fun q env st => ∃ a5 a6 a7 a8 a9 D', env = lw ns a2 (some v) (some (.str (W v))) a5 a6 a7 a8 a9 a10 a11 a12 a13 ∧ st = [.lst D'] ∧ DrawOk (Q + 1092 + 2 * (8 - q.length)) D' ∧ q.length ≤ 8)
    (fun x q env st ⟨a5, a6, a7, a8, a9, D', h1, h2, h3, h4⟩ => by
      subst h1
      subst h2
      simp only [List.length_cons] at h3 h4
      obtain ⟨a6', a7', a8', a9', D3, h5, h6⟩ := law2 (rep := rep) (mk := mk) (ns := ns) (a2 := a2) (a3 := some v) (a5 := some x) (a6 := a6) (a7 := a7) (a8 := a8) (a9 := a9) (a10 := a10) (a11 := a11) (a12 := a12) (a13 := a13) C (t := W v) h3 (by omega) hv.tok (by omega) (by omega) ht.no59
      exact ⟨lw ns a2 (some v) (some (.str (W v))) (some x) a6 a7 a8 a9 a10 a11 a12 a13, rfl, _, _, .inl h5, some x, a6', a7', a8', a9', D3, rfl, rfl, h6.mono (by omega), by omega⟩)
    (rangeN 0 1 8) (lw ns a2 (some v) (some (.str (W v))) a5 a6 a7 a8 a9 a10 a11 a12 a13) [.lst D1] ⟨a5, a6, a7, a8, a9, D1, rfl, rfl, hD1.mono (by simp [rng_len]), by simp [rng_len]⟩
  have hit : ev (Tr rep) cl mk (.bi .range [.cst (.int 8)]) (lw ns a2 (some v) (some (.str (W v))) a5 a6 a7 a8 a9 a10 a11 a12 a13) [.lst D1] = .ok (.lst (rangeN 0 1 8)) [.lst D1] := by
    simp only [ev_bi, evs_cons, evs_nil, ev_cst, Res.bind_ok, List.map_cons, List.map_nil, rdI_int, hrg, Res.opt_some]
  refine ⟨some v, some (.str (W v)), a5', a6', a7', a8', a9', D2, ?_, hD2.mono (by simp)⟩
  rw [b_law_3, evSs_cons, s1, RS.then_next, evSs_cons, s2, RS.then_next, evSs_cons, s3, RS.then_next, evSs_cons, for_run hit walked_lst, hE, RS.then_next, evSs_nil]
theorem law4 (C : Cl cl) {v : Val} {st : Store} (h1 : v.data = true) (h2 : smalls v = true) (h3 : sv v ≤ 900000) (h4 : wrV 1 v = none) : evSs (Tr rep) cl mk b_law_4 (lw ns a2 a3 a4 a5 a6 a7 a8 a9 (some v) a11 a12 a13) st = .next (lw ns a2 a3 a4 a5 a6 a7 a8 a9 (some v) a11 a12 a13) st := by
  have c := C.wr v st h1 h2 h3 (fun t h => by rw [h4] at h; cases h)
  rw [h4] at c
  simp only [Option.map_none, toldV] at c
  simp [b_law_4, c]
end Nt
end
section
set_option linter.all false
set_option maxRecDepth 100000
set_option maxHeartbeats 4000000
/-! k53, the plain part: the law's constants. -/
namespace Nt
open Nl
theorem natOf_nines : ∀ n : Nat, natOf (List.replicate n 57) + 1 = 10 ^ n
  | 0 => rfl
  | n + 1 => by
    rw [List.replicate_succ', natOf_snoc, Nat.pow_succ, ← natOf_nines n]
    omega
def nines (n : Nat) : List Nat := List.replicate n 57
theorem nines_dig (n : Nat) : (nines n).all isDig = true := by
  rw [List.all_eq_true]
  intro d hd
  have := (List.mem_replicate.mp hd).2
  subst this
  rfl
theorem nines_cons (n : Nat) : nines (n + 1) = 57 :: nines n := rfl
theorem nines_len (n : Nat) : (nines n).length = n := by simp [nines]
theorem digs_nines (n : Nat) : digs (natOf (nines (n + 1))) = nines (n + 1) := by
  refine digs_nat (n + 1) _ (nines_len _) (by rw [nines_cons]; simp) (nines_dig _) fun c r e hc => ?_
  rw [nines_cons] at e
  cases e
  cases hc
theorem int_nines {n : Nat} (h : n + 1 ≤ 4200) : intOf (nines (n + 1)) = some (natOf (nines (n + 1)) : Int) := by
  have h1 := nines_dig (n + 1)
  have h2 := nines_len (n + 1)
  rw [nines_cons] at h1 h2 ⊢
  unfold intOf
  split
  · rename_i e; cases e
  · rw [if_pos ⟨by simp, h1, by omega⟩]
theorem wr_nines : wrV 1 (.int (natOf (nines (3999 + 1)) : Int)) = some (nines (3999 + 1)) := by
  have h := natOf_nines (3999 + 1)
  have hs : shortI (natOf (nines (3999 + 1)) : Int) = true := short_of (by
    have : ((natOf (nines (3999 + 1)) : Int)).natAbs = natOf (nines (3999 + 1)) := rfl
    rw [this]
    show natOf (List.replicate (3999 + 1) 57) < 10 ^ (3999 + 1)
    omega)
  have hd := digs_nines 3999
  simp only [wrV, atomT]
  rw [if_pos hs]
  exact congrArg some hd
theorem wr_over : wrV 1 (.int ((natOf (nines (3999 + 1)) : Int) + 1)) = none := by
  have h := natOf_nines (3999 + 1)
  have hs : shortI ((natOf (nines (3999 + 1)) : Int) + 1) = false := by
    cases e : shortI ((natOf (nines (3999 + 1)) : Int) + 1) with
    | false => rfl
    | true =>
      have := of_short e
      have e2 : ((natOf (nines (3999 + 1)) : Int) + 1).natAbs = natOf (List.replicate (3999 + 1) 57) + 1 := rfl
      rw [e2, h] at this
      exact absurd this (Nat.lt_irrefl _)
  simp only [wrV, atomT]
  rw [if_neg (by rw [hs]; simp)]
theorem rd_one {t : List Nat} (h0 : t ≠ []) (h : ∀ d ∈ t, isX d = false) : rdT t = raT t := by
  unfold rdT
  rw [P_plain _ _ h, if_neg (by simpa using h0)]
  have h1 : t ≠ [91] := fun z => by subst z; have := h 91 (by simp); revert this; decide
  have h2 : t ≠ [93] := fun z => by subst z; have := h 93 (by simp); revert this; decide
  have h3 : t ≠ [44] := fun z => by subst z; have := h 44 (by simp); revert this; decide
  simp only [List.nil_append, runP, takeP]
  rw [if_neg h1, if_neg h2, if_neg h3]
  cases raT t with
  | none => rfl
  | some v => rfl
theorem nines_noX (n : Nat) : ∀ d ∈ nines n, isX d = false := fun d hd => by
  have := (List.mem_replicate.mp hd).2
  subst this
  rfl
theorem intOf_neg {s : List Nat} (h : s ≠ [] ∧ s.all isDig = true ∧ s.length ≤ 4200) : intOf (45 :: s) = some (-(natOf s : Int)) := by
  simp only [intOf]
  rw [if_pos h]
theorem rd_minus : ∃ v, rdT (45 :: nines (3999 + 1)) = some v := by
  have hl := nines_len (3999 + 1)
  rw [rd_one (by simp) fun d hd => by
    rcases List.mem_cons.mp hd with rfl | hd
    · rfl
    · exact nines_noX _ d hd]
  have hne : ∀ c : Nat, 45 :: nines (3999 + 1) ≠ [c] := fun c z => by
    have := congrArg List.length z
    rw [List.length_cons, hl] at this
    cases this
  have hw : wordS (45 :: nines (3999 + 1)) = false := by simp [wordS, isL]
  unfold raT
  rw [if_neg (hne _), if_neg (hne _), if_neg (hne _), if_neg (by rw [hw]; simp)]
  have hb : bodyT (45 :: nines (3999 + 1)) = nines (3999 + 1) := bodyT_cons
  have hn : numOk (45 :: nines (3999 + 1)) = true := by
    unfold numOk
    rw [hb, nines_cons]
    have := nines_dig (3999 + 1)
    rw [nines_cons] at this
    simp only [this]
    rfl
  have hi : intOf (45 :: nines (3999 + 1)) = some (-(natOf (nines (3999 + 1)) : Int)) := intOf_neg ⟨by rw [nines_cons]; simp, nines_dig _, by rw [hl]; decide⟩
  unfold rwT numT
  rw [hb, hl, if_pos (by decide), if_pos hn, hi]
  exact ⟨_, rfl⟩
theorem rd_over : rdT (nines (3999 + 1) ++ [48]) = none := by
  have hl : (nines (3999 + 1) ++ [48]).length = 4001 := by rw [List.length_append, nines_len]; rfl
  rw [rd_one (by simp) fun d hd => by
    rcases List.mem_append.mp hd with hd | hd
    · exact nines_noX _ d hd
    · simp at hd; subst hd; rfl]
  have hne : ∀ c : Nat, nines (3999 + 1) ++ [48] ≠ [c] := fun c z => by
    have := congrArg List.length z
    rw [hl] at this
    cases this
  have e : nines (3999 + 1) ++ [48] = 57 :: (nines 3999 ++ [48]) := rfl
  have hw : wordS (nines (3999 + 1) ++ [48]) = false := by rw [e]; simp [wordS, isL]
  unfold raT
  rw [if_neg (hne _), if_neg (hne _), if_neg (hne _), if_neg (by rw [hw]; simp)]
  have hb : bodyT (nines (3999 + 1) ++ [48]) = nines (3999 + 1) ++ [48] := by rw [e]; exact bodyT_ne (by decide)
  unfold rwT
  rw [hb, hl, if_neg (by decide)]
  rfl
/-! ### deep -/
def nest : Nat → Val
  | 0 => .tup []
  | n + 1 => .tup [nest n]
def brs (n : Nat) : List Nat := List.replicate n 91 ++ List.replicate n 93
theorem W_nest : ∀ n, W (nest n) = brs (n + 1)
  | 0 => rfl
  | n + 1 => by
    have ih := W_nest n
    have e : W (nest (n + 1)) = 91 :: (W (nest n) ++ [93]) := by simp [nest, W, Ws, joinS]
    rw [e, ih]
    unfold brs
    rw [List.replicate_succ (n := n + 1), List.replicate_succ' (n := n + 1)]
    simp
theorem good_nest : ∀ n, goodV (nest n) = true
  | 0 => rfl
  | n + 1 => by simp only [nest, goodV, goods, good_nest n, Bool.and_self]
theorem dep_nest : ∀ n, depthV (nest n) = n + 1
  | 0 => rfl
  | n + 1 => by simp only [nest, depthV, depthVs, dep_nest n]; omega
theorem sv_nest : ∀ n, sv (nest n) = 3 * n + 2
  | 0 => rfl
  | n + 1 => by simp only [nest, sv, svs, sv_nest n]; omega
theorem wr_nest : ∀ n m, 1000 < n + m → wrV n (nest m) = none
  | n, 0, h => by simp only [nest, wrV]; rw [if_neg (by omega)]
  | n, m + 1, h => by
    simp only [nest, wrV]
    split
    · simp only [wrs, wr_nest (n + 1) m (by omega)]; rfl
    · rfl
theorem P_brs : ∀ (n : Nat) (u : List Nat), P [] (List.replicate n 91 ++ u) = List.replicate n [91] ++ P [] u
  | 0, u => rfl
  | n + 1, u => by
    rw [List.replicate_succ, List.replicate_succ, List.cons_append, List.cons_append, ← P_brs n u]
    rfl
theorem run_over {r : List (List Nat)} : ∀ (n : Nat) (R : List (List Val)), 1000 < R.length + n → R.length ≤ 1000 → runP (List.replicate n [91] ++ r) ⟨R, true, []⟩ = none
  | 0, R, h, h2 => by omega
  | n + 1, R, h, h2 => by
    rw [List.replicate_succ, List.cons_append]
    simp only [runP, takeP, if_true, openP]
    by_cases hr : R.length < 1000
    · rw [decide_eq_true hr]
      exact run_over n ([] :: R) (by simp; omega) (by simp; omega)
    · rw [decide_eq_false hr]
      rfl
theorem rd_brs_over : rdT (brs (1000 + 1)) = none := by
  unfold rdT brs
  rw [P_brs, run_over _ _ (by simp) (by simp)]
  rfl
theorem mx_brs : ∀ (t : List Nat), (∀ d ∈ t, isX d = true) → mx 0 t = 0
  | [], _ => rfl
  | c :: t, h => by
    simp only [mx]
    rw [if_pos (h c List.mem_cons_self), mx_brs t fun d hd => h d (List.mem_cons_of_mem _ hd)]
    rfl
theorem rd_brs : rdT (brs (999 + 1)) = some (nest 999) := by
  have e := W_nest 999
  have hm : mx 0 (brs (999 + 1)) = 0 := mx_brs _ fun d hd => by
    unfold brs at hd
    rcases List.mem_append.mp hd with h | h <;> (have := (List.mem_replicate.mp h).2; subst this; rfl)
  have hc : cntO (brs (999 + 1)) = 1000 := by
    unfold brs cntO
    rw [List.countP_append, List.countP_replicate, List.countP_replicate]
    rfl
  have := read_back (v := nest 999) (good_nest _) (fun p hp => by
    rw [e] at hp
    have := P_mx _ _ p hp
    simp only [List.length_nil, hm] at this
    omega) (by
    rw [e]
    have := P_opens (brs (999 + 1)) [] (by simp)
    omega)
  rwa [e] at this
theorem repL_one (c n : Nat) : repL [c] (n : Int) = List.replicate n c := by
  unfold repL
  rw [Int.toNat_natCast]
  induction n with
  | zero => rfl
  | succ n ih => rw [List.replicate_succ, List.replicate_succ, List.flatten_cons, ih]; rfl
theorem mul_one {c n : Nat} (h : n ≤ line) : binV .mul (.str [c]) (.int (n : Int)) = some (.str (List.replicate n c)) := by
  have hl : line = 16777216 := rfl
  simp only [binV]
  rw [if_pos ⟨by omega, by simp; omega, by omega⟩, repL_one]
end Nt
end
section
set_option linter.all false
set_option maxRecDepth 100000
set_option maxHeartbeats 4000000
/-! k53, the plain part: the law. -/
namespace Nt
open Nl
variable {rep : Val → List Nat} {k : Nat} {cl mk : Nat → List Val → Store → Res Val}
variable {ns : List Int} {a2 a3 a4 a5 a6 a7 a8 a9 a10 a11 a12 a13 : Option Val}
/-- the four turns -/
theorem law_turns (C : Cl cl) {D : List Val} (hD : DrawOk 0 D) : ∃ a2' a3' a4' a5' a6' a7' a8' a9' D', evS (Tr rep) cl mk (.for_ [2] true (.bi .range [.cst (.int 4)]) b_law_3) (lw ns a2 a3 a4 a5 a6 a7 a8 a9 a10 a11 a12 a13) [.lst D] = .next (lw ns a2' a3' a4' a5' a6' a7' a8' a9' a10 a11 a12 a13) [.lst D'] := by
  have hrg : biV (Tr rep) .range [.int 4] = some (.lst (rangeN 0 1 4)) := rfl
  have hit : ev (Tr rep) cl mk (.bi .range [.cst (.int 4)]) (lw ns a2 a3 a4 a5 a6 a7 a8 a9 a10 a11 a12 a13) [.lst D] = .ok (.lst (rangeN 0 1 4)) [.lst D] := by
    simp only [ev_bi, evs_cons, evs_nil, ev_cst, Res.bind_ok, List.map_cons, List.map_nil, rdI_int, hrg, Res.opt_some]
  obtain ⟨e, s, hE, a2', a3', a4', a5', a6', a7', a8', a9', D2, rfl, rfl, hD2, _⟩ := forL_inv (t := [2]) (one := true) (all := rangeN 0 1 4) (body := fun env st => evSs (Tr rep) cl mk b_law_3 env st)
    (fun q env st => ∃ a2 a3 a4 a5 a6 a7 a8 a9 D', env = lw ns a2 a3 a4 a5 a6 a7 a8 a9 a10 a11 a12 a13 ∧ st = [.lst D'] ∧ DrawOk (1108 * (4 - q.length)) D' ∧ q.length ≤ 4)
    (fun x q env st ⟨a2, a3, a4, a5, a6, a7, a8, a9, D', h1, h2, h3, h4⟩ => by
      subst h1
      subst h2
      simp only [List.length_cons] at h3 h4
      obtain ⟨a3', a4', a5', a6', a7', a8', a9', D3, h5, h6⟩ := law3 (rep := rep) (mk := mk) (ns := ns) (a2 := some x) (a3 := a3) (a4 := a4) (a5 := a5) (a6 := a6) (a7 := a7) (a8 := a8) (a9 := a9) (a10 := a10) (a11 := a11) (a12 := a12) (a13 := a13) C h3 (by omega)
      exact ⟨lw ns (some x) a3 a4 a5 a6 a7 a8 a9 a10 a11 a12 a13, rfl, _, _, .inl h5, some x, a3', a4', a5', a6', a7', a8', a9', D3, rfl, rfl, h6.mono (by omega), by omega⟩)
    (rangeN 0 1 4) (lw ns a2 a3 a4 a5 a6 a7 a8 a9 a10 a11 a12 a13) [.lst D] ⟨a2, a3, a4, a5, a6, a7, a8, a9, D, rfl, rfl, hD.mono (by simp [rng_len]), by simp [rng_len]⟩
  exact ⟨a2', a3', a4', a5', a6', a7', a8', a9', D2, by rw [for_run hit walked_lst, hE]⟩
def bads : List Val := [.non, .str [65], .str [43], .str [97, 32, 98], .str [57, 97], .str [97, 98, 99, 100, 101, 102, 103, 104, 105, 106, 107, 108, 109], .lst [.int 1], .tup [.int 1, .non], .tup [.tup [.non]], .lst [.str [97]], .tup [.str [97], .lst []], .str [93], .tup [.str [93]]]
theorem bads_ok : ∀ v ∈ bads, v.data = true ∧ smalls v = true ∧ sv v ≤ 900000 ∧ wrV 1 v = none := by decide +kernel
theorem law_bads (C : Cl cl) {st : Store} : ∃ a10', evS (Tr rep) cl mk (.for_ [10] true (.lst [.cst (.non), .cst (.str [65]), .cst (.str [43]), .cst (.str [97, 32, 98]), .cst (.str [57, 97]), .cst (.str [97, 98, 99, 100, 101, 102, 103, 104, 105, 106, 107, 108, 109]), .lst [.cst (.int 1)], .tup [.cst (.int 1), .cst (.non)], .tup [.tup [.cst (.non)]], .lst [.cst (.str [97])], .tup [.cst (.str [97]), .lst []], .cst (.str [93]), .tup [.cst (.str [93])]]) b_law_4) (lw ns a2 a3 a4 a5 a6 a7 a8 a9 a10 a11 a12 a13) st = .next (lw ns a2 a3 a4 a5 a6 a7 a8 a9 a10' a11 a12 a13) st := by
  have hit : ev (Tr rep) cl mk (.lst [.cst (.non), .cst (.str [65]), .cst (.str [43]), .cst (.str [97, 32, 98]), .cst (.str [57, 97]), .cst (.str [97, 98, 99, 100, 101, 102, 103, 104, 105, 106, 107, 108, 109]), .lst [.cst (.int 1)], .tup [.cst (.int 1), .cst (.non)], .tup [.tup [.cst (.non)]], .lst [.cst (.str [97])], .tup [.cst (.str [97]), .lst []], .cst (.str [93]), .tup [.cst (.str [93])]]) (lw ns a2 a3 a4 a5 a6 a7 a8 a9 a10 a11 a12 a13) st = .ok (.lst bads) st := by
    simp [bads]
  obtain ⟨e, s, hE, a10', rfl, rfl, _⟩ := forL_inv (t := [10]) (one := true) (all := bads) (body := fun env st => evSs (Tr rep) cl mk b_law_4 env st)
    (fun q env st' => ∃ a10, env = lw ns a2 a3 a4 a5 a6 a7 a8 a9 a10 a11 a12 a13 ∧ st' = st ∧ ∀ v ∈ q, v ∈ bads)
    (fun x q env st' ⟨a10, h1, h2, h3⟩ => by
      subst h1
      subst h2
      obtain ⟨b1, b2, b3, b4⟩ := bads_ok x (h3 x List.mem_cons_self)
      exact ⟨lw ns a2 a3 a4 a5 a6 a7 a8 a9 (some x) a11 a12 a13, rfl, _, _, .inl (law4 C b1 b2 b3 b4), some x, rfl, rfl, fun v hv => h3 v (List.mem_cons_of_mem _ hv)⟩)
    bads (lw ns a2 a3 a4 a5 a6 a7 a8 a9 a10 a11 a12 a13) st ⟨a10, rfl, rfl, fun v hv => hv⟩
  exact ⟨a10', by rw [for_run hit walked_lst, hE]⟩
theorem law_long (C : Cl cl) {st : Store} : evS (Tr rep) cl mk (.ifs (.or (.cmp .ne (.call 22 [.cst (.int 0), .bi .int [.var 11]]) (.lst [.var 11])) (.or (.cmp .is (.call 22 [.cst (.int 1), .bin .add (.cst (.str [45])) (.var 11)]) (.cst (.non))) (.or (.cmp .isn (.call 22 [.cst (.int 1), .bin .add (.var 11) (.cst (.str [48]))]) (.cst (.non))) (.cmp .isn (.call 22 [.cst (.int 0), .bin .add (.bi .int [.var 11]) (.cst (.int 1))]) (.cst (.non)))))) [.ret (.cst (.bl false))] []) (lw ns a2 a3 a4 a5 a6 a7 a8 a9 a10 (some (.str (nines (3999 + 1)))) a12 a13) st = .next (lw ns a2 a3 a4 a5 a6 a7 a8 a9 a10 (some (.str (nines (3999 + 1)))) a12 a13) st := by
  have hli : line = 16777216 := rfl
  have hl := nines_len (3999 + 1)
  have i1 := bi_intS (T := Tr rep) (int_nines (n := 3999) (by decide))
  have w1 := wr_nines
  have w2 := wr_over
  have c1 := C.wr (.int (natOf (nines (3999 + 1)) : Int)) st rfl rfl (by decide) (fun t h => by rw [w1] at h; cases h; omega)
  have c4 := C.wr (.int ((natOf (nines (3999 + 1)) : Int) + 1)) st rfl rfl (by decide) (fun t h => by rw [w2] at h; cases h)
  obtain ⟨v, r2⟩ := rd_minus
  have r3 := rd_over
  have c2 := C.rd (45 :: nines (3999 + 1)) st (by rw [List.length_cons, hl]; decide)
  have c3 := C.rd (nines (3999 + 1) ++ [48]) st (by rw [List.length_append, hl]; decide)
  have g1 := add_str (s := [45]) (t := nines (3999 + 1)) (by rw [hl, hli]; decide)
  have g2 := add_str (s := nines (3999 + 1)) (t := [48]) (by rw [hl, hli]; decide)
  rw [w1] at c1
  rw [w2] at c4
  rw [r2] at c2
  rw [r3] at c3
  simp only [toldV, Option.map_some, Option.map_none] at c1 c2 c3 c4
  have e1 : [45] ++ nines (3999 + 1) = 45 :: nines (3999 + 1) := rfl
  rw [e1] at g1
  generalize nines (3999 + 1) ++ [48] = Y at c3 g2
  generalize 45 :: nines (3999 + 1) = Z at c2 g1
  generalize (natOf (nines (3999 + 1)) : Int) = N at i1 c1 c4
  generalize nines (3999 + 1) = L at i1 c1 g1 g2
  simp [i1, c1, c2, c3, c4, g1, g2, eqV_one]
theorem law_nest {st : Store} : ∃ a2', evS (Tr rep) cl mk (.for_ [2] true (.bi .range [.cst (.int 999)]) b_law_5) (lw ns a2 a3 a4 a5 a6 a7 a8 a9 a10 a11 (some (nest 0)) a13) st = .next (lw ns a2' a3 a4 a5 a6 a7 a8 a9 a10 a11 (some (nest 999)) a13) st := by
  have hrg : biV (Tr rep) .range [.int 999] = some (.lst (rangeN 0 1 999)) := by
    simp only [biV, biRange, rangeV]
    rw [if_pos (by decide)]
    rfl
  have hit : ev (Tr rep) cl mk (.bi .range [.cst (.int 999)]) (lw ns a2 a3 a4 a5 a6 a7 a8 a9 a10 a11 (some (nest 0)) a13) st = .ok (.lst (rangeN 0 1 999)) st := by
    simp only [ev_bi, evs_cons, evs_nil, ev_cst, Res.bind_ok, List.map_cons, List.map_nil, rdI_int, hrg, Res.opt_some]
  have hn := rng_len 0 999
  generalize rangeN 0 1 999 = R at hit hn
  obtain ⟨e, s, hE, a2', m, rfl, rfl, hm⟩ := forL_inv (t := [2]) (one := true) (all := R) (body := fun env st => evSs (Tr rep) cl mk b_law_5 env st)
    (fun q env st' => ∃ a2 m, env = lw ns a2 a3 a4 a5 a6 a7 a8 a9 a10 a11 (some (nest m)) a13 ∧ st' = st ∧ m + q.length = 999)
    (fun x q env st' ⟨a2, m, h1, h2, h3⟩ => by
      subst h1
      subst h2
      refine ⟨lw ns (some x) a3 a4 a5 a6 a7 a8 a9 a10 a11 (some (nest m)) a13, rfl, _, _, .inl ?_, some x, m + 1, rfl, rfl, by simp at h3; omega⟩
      rw [b_law_5]
      simp [nest])
    R (lw ns a2 a3 a4 a5 a6 a7 a8 a9 a10 a11 (some (nest 0)) a13) st ⟨a2, 0, rfl, rfl, by omega⟩
  simp at hm
  subst hm
  exact ⟨a2', by rw [for_run hit walked_lst, hE]⟩
theorem ev_brs {n : Nat} {env : Env} {st : Store} (h : 2 * n ≤ 5000) : ev (Tr rep) cl mk (.bin .add (.bin .mul (.cst (.str [91])) (.cst (.int (n : Int)))) (.bin .mul (.cst (.str [93])) (.cst (.int (n : Int))))) env st = .ok (.str (brs n)) st := by
  have hli : line = 16777216 := rfl
  have m1 := mul_one (c := 91) (n := n) (by omega)
  have m2 := mul_one (c := 93) (n := n) (by omega)
  have g := add_str (s := List.replicate n 91) (t := List.replicate n 93) (by simp; omega)
  simp only [ev_bin, ev_cst, Res.bind_ok, rd_str, rd_int, m1, m2, Res.opt_some, g]
  rfl
theorem law_deep (C : Cl cl) {st : Store} : evS (Tr rep) cl mk (.ifs (.or (.cmp .ne (.call 22 [.cst (.int 0), .var 12]) (.lst [.bin .add (.bin .mul (.cst (.str [91])) (.cst (.int 1000))) (.bin .mul (.cst (.str [93])) (.cst (.int 1000)))])) (.or (.cmp .isn (.call 22 [.cst (.int 0), .tup [.var 12]]) (.cst (.non))) (.cmp .isn (.call 22 [.cst (.int 1), .bin .add (.bin .mul (.cst (.str [91])) (.cst (.int 1001))) (.bin .mul (.cst (.str [93])) (.cst (.int 1001)))]) (.cst (.non))))) [.ret (.cst (.bl false))] []) (lw ns a2 a3 a4 a5 a6 a7 a8 a9 a10 a11 (some (nest 999)) a13) st = .next (lw ns a2 a3 a4 a5 a6 a7 a8 a9 a10 a11 (some (nest 999)) a13) st := by
  have hli : line = 16777216 := rfl
  have hb : ∀ n, (brs n).length = 2 * n := fun n => by simp [brs]; omega
  have g9 := good_nest 999
  have g10 := good_nest 1000
  have w1 := wr_good (sv (nest 999)) (nest 999) 1 (Nat.le_refl _) g9 (by rw [dep_nest]; decide)
  rw [W_nest] at w1
  have w2 := wr_nest 1 1000 (by decide)
  have c1 := C.wr (nest 999) st (good_data _ g9) (good_smalls _ _ (Nat.le_refl _) g9) (by rw [sv_nest]; decide) (fun t h => by rw [w1] at h; cases h; rw [hb, hli]; decide)
  have c2 := C.wr (nest 1000) st (good_data _ g10) (good_smalls _ _ (Nat.le_refl _) g10) (by rw [sv_nest]; decide) (fun t h => by rw [w2] at h; cases h)
  have c3 := C.rd (brs (1000 + 1)) st (by rw [hb]; decide)
  rw [w1] at c1
  rw [w2] at c2
  rw [rd_brs_over] at c3
  simp only [toldV, Option.map_some, Option.map_none] at c1 c2 c3
  have e1 := fun env => ev_brs (rep := rep) (cl := cl) (mk := mk) (n := 1000) (env := env) (st := st) (by decide)
  have e2 := fun env => ev_brs (rep := rep) (cl := cl) (mk := mk) (n := 1001) (env := env) (st := st) (by decide)
  have en : nest 1000 = .tup [nest 999] := rfl
  rw [en] at c2
  change _ = Res.ok (Val.lst [Val.str (brs 1000)]) st at c1
  change cl 22 [Val.int 1, Val.str (brs 1001)] st = _ at c3
  generalize brs 1000 = X at c1 e1
  generalize brs 1001 = Y at c3 e2
  generalize nest 999 = Z at c1 c2
  have f1 : (((1000 : Nat) : Int)) = 1000 := rfl
  have f2 : (((1001 : Nat) : Int)) = 1001 := rfl
  rw [f1] at e1
  rw [f2] at e2
  simp only [evS_ifs, ev_or, ev_cmp, ev_call, ev_lst, ev_tup, evs_cons, evs_nil, ev_cst, ev_var, List.getElem?_cons_succ, List.getElem?_cons_zero, Res.bind_ok, c1, c2, c3, e1, e2, rd_lst, cmp_ne, eqV_one, beq_self_eq_true, Option.map_some, Bool.not_true, Res.opt_some, asBool_bl, Bool.false_eq_true, if_false, rd_non, cmp_isn, isV_non, Res.into_ok, evSs_nil]
def sevs : List Val := [.non, .int 5, .tup [.int 1], .str [], .str [91, 97, 93, 91, 98, 93], .str [97, 44, 98], .str [91, 97]]
def sevOk : Val → Bool
  | .str s => decide (s.length ≤ 4000000) && (rdT s).isNone
  | _ => true
theorem sevs_ok : ∀ v ∈ sevs, v.data = true ∧ sevOk v = true := by decide +kernel
theorem sev_at (C : Cl cl) {v : Val} {st : Store} (h : v ∈ sevs) : cl 22 [.int 1, v] st = .ok .non st := by
  obtain ⟨h1, h2⟩ := sevs_ok v h
  by_cases hs : ∃ s, v = .str s
  · obtain ⟨s, rfl⟩ := hs
    simp only [sevOk, Bool.and_eq_true, decide_eq_true_eq] at h2
    have := C.rd s st h2.1
    rw [Option.isNone_iff_eq_none.mp h2.2] at this
    exact this
  · exact C.oth v st h1 fun s e => hs ⟨s, e⟩
theorem law_end (C : Cl cl) {st : Store} : evS (Tr rep) cl mk (.ret (.and (.cmp .isn (.call 22 [.cst (.int 1), .bin .add (.bin .mul (.cst (.str [91])) (.cst (.int 1000))) (.bin .mul (.cst (.str [93])) (.cst (.int 1000)))]) (.cst (.non))) (.cmp .eq (x_law_6) (.bin .mul (.lst [.cst (.non)]) (.cst (.int 7)))))) (lw ns a2 a3 a4 a5 a6 a7 a8 a9 a10 a11 a12 a13) st = .ret (.bl true) st := by
  have hli : line = 16777216 := rfl
  have hb : ∀ n, (brs n).length = 2 * n := fun n => by simp [brs]; omega
  have c3 := C.rd (brs (999 + 1)) st (by rw [hb]; decide)
  rw [rd_brs] at c3
  simp only [toldV] at c3
  have e1 := ev_brs (rep := rep) (cl := cl) (mk := mk) (n := 1000) (env := lw ns a2 a3 a4 a5 a6 a7 a8 a9 a10 a11 a12 a13) (st := st) (by decide)
  change cl 22 [Val.int 1, Val.str (brs 1000)] st = _ at c3
  have f1 : (((1000 : Nat) : Int)) = 1000 := rfl
  rw [f1] at e1
  have hx : ev (Tr rep) cl mk x_law_6 (lw ns a2 a3 a4 a5 a6 a7 a8 a9 a10 a11 a12 a13) st = .ok (.lst (sevs.map fun _ => .non)) st := by
    rw [x_law_6]
    refine cp1_lst (v := .lst sevs) (fun _ => .non) (by decide) (by simp [sevs]) walked_lst fun x hx => ?_
    simp [sev_at C hx]
  have hm : binV .mul (.lst [.non]) (.int 7) = some (.lst (sevs.map fun _ => .non)) := by
    simp only [binV]
    rw [if_pos (by decide)]
    rfl
  have hq : eqV (.lst (sevs.map fun _ => .non)) (.lst (sevs.map fun _ => .non)) = some true := by decide +kernel
  generalize brs 1000 = X at c3 e1
  generalize nest 999 = Z at c3
  have hm2 : ev (Tr rep) cl mk (.bin .mul (.lst [.cst (.non)]) (.cst (.int 7))) (lw ns a2 a3 a4 a5 a6 a7 a8 a9 a10 a11 a12 a13) st = .ok (.lst (sevs.map fun _ => .non)) st := by
    simp only [ev_bin, ev_lst, evs_cons, evs_nil, ev_cst, Res.bind_ok, rd_lst, rd_int, hm, Res.opt_some]
  generalize (sevs.map fun _ => Val.non) = Y at hx hq hm2
  simp only [evS_ret, ev_and, ev_cmp, ev_call, evs_cons, evs_nil, ev_cst, Res.bind_ok, c3, e1, hx, hm2, rd_lst, rd_non, cmp_isn, isV_lstn, cmp_eq, hq, Option.map_some, Bool.not_false, Res.opt_some, asBool_bl, if_true, Res.into_ok]
/-- the whole law -/
theorem law_run (ns : List Int) (h : ns.length ≤ 63) (mk : Nat → List Val → Store → Res Val) : runDf (Tr rep) (callF (Tr rep) (k + 150)) mk d_law [.scr ns] [] = .ok (.bl true) [] := by
  have C : Cl (callF (Tr rep) (k + 150)) := cl_all
  generalize callF (Tr rep) (k + 150) = cl at C ⊢
  obtain ⟨D, hd, hD⟩ := C.draw ns h
  have e0 : env0 d_law [.scr ns] = [some (.scr ns), none, none, none, none, none, none, none, none, none, none, none, none, none] := rfl
  have s0 : evS (Tr rep) cl mk (.asg (.nm 1) (.call 15 [.var 0])) [some (.scr ns), none, none, none, none, none, none, none, none, none, none, none, none, none] [] = .next (lw ns none none none none none none none none none none none none) [.lst D] := by
    simp [hd]
  obtain ⟨b2, b3, b4, b5, b6, b7, b8, b9, D', s1⟩ := law_turns (rep := rep) (mk := mk) (ns := ns) (a2 := none) (a3 := none) (a4 := none) (a5 := none) (a6 := none) (a7 := none) (a8 := none) (a9 := none) (a10 := none) (a11 := none) (a12 := none) (a13 := none) C hD
  obtain ⟨b10, s2⟩ := law_bads (rep := rep) (mk := mk) (ns := ns) (a2 := b2) (a3 := b3) (a4 := b4) (a5 := b5) (a6 := b6) (a7 := b7) (a8 := b8) (a9 := b9) (a10 := none) (a11 := none) (a12 := none) (a13 := none) C (st := [.lst D'])
  have s3 : evS (Tr rep) cl mk (.asg (.nm 11) (.bin .mul (.cst (.str [57])) (.cst (.int 4000)))) (lw ns b2 b3 b4 b5 b6 b7 b8 b9 b10 none none none) [.lst D'] = .next (lw ns b2 b3 b4 b5 b6 b7 b8 b9 b10 (some (.str (nines (3999 + 1)))) none none) [.lst D'] := by
    have hli : line = 16777216 := rfl
    have m := mul_one (c := 57) (n := 3999 + 1) (by rw [hli]; decide)
    have f : (((3999 + 1 : Nat) : Int)) = 4000 := rfl
    rw [f] at m
    change _ = some (Val.str (nines (3999 + 1))) at m
    generalize nines (3999 + 1) = X at m ⊢
    simp [m]
  have s4 := law_long (rep := rep) (mk := mk) (ns := ns) (a2 := b2) (a3 := b3) (a4 := b4) (a5 := b5) (a6 := b6) (a7 := b7) (a8 := b8) (a9 := b9) (a10 := b10) (a12 := none) (a13 := none) C (st := [.lst D'])
  generalize nines (3999 + 1) = N at s3 s4
  have s5 : evS (Tr rep) cl mk (.asg (.nm 12) (.tup [])) (lw ns b2 b3 b4 b5 b6 b7 b8 b9 b10 (some (.str N)) none none) [.lst D'] = .next (lw ns b2 b3 b4 b5 b6 b7 b8 b9 b10 (some (.str N)) (some (nest 0)) none) [.lst D'] := by
    simp [nest]
  obtain ⟨b2', s6⟩ := law_nest (rep := rep) (cl := cl) (mk := mk) (ns := ns) (a2 := b2) (a3 := b3) (a4 := b4) (a5 := b5) (a6 := b6) (a7 := b7) (a8 := b8) (a9 := b9) (a10 := b10) (a11 := some (.str N)) (a13 := none) (st := [.lst D'])
  have s7 := law_deep (rep := rep) (mk := mk) (ns := ns) (a2 := b2') (a3 := b3) (a4 := b4) (a5 := b5) (a6 := b6) (a7 := b7) (a8 := b8) (a9 := b9) (a10 := b10) (a11 := some (.str N)) (a13 := none) C (st := [.lst D'])
  generalize nest 999 = Z at s6 s7
  have s8 := law_end (rep := rep) (mk := mk) (ns := ns) (a2 := b2') (a3 := b3) (a4 := b4) (a5 := b5) (a6 := b6) (a7 := b7) (a8 := b8) (a9 := b9) (a10 := b10) (a11 := some (.str N)) (a12 := some Z) (a13 := none) C (st := [.lst D'])
  refine pure_ret (s := [.lst D']) rfl rfl rfl rfl ?_ rfl
  rw [e0, d_law]
  dsimp only
  rw [evSs_cons, s0, RS.then_next, evSs_cons, s1, RS.then_next, evSs_cons, s2, RS.then_next, evSs_cons, s3, RS.then_next, evSs_cons, s4, RS.then_next, evSs_cons, s5, RS.then_next, evSs_cons, s6, RS.then_next, evSs_cons, s7, RS.then_next, evSs_cons, s8, RS.then_ret]
end Nt
end
section
set_option Elab.async false
set_option linter.all false
set_option maxRecDepth 100000
set_option maxHeartbeats 0
/-! NlT_k53: the core text against the row (printed by gen.py). -/
namespace Nt
open PySem PySem.Spec PyProof.Rows L2 Nl Nlx
def top (i : Nat) : Stmt := PySem.Challenge.pw_nearlyalike_k53_whole_plain_data.main.body.getD i (.Pass ⟨0, 0, 0, 0⟩)
def h_is_whole : He.DefD := ⟨("is_whole", none), "is_whole", "is_whole", defArgs (top 4), defBody (top 4), defScope (top 4), [], []⟩
def h_is_word : He.DefD := ⟨("is_word", none), "is_word", "is_word", defArgs (top 12), defBody (top 12), defScope (top 12), [], []⟩
def h_is_short : He.DefD := ⟨("is_short", none), "is_short", "is_short", defArgs (top 13), defBody (top 13), defScope (top 13), [], []⟩
def h_atom_text : He.DefD := ⟨("atom_text", none), "atom_text", "atom_text", defArgs (top 14), defBody (top 14), defScope (top 14), [], []⟩
def h_write_data : He.DefD := ⟨("write_data", none), "write_data", "write_data", defArgs (top 15), defBody (top 15), defScope (top 15), [], []⟩
def h_read_whole : He.DefD := ⟨("read_whole", none), "read_whole", "read_whole", defArgs (top 16), defBody (top 16), defScope (top 16), [], []⟩
def h_read_atom : He.DefD := ⟨("read_atom", none), "read_atom", "read_atom", defArgs (top 17), defBody (top 17), defScope (top 17), [], []⟩
def h_pieces_of : He.DefD := ⟨("pieces_of", none), "pieces_of", "pieces_of", defArgs (top 18), defBody (top 18), defScope (top 18), [], []⟩
def h_DataReader___init__ : He.DefD := ⟨("DataReader", some "__init__"), "__init__", "DataReader.__init__", defArgs (inCls (top 19) 0), defBody (inCls (top 19) 0), defScope (inCls (top 19) 0), [], []⟩
def h_DataReader_item : He.DefD := ⟨("DataReader", some "item"), "item", "DataReader.item", defArgs (inCls (top 19) 1), defBody (inCls (top 19) 1), defScope (inCls (top 19) 1), [], []⟩
def h_DataReader_open_one : He.DefD := ⟨("DataReader", some "open_one"), "open_one", "DataReader.open_one", defArgs (inCls (top 19) 2), defBody (inCls (top 19) 2), defScope (inCls (top 19) 2), [], []⟩
def h_DataReader_close_one : He.DefD := ⟨("DataReader", some "close_one"), "close_one", "DataReader.close_one", defArgs (inCls (top 19) 3), defBody (inCls (top 19) 3), defScope (inCls (top 19) 3), [], []⟩
def h_DataReader_comma : He.DefD := ⟨("DataReader", some "comma"), "comma", "DataReader.comma", defArgs (inCls (top 19) 4), defBody (inCls (top 19) 4), defScope (inCls (top 19) 4), [], []⟩
def h_DataReader_take : He.DefD := ⟨("DataReader", some "take"), "take", "DataReader.take", defArgs (inCls (top 19) 5), defBody (inCls (top 19) 5), defScope (inCls (top 19) 5), [], []⟩
def h_read_data : He.DefD := ⟨("read_data", none), "read_data", "read_data", defArgs (top 20), defBody (top 20), defScope (top 20), [], []⟩
def h__law_draw : He.DefD := ⟨("_law_draw", none), "_law_draw", "_law_draw", defArgs (top 22), defBody (top 22), defScope (top 22), [], []⟩
def h__law_take : He.DefD := ⟨("_law_take", none), "_law_take", "_law_take", defArgs (top 23), defBody (top 23), defScope (top 23), [], []⟩
def h__law_data : He.DefD := ⟨("_law_data", none), "_law_data", "_law_data", defArgs (top 24), defBody (top 24), defScope (top 24), [], []⟩
def h__law_word : He.DefD := ⟨("_law_word", none), "_law_word", "_law_word", defArgs (top 25), defBody (top 25), defScope (top 25), [], []⟩
def h__law_written : He.DefD := ⟨("_law_written", none), "_law_written", "_law_written", defArgs (top 26), defBody (top 26), defScope (top 26), [], []⟩
def h__law_number : He.DefD := ⟨("_law_number", none), "_law_number", "_law_number", defArgs (top 27), defBody (top 27), defScope (top 27), [], []⟩
def h__law_read : He.DefD := ⟨("_law_read", none), "_law_read", "_law_read", defArgs (top 28), defBody (top 28), defScope (top 28), [], []⟩
def h__law_told : He.DefD := ⟨("_law_told", none), "_law_told", "_law_told", defArgs (top 29), defBody (top 29), defScope (top 29), [], []⟩
def h_law : He.DefD := ⟨("law", none), "law", "law", defArgs (top 30), defBody (top 30), defScope (top 30), [], []⟩
def M : Md := { glo := [("LETTERS", 0), ("DIGITS", 1), ("MOST_WORD", 2), ("MOST_DEPTH", 3), ("MOST_DIGITS", 4), ("SIGNS", 5)], dfn := [("is_whole", 0), ("is_word", 1), ("is_short", 2), ("atom_text", 3), ("write_data", 4), ("read_whole", 5), ("read_atom", 6), ("pieces_of", 7), ("read_data", 14), ("_law_draw", 15), ("_law_take", 16), ("_law_data", 17), ("_law_word", 18), ("_law_written", 19), ("_law_number", 20), ("_law_read", 21), ("_law_told", 22)], cln := [("DataReader", 0)], mths := [("__init__", 0), ("close_one", 1), ("comma", 2), ("item", 3), ("open_one", 4), ("take", 5)], flds := [("tuples", 0), ("ready", 1), ("told", 2)], blt := ["abs", "all", "any", "bool", "enumerate", "int", "isinstance", "len", "range", "str", "tuple"], exn := [("Fault", 0), ("Malformed", 1)] }
def Ml : Md := { glo := [("LETTERS", 0), ("DIGITS", 1), ("MOST_WORD", 2), ("MOST_DEPTH", 3), ("MOST_DIGITS", 4), ("SIGNS", 5)], dfn := [("is_whole", 0), ("is_word", 1), ("is_short", 2), ("atom_text", 3), ("write_data", 4), ("read_whole", 5), ("read_atom", 6), ("pieces_of", 7), ("read_data", 14), ("_law_draw", 15), ("_law_take", 16), ("_law_data", 17), ("_law_word", 18), ("_law_written", 19), ("_law_number", 20), ("_law_read", 21), ("_law_told", 22)], cln := [("DataReader", 0)], mths := [("__init__", 0), ("close_one", 1), ("comma", 2), ("item", 3), ("open_one", 4), ("take", 5)], flds := [("tuples", 0), ("ready", 1), ("told", 2)], blt := ["abs", "all", "any", "bool", "enumerate", "int", "isinstance", "len", "range", "repr", "str", "tuple"], exn := [("Fault", 0), ("Malformed", 1)] }
def T : Tab := Tr repT
def hds : List He.DefD := [h_is_whole, h_is_word, h_is_short, h_atom_text, h_write_data, h_read_whole, h_read_atom, h_pieces_of, h_DataReader___init__, h_DataReader_item, h_DataReader_open_one, h_DataReader_close_one, h_DataReader_comma, h_DataReader_take, h_read_data, h__law_draw, h__law_take, h__law_data, h__law_word, h__law_written, h__law_number, h__law_read, h__law_told, h_law]
def C : HdC := { fns := hds.map (·.at_), cls := ["DataReader"], exn := ["Fault", "Malformed"], fld := ["tuples", "ready", "told"], kon := [("SIGNS", ["+", "-", "."])] }
theorem ok_is_whole : DefOk M h_is_whole d_is_whole ["value"] ["value"] := ⟨⟨rfl, rfl, rfl, by decide +kernel, rfl, by decide +kernel, by decide +kernel⟩, by decide +kernel, rfl, rfl, rfl, rfl, fun _ _ _ _ _ _ us hl => match us, hl with | [_], _ => rfl⟩
theorem ok_is_word : DefOk M h_is_word d_is_word ["value", "sign"] ["value"] := ⟨⟨rfl, rfl, rfl, by decide +kernel, rfl, by decide +kernel, by decide +kernel⟩, by decide +kernel, rfl, rfl, rfl, rfl, fun _ _ _ _ _ _ us hl => match us, hl with | [_], _ => rfl⟩
theorem ok_is_short : DefOk M h_is_short d_is_short ["value", "most", "_"] ["value"] := ⟨⟨rfl, rfl, rfl, by decide +kernel, rfl, by decide +kernel, by decide +kernel⟩, by decide +kernel, rfl, rfl, rfl, rfl, fun _ _ _ _ _ _ us hl => match us, hl with | [_], _ => rfl⟩
theorem ok_atom_text : DefOk M h_atom_text d_atom_text ["value"] ["value"] := ⟨⟨rfl, rfl, rfl, by decide +kernel, rfl, by decide +kernel, by decide +kernel⟩, by decide +kernel, rfl, rfl, rfl, rfl, fun _ _ _ _ _ _ us hl => match us, hl with | [_], _ => rfl⟩
theorem ok_write_data : DefOk M h_write_data d_write_data ["data", "waiting", "found", "one", "depth", "k"] ["data"] := ⟨⟨rfl, rfl, rfl, by decide +kernel, rfl, by decide +kernel, by decide +kernel⟩, by decide +kernel, rfl, rfl, rfl, rfl, fun _ _ _ _ _ _ us hl => match us, hl with | [_], _ => rfl⟩
theorem ok_read_whole : DefOk M h_read_whole d_read_whole ["text", "body", "sign"] ["text"] := ⟨⟨rfl, rfl, rfl, by decide +kernel, rfl, by decide +kernel, by decide +kernel⟩, by decide +kernel, rfl, rfl, rfl, rfl, fun _ _ _ _ _ _ us hl => match us, hl with | [_], _ => rfl⟩
theorem ok_read_atom : DefOk M h_read_atom d_read_atom ["piece"] ["piece"] := ⟨⟨rfl, rfl, rfl, by decide +kernel, rfl, by decide +kernel, by decide +kernel⟩, by decide +kernel, rfl, rfl, rfl, rfl, fun _ _ _ _ _ _ us hl => match us, hl with | [_], _ => rfl⟩
theorem ok_pieces_of : DefOk M h_pieces_of d_pieces_of ["text", "found", "start", "place", "sign"] ["text"] := ⟨⟨rfl, rfl, rfl, by decide +kernel, rfl, by decide +kernel, by decide +kernel⟩, by decide +kernel, rfl, rfl, rfl, rfl, fun _ _ _ _ _ _ us hl => match us, hl with | [_], _ => rfl⟩
theorem ok_DataReader___init__ : DefOk M h_DataReader___init__ d_DataReader___init__ ["self"] ["self"] := ⟨⟨rfl, rfl, rfl, by decide +kernel, rfl, by decide +kernel, by decide +kernel⟩, by decide +kernel, rfl, rfl, rfl, rfl, fun _ _ _ _ _ _ us hl => match us, hl with | [_], _ => rfl⟩
theorem ok_DataReader_item : DefOk M h_DataReader_item d_DataReader_item ["self", "value"] ["self", "value"] := ⟨⟨rfl, rfl, rfl, by decide +kernel, rfl, by decide +kernel, by decide +kernel⟩, by decide +kernel, rfl, rfl, rfl, rfl, fun _ _ _ _ _ _ us hl => match us, hl with | [_, _], _ => rfl⟩
theorem ok_DataReader_open_one : DefOk M h_DataReader_open_one d_DataReader_open_one ["self"] ["self"] := ⟨⟨rfl, rfl, rfl, by decide +kernel, rfl, by decide +kernel, by decide +kernel⟩, by decide +kernel, rfl, rfl, rfl, rfl, fun _ _ _ _ _ _ us hl => match us, hl with | [_], _ => rfl⟩
theorem ok_DataReader_close_one : DefOk M h_DataReader_close_one d_DataReader_close_one ["self", "found"] ["self"] := ⟨⟨rfl, rfl, rfl, by decide +kernel, rfl, by decide +kernel, by decide +kernel⟩, by decide +kernel, rfl, rfl, rfl, rfl, fun _ _ _ _ _ _ us hl => match us, hl with | [_], _ => rfl⟩
theorem ok_DataReader_comma : DefOk M h_DataReader_comma d_DataReader_comma ["self"] ["self"] := ⟨⟨rfl, rfl, rfl, by decide +kernel, rfl, by decide +kernel, by decide +kernel⟩, by decide +kernel, rfl, rfl, rfl, rfl, fun _ _ _ _ _ _ us hl => match us, hl with | [_], _ => rfl⟩
theorem ok_DataReader_take : DefOk M h_DataReader_take d_DataReader_take ["self", "piece"] ["self", "piece"] := ⟨⟨rfl, rfl, rfl, by decide +kernel, rfl, by decide +kernel, by decide +kernel⟩, by decide +kernel, rfl, rfl, rfl, rfl, fun _ _ _ _ _ _ us hl => match us, hl with | [_, _], _ => rfl⟩
theorem ok_read_data : DefOk M h_read_data d_read_data ["text", "reader", "piece"] ["text"] := ⟨⟨rfl, rfl, rfl, by decide +kernel, rfl, by decide +kernel, by decide +kernel⟩, by decide +kernel, rfl, rfl, rfl, rfl, fun _ _ _ _ _ _ us hl => match us, hl with | [_], _ => rfl⟩
theorem ok__law_draw : DefOk M h__law_draw d__law_draw ["script", "seed", "cell"] ["script"] := ⟨⟨rfl, rfl, rfl, by decide +kernel, rfl, by decide +kernel, by decide +kernel⟩, by decide +kernel, rfl, rfl, rfl, rfl, fun _ _ _ _ _ _ us hl => match us, hl with | [_], _ => rfl⟩
theorem ok__law_take : DefOk M h__law_take d__law_take ["draw", "many", "found"] ["draw", "many"] := ⟨⟨rfl, rfl, rfl, by decide +kernel, rfl, by decide +kernel, by decide +kernel⟩, by decide +kernel, rfl, rfl, rfl, rfl, fun _ _ _ _ _ _ us hl => match us, hl with | [_, _], _ => rfl⟩
theorem ok__law_data : DefOk M h__law_data d__law_data ["draw", "deep", "k", "turn"] ["draw", "deep"] := ⟨⟨rfl, rfl, rfl, by decide +kernel, rfl, by decide +kernel, by decide +kernel⟩, by decide +kernel, rfl, rfl, rfl, rfl, fun _ _ _ _ _ _ us hl => match us, hl with | [_, _], _ => rfl⟩
theorem ok__law_word : DefOk M h__law_word d__law_word ["value", "sign"] ["value"] := ⟨⟨rfl, rfl, rfl, by decide +kernel, rfl, by decide +kernel, by decide +kernel⟩, by decide +kernel, rfl, rfl, rfl, rfl, fun _ _ _ _ _ _ us hl => match us, hl with | [_], _ => rfl⟩
theorem ok__law_written : DefOk M h__law_written d__law_written ["data", "parts", "item"] ["data"] := ⟨⟨rfl, rfl, rfl, by decide +kernel, rfl, by decide +kernel, by decide +kernel⟩, by decide +kernel, rfl, rfl, rfl, rfl, fun _ _ _ _ _ _ us hl => match us, hl with | [_], _ => rfl⟩
theorem ok__law_number : DefOk M h__law_number d__law_number ["text", "body", "sign"] ["text"] := ⟨⟨rfl, rfl, rfl, by decide +kernel, rfl, by decide +kernel, by decide +kernel⟩, by decide +kernel, rfl, rfl, rfl, rfl, fun _ _ _ _ _ _ us hl => match us, hl with | [_], _ => rfl⟩
theorem ok__law_read : DefOk M h__law_read d__law_read ["text", "rows", "done", "token", "ahead", "sign", "atom", "row"] ["text"] := ⟨⟨rfl, rfl, rfl, by decide +kernel, rfl, by decide +kernel, by decide +kernel⟩, by decide +kernel, rfl, rfl, rfl, rfl, fun _ _ _ _ _ _ us hl => match us, hl with | [_], _ => rfl⟩
theorem ok__law_told : DefOk M h__law_told d__law_told ["which", "value"] ["which", "value"] := ⟨⟨rfl, rfl, rfl, by decide +kernel, rfl, by decide +kernel, by decide +kernel⟩, by decide +kernel, rfl, rfl, rfl, rfl, fun _ _ _ _ _ _ us hl => match us, hl with | [_, _], _ => rfl⟩
theorem ok_law : DefOk Ml h_law d_law ["script", "draw", "turn", "data", "text", "again", "i", "sign", "other", "due", "bad", "long", "deep", "value"] ["script"] := ⟨⟨rfl, rfl, rfl, by decide +kernel, rfl, by decide +kernel, by decide +kernel⟩, by decide +kernel, rfl, rfl, rfl, rfl, fun _ _ _ _ _ _ us hl => match us, hl with | [_], _ => rfl⟩
theorem ents : Ents M hds T.defs := .cons ok_is_whole (.cons ok_is_word (.cons ok_is_short (.cons ok_atom_text (.cons ok_write_data (.cons ok_read_whole (.cons ok_read_atom (.cons ok_pieces_of (.cons ok_DataReader___init__ (.cons ok_DataReader_item (.cons ok_DataReader_open_one (.cons ok_DataReader_close_one (.cons ok_DataReader_comma (.cons ok_DataReader_take (.cons ok_read_data (.cons ok__law_draw (.cons ok__law_take (.cons ok__law_data (.cons ok__law_word (.cons ok__law_written (.cons ok__law_number (.cons ok__law_read (.cons ok__law_told (.nil)))))))))))))))))))))))
end Nt
end
section
set_option Elab.async false
set_option linter.all false
set_option maxRecDepth 100000
set_option maxHeartbeats 0
/-! NlH_k53: the head (printed by gen.py). -/
namespace Nt
open PySem PySem.Spec PyProof.Rows L2 Nl Nlx
abbrev R : PySem.W.OpenRow := PySem.W.OpenLaw.row PySem.Challenge.rw_nearlyalike_k53_whole_plain_data
abbrev hk : PySem.W.Hook := hookN 5 C T Ml hds
def ob (s : PySem.W.SharedT) : Bool × He.AlT := obsN 5 C T Ml hds (HandSHeadRun.getT s)
theorem ob_eq (s : PySem.W.SharedT) : ob s = hk.obs s.abs := obsN_eq (HandSHeadRun.getT_eq s)
def loose : List PySem.Str := ["Fault", "Malformed", "is_whole", "LETTERS", "DIGITS", "MOST_WORD", "MOST_DEPTH", "MOST_DIGITS", "SIGNS", "is_word", "is_short", "atom_text", "write_data", "read_whole", "read_atom", "pieces_of", "DataReader", "read_data", "_law_draw", "_law_take", "_law_data", "_law_word", "_law_written", "_law_number", "_law_read", "_law_told"]
abbrev RE (w : World) : Prop := HandSHeadRun.RunEq R (PySem.W.view R.prog [30]) hk ob 3000 loose w
theorem runF (w : World) : RE (w.withFollow "special-get-raises" false) := by
  intro os
  kernel_rfl
theorem runT (w : World) : RE (w.withFollow "special-get-raises" true) := by
  intro os
  kernel_rfl
theorem run (w : World) : RE w := PySem.W.byRow2 "special-get-raises" (P := RE) runF runT w
end Nt
end
section
set_option linter.all false
set_option maxRecDepth 100000
namespace Nt
open Nl Nlx
theorem law_from {rep : Val → List Nat} {n : Nat} (hn : 150 ≤ n) (ns : List Int) (h : ns.length ≤ 63) (mk : Nat → List Val → Store → Res Val) : runDf (Tr rep) (callF (Tr rep) n) mk d_law [.scr ns] [] = .ok (.bl true) [] := by
  obtain ⟨k, rfl⟩ : ∃ k, n = k + 150 := ⟨n - 150, by omega⟩
  exact law_run ns h mk
theorem plain (ns : List Int) (h : ns.length ≤ 63) : ∃ st', runDf T (callF T (150 + 1)) (mkOf T (callF T 150)) d_law [.scr ns] [] = .ok (.bl true) st' := by
  refine ⟨[], ?_⟩
  generalize hn : 150 + 1 = n
  generalize mkOf T (callF T 150) = mk
  have h2 : 150 ≤ n := by omega
  clear hn
  unfold T
  exact law_from h2 ns h mk
end Nt
end
set_option Elab.async false
set_option linter.all false
open PySem PySem.W PySem.Calls PyProof.Rows
set_option maxRecDepth 100000 in
set_option maxHeartbeats 0 in
theorem PySem.Challenge.cw_nearlyalike_k53_whole_plain_data_holds : PySem.Challenge.rw_nearlyalike_k53_whole_plain_data.Holds := by
  w_on; o_law
  refine HandSHeadRun.head_any (r := OpenLaw.row PySem.Challenge.rw_nearlyalike_k53_whole_plain_data) (q := view (OpenLaw.row PySem.Challenge.rw_nearlyalike_k53_whole_plain_data).prog [30]) (H := Nt.hk) (ob := Nt.ob) (M := 3000) (loose := Nt.loose) (d := HandSHeadRun.topDef (OpenLaw.row PySem.Challenge.rw_nearlyalike_k53_whole_plain_data).prog 30) (kwd := []) Nt.ob_eq
    (by kernel_rfl) (fun s => by kernel_rfl) Nt.run (by kernel_rfl) (by kernel_rfl) (by kernel_rfl) (by rfl) (by first | assumption | decide +kernel) (by decide +kernel) ⟨rfl, rfl, rfl, rfl, rfl, by decide +kernel⟩ ?hw ?hc
  case hw => w_witness2
  case hc =>
    exact Nlx.walk_row (l := PySem.Challenge.rw_nearlyalike_k53_whole_plain_data) (n := 63) (k := 150) (x := "script") (T := Nt.T) (M := Nt.M) (Ml := Nt.Ml) (C := Nt.C) (hds := Nt.hds) (dl := Nt.d_law) (Dl := Nt.h_law) rfl (by decide) (by kernel_rfl) ⟨rfl, by decide, by decide⟩ (by kernel_rfl) rfl rfl (by decide +kernel) (by decide +kernel)
      rfl Nt.ents rfl rfl Nt.ok_law Nt.plain
